import PyProof.Rows.All
import Wide.All
import OpenK.AllK
import Wide.FinOn
import PySem.Challenge.RW_wholeamounts_k20_whole_threads_of_pictur
import HandS.ForMost
import HandS.Wide
import HandS.Deep
import HandS.IsInst
import HandS.Evl
import HandS.Steps
import HandS.Zip
import HandS.Defaults
import HandS.HeadHook2
import HandS.Style
import KE.KRevSl
import PyProof.LongRange
import HandS.DictComp
import HandS.TupLen
import HandS.TryOnly
import HandS.Conv
import PyProof.SeqIndex
import PyProof.Rows.RegFStrParts
import PyProof.Rows.StrJoinMade
import PyProof.ReprRoads
import HandS.HeadEnd
import KE.KStateDown
import HandS.Base
import HandS.Call
import HandS.Ends
import HandS.More
import HandS.Words
import HandS.WordsExc
import HandS.Head0
import HandS.Head1
import HandS.Head2
import HandS.HeadHook1
set_option autoImplicit false
set_option Elab.async false
set_option linter.all false
set_option maxRecDepth 100000
set_option maxHeartbeats 2000000
/-! A flat layer over HandS: values as trees (PyData) that avoid owned addresses, frames as lists of what their slots hold. -/
namespace Fl
open PySem PySem.Spec PyProof.Rows L2

abbrev D := PyData
abbrev H0 : Hp := fun _ => none

/-! ### trees -/
mutual
inductive Is (K : PySem.W.Frag) (A : Addr → Prop) (H : Hp) : V → D → Prop
  | non : Is K A H .non .none
  | bl (b : Bool) : Is K A H (.bl b) (.bool b)
  | int (i : Int) : Is K A H (.int i) (.int i)
  | str (x : Str) : Is K A H (.str x) (.str x)
  | lst {a : Addr} {xs : List V} {ds : List D} : Rd H a (.lst xs) → ¬ A a → IsAll K A H xs ds → Is K A H (.ref a) (.list ds)
  | lstK {a : Addr} {xs : List V} {ds : List D} : SqL K H0 a xs → IsAll K A H xs ds → Is K A H (.ref a) (.list ds)
  | tup {a : Addr} {xs : List V} {ds : List D} : Rd H a (.tup xs) → ¬ A a → IsAll K A H xs ds → Is K A H (.ref a) (.tuple ds)
  | tupK {a : Addr} {xs : List V} {ds : List D} : SqT K H0 a xs → IsAll K A H xs ds → Is K A H (.ref a) (.tuple ds)
inductive IsAll (K : PySem.W.Frag) (A : Addr → Prop) (H : Hp) : List V → List D → Prop
  | nil : IsAll K A H [] []
  | cons {v : V} {vs : List V} {d : D} {ds : List D} : Is K A H v d → IsAll K A H vs ds → IsAll K A H (v :: vs) (d :: ds)
end

section
variable {K : PySem.W.Frag} {A A' : Addr → Prop} {H H' : Hp}
theorem sqL_up {a : Addr} {xs : List V} (h : SqL K H0 a xs) : SqL K H a xs := by
  rcases h with (h | ⟨o, h⟩) | h
  · cases h
  · cases h
  · exact Or.inr h
theorem sqT_up {a : Addr} {xs : List V} (h : SqT K H0 a xs) : SqT K H a xs := by
  rcases h with (h | ⟨o, h⟩) | h
  · cases h
  · cases h
  · exact Or.inr h

/-! ### what may change of a heap -/
mutual
theorem Is.move (hr : ∀ a u, ¬ A a → Rd H a u → Rd H' a u ∧ ¬ A' a) : ∀ (d : D) (v : V), Is K A H v d → Is K A' H' v d
  | .none, _, h => by cases h; exact .non
  | .bool b, _, h => by cases h; exact .bl b
  | .int b, _, h => by cases h; exact .int b
  | .str b, _, h => by cases h; exact .str b
  | .list ds, _, h => by
    cases h with
    | lst h1 h2 h3 => exact .lst (hr _ _ h2 h1).1 (hr _ _ h2 h1).2 (IsAll.move hr ds _ h3)
    | lstK h1 h3 => exact .lstK h1 (IsAll.move hr ds _ h3)
  | .tuple ds, _, h => by
    cases h with
    | tup h1 h2 h3 => exact .tup (hr _ _ h2 h1).1 (hr _ _ h2 h1).2 (IsAll.move hr ds _ h3)
    | tupK h1 h3 => exact .tupK h1 (IsAll.move hr ds _ h3)
  | .dict _, _, h => by cases h
theorem IsAll.move (hr : ∀ a u, ¬ A a → Rd H a u → Rd H' a u ∧ ¬ A' a) : ∀ (ds : List D) (vs : List V), IsAll K A H vs ds → IsAll K A' H' vs ds
  | [], _, h => by cases h; exact .nil
  | d :: ds, _, h => by
    cases h with
    | cons h1 h2 => exact .cons (Is.move hr d _ h1) (IsAll.move hr ds _ h2)
end
mutual
theorem Is.dp : ∀ (d : D) (v : V), Is K A H v d → Dp K H v d
  | .none, _, h => by cases h; exact .non
  | .bool b, _, h => by cases h; exact .bl b
  | .int b, _, h => by cases h; exact .int b
  | .str b, _, h => by cases h; exact .str b
  | .list ds, _, h => by
    cases h with
    | lst h1 h2 h3 => exact .lst (Or.inl h1) (IsAll.dp ds _ h3)
    | lstK h1 h3 => exact .lst (sqL_up h1) (IsAll.dp ds _ h3)
  | .tuple ds, _, h => by
    cases h with
    | tup h1 h2 h3 => exact .tup (Or.inl h1) (IsAll.dp ds _ h3)
    | tupK h1 h3 => exact .tup (sqT_up h1) (IsAll.dp ds _ h3)
  | .dict _, _, h => by cases h
theorem IsAll.dp : ∀ (ds : List D) (vs : List V), IsAll K A H vs ds → DpAll K H vs ds
  | [], _, h => by cases h; exact .nil
  | d :: ds, _, h => by
    cases h with
    | cons h1 h2 => exact .cons (Is.dp d _ h1) (IsAll.dp ds _ h2)
end
theorem IsAll.len : ∀ {ds : List D} {vs : List V}, IsAll K A H vs ds → vs.length = ds.length
  | [], _, h => by cases h; rfl
  | d :: ds, _, h => by
    cases h with
    | cons h1 h2 => rw [List.length_cons, List.length_cons, IsAll.len h2]
theorem IsAll.get : ∀ {ds : List D} {vs : List V}, IsAll K A H vs ds → ∀ {i : Nat} {d : D}, ds[i]? = some d → ∃ v, vs[i]? = some v ∧ Is K A H v d
  | [], _, h, i, d, e => by simp at e
  | x :: ds, _, h, i, d, e => by
    cases h with
    | cons h1 h2 =>
      cases i with
      | zero =>
        have e' : x = d := by simpa using e
        subst e'
        exact ⟨_, rfl, h1⟩
      | succ i => exact IsAll.get h2 (i := i) (by simpa using e)
theorem IsAll.get' {ds : List D} {vs : List V} (h : IsAll K A H vs ds) {i : Nat} {v : V} (e : vs[i]? = some v) : ∃ d, ds[i]? = some d ∧ Is K A H v d := by
  have hi := (List.getElem?_eq_some_iff.mp e).1
  rw [h.len] at hi
  obtain ⟨v', h1, h2⟩ := h.get (List.getElem?_eq_getElem hi)
  rw [e] at h1
  cases h1
  exact ⟨_, List.getElem?_eq_getElem hi, h2⟩
theorem IsAll.append : ∀ {ds es : List D} {vs ws : List V}, IsAll K A H vs ds → IsAll K A H ws es → IsAll K A H (vs ++ ws) (ds ++ es)
  | [], _, _, _, h, h' => by cases h; exact h'
  | d :: ds, es, _, ws, h, h' => by
    cases h with
    | cons h1 h2 => exact .cons h1 (IsAll.append h2 h')
theorem IsAll.take : ∀ (n : Nat) {ds : List D} {vs : List V}, IsAll K A H vs ds → IsAll K A H (vs.take n) (ds.take n)
  | 0, _, _, _ => .nil
  | n + 1, [], _, h => by cases h; exact .nil
  | n + 1, d :: ds, _, h => by
    cases h with
    | cons h1 h2 => exact .cons h1 (IsAll.take n h2)
theorem IsAll.drop : ∀ (n : Nat) {ds : List D} {vs : List V}, IsAll K A H vs ds → IsAll K A H (vs.drop n) (ds.drop n)
  | 0, _, _, h => h
  | n + 1, [], _, h => by cases h; exact .nil
  | n + 1, d :: ds, _, h => by
    cases h with
    | cons h1 h2 => exact IsAll.drop n h2
theorem IsAll.set : ∀ (n : Nat) {ds : List D} {vs : List V} {v : V} {d : D}, IsAll K A H vs ds → Is K A H v d → IsAll K A H (vs.set n v) (ds.set n d)
  | _, [], _, _, _, h, _ => by cases h; exact .nil
  | 0, d :: ds, _, _, _, h, h' => by
    cases h with
    | cons h1 h2 => exact .cons h' h2
  | n + 1, d :: ds, _, _, _, h, h' => by
    cases h with
    | cons h1 h2 => exact .cons h1 (IsAll.set n h2 h')
theorem IsAll.erase : ∀ (n : Nat) {ds : List D} {vs : List V}, IsAll K A H vs ds → IsAll K A H (vs.eraseIdx n) (ds.eraseIdx n)
  | _, [], _, h => by cases h; exact .nil
  | 0, d :: ds, _, h => by
    cases h with
    | cons h1 h2 => exact h2
  | n + 1, d :: ds, _, h => by
    cases h with
    | cons h1 h2 => exact .cons h1 (IsAll.erase n h2)
theorem IsAll.reverse : ∀ {ds : List D} {vs : List V}, IsAll K A H vs ds → IsAll K A H vs.reverse ds.reverse
  | [], _, h => by cases h; exact .nil
  | d :: ds, _, h => by
    cases h with
    | cons h1 h2 =>
      rw [List.reverse_cons, List.reverse_cons]
      exact (IsAll.reverse h2).append (.cons h1 .nil)
theorem isAll_ints : ∀ ns : List Int, IsAll K A H (ns.map V.int) (ns.map PyData.int)
  | [] => .nil
  | n :: ns => .cons (.int n) (isAll_ints ns)
theorem isAll_ints_inv : ∀ {ns : List Int} {vs : List V}, IsAll K A H vs (ns.map PyData.int) → vs = ns.map V.int
  | [], _, h => by cases h; rfl
  | n :: ns, _, h => by
    cases h with
    | cons h1 h2 => cases h1; rw [isAll_ints_inv h2]; rfl
theorem isAll_bls_inv : ∀ {ns : List Bool} {vs : List V}, IsAll K A H vs (ns.map PyData.bool) → vs = ns.map V.bl
  | [], _, h => by cases h; rfl
  | n :: ns, _, h => by
    cases h with
    | cons h1 h2 => cases h1; rw [isAll_bls_inv h2]; rfl
theorem Is.lst_inv {v : V} {ds : List D} (h : Is K A H v (.list ds)) : ∃ a xs, v = .ref a ∧ SqL K H a xs ∧ IsAll K A H xs ds := by
  cases h with
  | lst h1 h2 h3 => exact ⟨_, _, rfl, Or.inl h1, h3⟩
  | lstK h1 h3 => exact ⟨_, _, rfl, sqL_up h1, h3⟩
theorem Is.tup_inv {v : V} {ds : List D} (h : Is K A H v (.tuple ds)) : ∃ a xs, v = .ref a ∧ SqT K H a xs ∧ IsAll K A H xs ds := by
  cases h with
  | tup h1 h2 h3 => exact ⟨_, _, rfl, Or.inl h1, h3⟩
  | tupK h1 h3 => exact ⟨_, _, rfl, sqT_up h1, h3⟩
end

/-! ### frames -/
/-- what an owned object holds -/
inductive Ct where
  | lst (xs : List D)
  | dk (kvs : List (Key × D))
  | dt (kvs : List (List Key × D))
/-- what a slot holds: nothing known, a tree, an owned object (pm: handed in by the caller) -/
inductive S where
  | any
  | d (t : D)
  | o (pm : Bool) (c : Ct)
abbrev Env := List S

inductive KvIs {κ : Type} (K : PySem.W.Frag) (A : Addr → Prop) (H : Hp) : List (κ × V) → List (κ × D) → Prop
  | nil : KvIs K A H [] []
  | cons {k : κ} {v : V} {d : D} {vs : List (κ × V)} {ds : List (κ × D)} : Is K A H v d → KvIs K A H vs ds → KvIs K A H ((k, v) :: vs) ((k, d) :: ds)
def CtIs (K : PySem.W.Frag) (A : Addr → Prop) (H : Hp) : HO → Ct → Prop
  | .lst vs, .lst ds => IsAll K A H vs ds
  | .dK vs, .dk ds => KvIs K A H vs ds
  | .dT vs, .dt ds => KvIs K A H vs ds
  | _, _ => False

section
variable {K : PySem.W.Frag} {A A' : Addr → Prop} {H H' : Hp}
theorem KvIs.move {κ : Type} (hr : ∀ a u, ¬ A a → Rd H a u → Rd H' a u ∧ ¬ A' a) : ∀ {vs : List (κ × V)} {ds : List (κ × D)}, KvIs K A H vs ds → KvIs K A' H' vs ds
  | _, _, .nil => .nil
  | _, _, .cons h1 h2 => .cons (Is.move hr _ _ h1) (KvIs.move hr h2)
theorem KvIs.len {κ : Type} : ∀ {vs : List (κ × V)} {ds : List (κ × D)}, KvIs K A H vs ds → vs.length = ds.length
  | _, _, .nil => rfl
  | _, _, .cons h1 h2 => by rw [List.length_cons, List.length_cons, KvIs.len h2]
theorem CtIs.move (hr : ∀ a u, ¬ A a → Rd H a u → Rd H' a u ∧ ¬ A' a) {o : HO} {c : Ct} (h : CtIs K A H o c) : CtIs K A' H' o c := by
  cases c with
  | lst ds => cases o <;> first | exact IsAll.move hr _ _ h | exact h.elim
  | dk ds => cases o <;> first | exact KvIs.move hr h | exact h.elim
  | dt ds => cases o <;> first | exact KvIs.move hr h | exact h.elim
theorem CtIs.lst_inv {o : HO} {ds : List D} (h : CtIs K A H o (.lst ds)) : ∃ vs, o = .lst vs ∧ IsAll K A H vs ds := by
  cases o <;> first | exact ⟨_, rfl, h⟩ | exact h.elim
theorem CtIs.dk_inv {o : HO} {ds : List (Key × D)} (h : CtIs K A H o (.dk ds)) : ∃ vs, o = .dK vs ∧ KvIs K A H vs ds := by
  cases o <;> first | exact ⟨_, rfl, h⟩ | exact h.elim
theorem CtIs.dt_inv {o : HO} {ds : List (List Key × D)} (h : CtIs K A H o (.dt ds)) : ∃ vs, o = .dT vs ∧ KvIs K A H vs ds := by
  cases o <;> first | exact ⟨_, rfl, h⟩ | exact h.elim
end

/-- a def's frame: the written part, what the caller owns, what is pinned, the heap at the call, what is handed in to be changed -/
structure Fr where
  K : PySem.W.Frag
  A0 : Addr → Prop
  Ar : Addr → Prop
  B : Hp
  P : Nat → Option Addr
  har : ∀ a, Ar a → A0 a
abbrev Own := Nat → Option Addr
def avd (G : Fr) (own : Own) : Addr → Prop := fun a => G.A0 a ∨ ∃ i, own i = some a
def Fr.av (G : Fr) (p : Addr) : Fr := { G with A0 := fun a => G.A0 a ∨ a = p, har := fun a h => Or.inl (G.har a h) }
/-- a pinned one -/
def Fr.pin (G : Fr) (p : Addr) : Fr := { G with A0 := fun a => G.A0 a ∨ a = p, Ar := fun a => G.Ar a ∨ a = p, har := fun a h => h.elim (fun h => Or.inl (G.har a h)) Or.inr }

/-- beside the slots: trees, pinned objects -/
inductive Gh where
  | t (v : V) (d : D)
  | r (a : Addr) (o : HO)
def GhOk (G : Fr) (own : Own) (H : Hp) : Gh → Prop
  | .t v d => Is G.K (avd G own) H v d
  | .r a o => H a = some o ∧ G.Ar a
def SlotIs (G : Fr) (own : Own) (H : Hp) (i : Nat) (v : Option (Option V)) : S → Prop
  | .any => own i = none ∧ G.P i = none
  | .d t => own i = none ∧ G.P i = none ∧ ∃ x, v = some (some x) ∧ Is G.K (avd G own) H x t
  | .o pm c => ∃ p ho, own i = some p ∧ G.P i = (if pm = true then some p else none) ∧ v = some (some (.ref p)) ∧ H p = some ho ∧ CtIs G.K (avd G own) H ho c
structure EnvIs (G : Fr) (gh : List Gh) (σ : L2.St) (H : Hp) (own : Own) (env : Env) : Prop where
  len : σ.length = env.length
  slot : ∀ i s, env[i]? = some s → SlotIs G own H i σ[i]? s
  out : ∀ i, env.length ≤ i → own i = none ∧ G.P i = none
  inj : ∀ i j p, own i = some p → own j = some p → i = j
  a0 : ∀ a, G.A0 a → H a ≠ none
  fr : ∀ i p, own i = some p → ¬ G.A0 p ∧ (G.P i = some p ∨ G.B p = none)
  keep : ∀ a o, G.B a = some o → (∀ i, G.P i ≠ some a) → H a = some o
  gs : ∀ g, g ∈ gh → GhOk G own H g
end Fl
set_option autoImplicit false
set_option Elab.async false
set_option linter.all false
set_option maxRecDepth 100000
set_option maxHeartbeats 2000000
namespace Fl
open PySem PySem.Spec PyProof.Rows L2

section
variable {G : Fr} {gh : List Gh} {σ : L2.St} {H H' : Hp} {own : Own} {env : Env}

theorem rd_known {H : Hp} {a : Addr} {u : HO} (h : Rd H a u) : H a ≠ none := by
  rcases h with h | ⟨o, h⟩ <;> rw [h] <;> simp
theorem rd_new {H : Hp} {p a : Addr} {u o : HO} (hp : H p = none) (h : Rd H a u) : Rd (upd H p o) a u ∧ a ≠ p := by
  have e : a ≠ p := fun z => rd_known h (by rw [z]; exact hp)
  refine ⟨?_, e⟩
  rcases h with h | ⟨q, h⟩
  · exact Or.inl (by rw [upd_ne e]; exact h)
  · exact Or.inr ⟨q, by rw [upd_ne e]; exact h⟩
theorem rd_ne {H : Hp} {p a : Addr} {u o : HO} (e : a ≠ p) (h : Rd H a u) : Rd (upd H p o) a u := by
  rcases h with h | ⟨q, h⟩
  · exact Or.inl (by rw [upd_ne e]; exact h)
  · exact Or.inr ⟨q, by rw [upd_ne e]; exact h⟩

theorem EnvIs.own_known (I : EnvIs G gh σ H own env) {i : Nat} {p : Addr} (h : own i = some p) : ∃ pm c ho, env[i]? = some (.o pm c) ∧ G.P i = (if pm = true then some p else none) ∧ σ[i]? = some (some (.ref p)) ∧ H p = some ho ∧ CtIs G.K (avd G own) H ho c := by
  have hi : i < env.length := by
    apply Nat.lt_of_not_le
    intro z
    have := (I.out i z).1
    rw [h] at this
    cases this
  have s := I.slot i _ (List.getElem?_eq_getElem hi)
  cases e : env[i] with
  | any =>
    rw [e] at s
    have := s.1
    rw [h] at this
    cases this
  | d t =>
    rw [e] at s
    have := s.1
    rw [h] at this
    cases this
  | o pm c =>
    rw [e] at s
    obtain ⟨q, ho, h1, h2, h3, h4, h5⟩ := s
    rw [h] at h1
    cases h1
    exact ⟨pm, c, ho, by rw [List.getElem?_eq_getElem hi, e], h2, h3, h4, h5⟩
theorem EnvIs.own_ne (I : EnvIs G gh σ H own env) {i : Nat} {p q : Addr} (h : own i = some p) (hq : H q = none) : p ≠ q := by
  intro z
  obtain ⟨_, _, _, _, _, _, h4, _⟩ := I.own_known h
  rw [z, hq] at h4
  cases h4
theorem EnvIs.new_out (I : EnvIs G gh σ H own env) {p : Addr} (hp : H p = none) : ¬ G.A0 p ∧ (∀ i, own i ≠ some p) ∧ G.B p = none ∧ (∀ i, G.P i ≠ some p) := by
  have h2 : ∀ i, own i ≠ some p := fun i h => I.own_ne h hp rfl
  have h4 : ∀ i, G.P i ≠ some p := fun i h => by
    by_cases hi : i < env.length
    · have s := I.slot i _ (List.getElem?_eq_getElem hi)
      cases e : env[i] with
      | any =>
        rw [e] at s
        have := s.2
        rw [h] at this
        cases this
      | d t =>
        rw [e] at s
        have := s.2.1
        rw [h] at this
        cases this
      | o pm c =>
        rw [e] at s
        obtain ⟨q, ho, h1, h2', _⟩ := s
        rw [h] at h2'
        cases pm with
        | true =>
          have : p = q := Option.some.inj h2'
          rw [← this] at h1
          exact h2 i h1
        | false => cases h2'
    · have := (I.out i (Nat.le_of_not_lt hi)).2
      rw [h] at this
      cases this
  refine ⟨fun z => I.a0 p z hp, h2, ?_, h4⟩
  cases e : G.B p with
  | none => rfl
  | some o =>
    have := I.keep p o e h4
    rw [hp] at this
    cases this

/-! ### fewer and more beside -/
theorem EnvIs.less {gh' : List Gh} (I : EnvIs G gh σ H own env) (h : ∀ g, g ∈ gh' → g ∈ gh) : EnvIs G gh' σ H own env :=
  ⟨I.len, I.slot, I.out, I.inj, I.a0, I.fr, I.keep, fun g hg => I.gs g (h g hg)⟩
theorem EnvIs.tl {g : Gh} (I : EnvIs G (g :: gh) σ H own env) : EnvIs G gh σ H own env := I.less fun _ h => List.mem_cons_of_mem _ h
theorem EnvIs.more {g : Gh} (I : EnvIs G gh σ H own env) (h : GhOk G own H g) : EnvIs G (g :: gh) σ H own env :=
  ⟨I.len, I.slot, I.out, I.inj, I.a0, I.fr, I.keep, fun x hx => (List.mem_cons.mp hx).elim (fun e => e ▸ h) (I.gs x)⟩
theorem EnvIs.hd {v : V} {d : D} (I : EnvIs G (.t v d :: gh) σ H own env) : Is G.K (avd G own) H v d := I.gs _ List.mem_cons_self
theorem EnvIs.tree {v : V} {d : D} (I : EnvIs G gh σ H own env) (h : Is G.K (avd G own) H v d) : EnvIs G (.t v d :: gh) σ H own env := I.more h

/-! ### a new object -/
theorem mv_new {p : Addr} {o : HO} (hp : H p = none) : ∀ a u, ¬ avd G own a → Rd H a u → Rd (upd H p o) a u ∧ ¬ avd (G.av p) own a := fun a u h1 h2 => by
  obtain ⟨h3, h4⟩ := rd_new (o := o) hp h2
  refine ⟨h3, fun z => ?_⟩
  rcases z with z | z
  · rcases z with z | z
    · exact h1 (Or.inl z)
    · exact h4 z
  · exact h1 (Or.inr z)
theorem SlotIs.mv {G' : Fr} {own' : Own} {i : Nat} {v : Option (Option V)} {s : S} (h : SlotIs G own H i v s) (hK : G'.K = G.K) (hP : G'.P i = G.P i) (ho : own' i = own i)
    (hr : ∀ a u, ¬ avd G own a → Rd H a u → Rd H' a u ∧ ¬ avd G' own' a) (hk : ∀ p, own i = some p → H' p = H p) : SlotIs G' own' H' i v s := by
  cases s with
  | any => exact ⟨ho.trans h.1, hP.trans h.2⟩
  | d t =>
    obtain ⟨h1, h2, x, h3, h4⟩ := h
    exact ⟨ho.trans h1, hP.trans h2, x, h3, hK ▸ Is.move hr _ _ h4⟩
  | o pm c =>
    obtain ⟨p, ob, h1, h2, h3, h4, h5⟩ := h
    exact ⟨p, ob, ho.trans h1, hP.trans h2, h3, (hk p h1).trans h4, hK ▸ CtIs.move hr h5⟩
theorem EnvIs.new (I : EnvIs G gh σ H own env) {p : Addr} {o : HO} (hp : H p = none) : EnvIs (G.av p) gh σ (upd H p o) own env := by
  obtain ⟨n1, n2, n3, n4⟩ := I.new_out hp
  refine ⟨I.len, fun i s e => (I.slot i s e).mv rfl rfl rfl (mv_new hp) (fun q hq => upd_ne (I.own_ne hq hp)), I.out, I.inj, fun a h => ?_, fun i q h => ?_, fun a b h hn => ?_, fun g hg => ?_⟩
  · rcases h with h | h
    · by_cases e : a = p
      · rw [e, upd_same]; simp
      · rw [upd_ne e]; exact I.a0 a h
    · rw [h, upd_same]; simp
  · refine ⟨fun z => ?_, (I.fr i q h).2⟩
    rcases z with z | z
    · exact (I.fr i q h).1 z
    · exact I.own_ne h hp z
  · have e : a ≠ p := fun z => by
      have h' : G.B a = some b := h
      rw [z, n3] at h'
      cases h'
    rw [upd_ne e]
    exact I.keep a b h hn
  · have q := I.gs g hg
    cases g with
    | t v d => exact Is.move (mv_new hp) _ _ q
    | r a b =>
      refine ⟨?_, q.2⟩
      have e : a ≠ p := fun z => n1 (G.har p (z ▸ q.2))
      rw [upd_ne e]
      exact q.1
theorem avd_av {p a : Addr} (h : avd G own a) : avd (G.av p) own a := h.elim (fun h => Or.inl (Or.inl h)) Or.inr
theorem EnvIs.unav {p : Addr} (I : EnvIs (G.av p) gh σ H own env) : EnvIs G gh σ H own env := by
  have hr : ∀ a u, ¬ avd (G.av p) own a → Rd H a u → Rd H a u ∧ ¬ avd G own a := fun a u h1 h2 => ⟨h2, fun z => h1 (avd_av z)⟩
  refine ⟨I.len, fun i s e => (I.slot i s e).mv rfl rfl rfl hr (fun _ _ => rfl), I.out, I.inj, fun a h => I.a0 a (Or.inl h), fun i q h => ⟨fun z => (I.fr i q h).1 (Or.inl z), (I.fr i q h).2⟩, I.keep, fun g hg => ?_⟩
  have q := I.gs g hg
  cases g with
  | t v d => exact Is.move hr _ _ q
  | r a b => exact q
theorem not_avd {p : Addr} (I : EnvIs (G.av p) gh σ H own env) (h0 : ¬ G.A0 p) : ¬ avd G own p := fun z => by
  rcases z with z | ⟨i, z⟩
  · exact h0 z
  · exact (I.fr i p z).1 (Or.inr rfl)
/-- a new tuple, a new list as trees -/
theorem EnvIs.newT (I : EnvIs G gh σ H own env) {p : Addr} {vs : List V} {ds : List D} (hp : H p = none) (h : IsAll G.K (avd G own) H vs ds) : EnvIs G (.t (.ref p) (.tuple ds) :: gh) σ (upd H p (.tup vs)) own env := by
  have J := I.new (o := .tup vs) hp
  have n := not_avd J (I.new_out hp).1
  refine J.unav.tree (.tup (Or.inl upd_same) n (IsAll.move (fun a u h1 h2 => ⟨(rd_new hp h2).1, h1⟩) _ _ h))
theorem EnvIs.newL (I : EnvIs G gh σ H own env) {p : Addr} {vs : List V} {ds : List D} (hp : H p = none) (h : IsAll G.K (avd G own) H vs ds) : EnvIs G (.t (.ref p) (.list ds) :: gh) σ (upd H p (.lst vs)) own env := by
  have J := I.new (o := .lst vs) hp
  have n := not_avd J (I.new_out hp).1
  refine J.unav.tree (.lst (Or.inl upd_same) n (IsAll.move (fun a u h1 h2 => ⟨(rd_new hp h2).1, h1⟩) _ _ h))

/-! ### an owned object changes -/
theorem mv_own (I : EnvIs G gh σ H own env) {i : Nat} {p : Addr} {o : HO} (hi : own i = some p) : ∀ a u, ¬ avd G own a → Rd H a u → Rd (upd H p o) a u ∧ ¬ avd G own a := fun a u h1 h2 =>
  ⟨rd_ne (fun z => h1 (Or.inr ⟨i, z ▸ hi⟩)) h2, h1⟩
theorem EnvIs.change (I : EnvIs G gh σ H own env) {i : Nat} {p : Addr} {pm : Bool} {c c' : Ct} {o : HO} (he : env[i]? = some (.o pm c)) (hi : own i = some p) (h : CtIs G.K (avd G own) H o c') : EnvIs G gh σ (upd H p o) own (env.set i (.o pm c')) := by
  have hr := mv_own (o := o) I hi
  have hl : i < env.length := (List.getElem?_eq_some_iff.mp he).1
  refine ⟨by rw [List.length_set]; exact I.len, fun j s e => ?_, fun j hj => I.out j (by rw [List.length_set] at hj; exact hj), I.inj, fun a h0 => ?_, I.fr, fun a b hb hn => ?_, fun g hg => ?_⟩
  · by_cases ej : j = i
    · subst ej
      rw [List.getElem?_set_self hl] at e
      cases e
      obtain ⟨q, ho, h1, h2, h3, h4, h5⟩ := I.slot j _ he
      rw [hi] at h1
      cases h1
      exact ⟨p, o, hi, h2, h3, upd_same, CtIs.move hr h⟩
    · rw [List.getElem?_set_ne (Ne.symm ej)] at e
      exact (I.slot j s e).mv rfl rfl rfl hr fun q hq => upd_ne fun z => ej (I.inj j i p (z ▸ hq) hi)
  · by_cases e : a = p
    · rw [e, upd_same]; simp
    · rw [upd_ne e]; exact I.a0 a h0
  · have e : a ≠ p := fun z => by
      rcases (I.fr i p hi).2 with z2 | z2
      · exact hn i (z ▸ z2)
      · rw [z, z2] at hb
        cases hb
    rw [upd_ne e]
    exact I.keep a b hb hn
  · have q := I.gs g hg
    cases g with
    | t v d => exact Is.move hr _ _ q
    | r a b =>
      refine ⟨?_, q.2⟩
      have e : a ≠ p := fun z => (I.fr i p hi).1 (z ▸ G.har a q.2)
      rw [upd_ne e]
      exact q.1

/-! ### names are set -/
def S.isPm : S → Bool
  | .o pm _ => pm
  | _ => false
def drop (own : Own) (i : Nat) : Own := fun j => if j = i then none else own j
theorem drop_self (own : Own) (i : Nat) : drop own i i = none := if_pos rfl
theorem drop_ne (own : Own) {i j : Nat} (h : j ≠ i) : drop own i j = own j := if_neg h
theorem drop_some {own : Own} {i j : Nat} {p : Addr} (h : drop own i j = some p) : own j = some p ∧ j ≠ i := by
  by_cases e : j = i
  · rw [e, drop_self] at h; cases h
  · rw [drop_ne own e] at h; exact ⟨h, e⟩
theorem avd_drop {i : Nat} {a : Addr} (h : avd G (drop own i) a) : avd G own a := h.elim Or.inl fun ⟨j, h⟩ => Or.inr ⟨j, (drop_some h).1⟩
theorem mv_drop {i : Nat} : ∀ a u, ¬ avd G own a → Rd H a u → Rd H a u ∧ ¬ avd G (drop own i) a := fun a u h1 h2 => ⟨h2, fun z => h1 (avd_drop z)⟩
theorem EnvIs.noP (I : EnvIs G gh σ H own env) {i : Nat} {s : S} (he : env[i]? = some s) (hs : s.isPm = false) : G.P i = none := by
  have q := I.slot i s he
  cases s with
  | any => exact q.2
  | d t => exact q.2.1
  | o pm c =>
    obtain ⟨p, ho, h1, h2, _⟩ := q
    have e : pm = false := hs
    rw [e] at h2
    exact h2
/-- slot i takes what s' says; nothing is owned there -/
theorem EnvIs.setD (I : EnvIs G gh σ H own env) {i : Nat} {s s' : S} {x : Option V} (he : env[i]? = some s) (hs : s.isPm = false) (h : SlotIs G (drop own i) H i (some x) s') : EnvIs G gh (σ.set i x) H (drop own i) (env.set i s') := by
  have hl : i < env.length := (List.getElem?_eq_some_iff.mp he).1
  refine ⟨by rw [List.length_set, List.length_set]; exact I.len, fun j t e => ?_, fun j hj => ?_, fun j k p h1 h2 => I.inj j k p (drop_some h1).1 (drop_some h2).1, I.a0, fun j p h1 => I.fr j p (drop_some h1).1, I.keep, fun g hg => ?_⟩
  · by_cases ej : j = i
    · subst ej
      rw [List.getElem?_set_self hl] at e
      cases e
      rw [List.getElem?_set_self (by rw [I.len]; exact hl)]
      exact h
    · rw [List.getElem?_set_ne (Ne.symm ej)] at e ⊢
      exact (I.slot j t e).mv rfl rfl (drop_ne own ej) mv_drop fun _ _ => rfl
  · rw [List.length_set] at hj
    have o := I.out j hj
    refine ⟨?_, o.2⟩
    by_cases ej : j = i
    · rw [ej, drop_self]
    · rw [drop_ne own ej]; exact o.1
  · have q := I.gs g hg
    cases g with
    | t v d => exact Is.move mv_drop _ _ q
    | r a b => exact q
theorem EnvIs.set (I : EnvIs G gh σ H own env) {i : Nat} {s : S} {v : V} {d : D} (he : env[i]? = some s) (hs : s.isPm = false) (h : Is G.K (avd G own) H v d) : EnvIs G gh (σ.set i (some v)) H (drop own i) (env.set i (.d d)) :=
  I.setD he hs ⟨drop_self own i, I.noP he hs, v, rfl, Is.move mv_drop _ _ h⟩
theorem EnvIs.forget (I : EnvIs G gh σ H own env) {i : Nat} {s : S} (he : env[i]? = some s) (hs : s.isPm = false) (x : Option V) : EnvIs G gh (σ.set i x) H (drop own i) (env.set i .any) :=
  I.setD he hs ⟨drop_self own i, I.noP he hs⟩
theorem set_get {α : Type} {l : List α} {i : Nat} {x : α} (h : l[i]? = some x) : l.set i x = l := by
  apply List.ext_getElem?
  intro j
  by_cases e : j = i
  · subst e
    rw [List.getElem?_set_self (List.getElem?_eq_some_iff.mp h).1, h]
  · rw [List.getElem?_set_ne (Ne.symm e)]
/-- an owned list is one no longer -/
theorem EnvIs.freeze (I : EnvIs G gh σ H own env) {i : Nat} {ds : List D} (he : env[i]? = some (.o false (.lst ds))) : EnvIs G gh σ H (drop own i) (env.set i (.d (.list ds))) := by
  obtain ⟨p, ho, h1, h2, h3, h4, h5⟩ := I.slot i _ he
  obtain ⟨vs, rfl, h6⟩ := h5.lst_inv
  have J := I.setD (s' := .d (.list ds)) (x := some (.ref p)) he rfl ⟨drop_self own i, I.noP he rfl, .ref p, rfl, .lst (Or.inl h4) (fun z => ?_) (IsAll.move mv_drop _ _ h6)⟩
  · rw [set_get h3] at J
    exact J
  · rcases z with z | ⟨j, z⟩
    · exact (I.fr i p h1).1 z
    · obtain ⟨z1, z2⟩ := drop_some z
      exact z2 (I.inj j i p z1 h1)
/-- a new object is owned by slot i -/
def give (own : Own) (i : Nat) (p : Addr) : Own := fun j => if j = i then some p else own j
theorem give_self (own : Own) (i : Nat) (p : Addr) : give own i p i = some p := if_pos rfl
theorem give_ne (own : Own) {i j : Nat} (p : Addr) (h : j ≠ i) : give own i p j = own j := if_neg h
theorem avd_give {i : Nat} {p a : Addr} (h : avd G (give own i p) a) : avd (G.av p) own a := by
  rcases h with h | ⟨j, h⟩
  · exact Or.inl (Or.inl h)
  · by_cases e : j = i
    · rw [e, give_self] at h
      exact Or.inl (Or.inr (Option.some.inj h).symm)
    · rw [give_ne own p e] at h
      exact Or.inr ⟨j, h⟩
theorem EnvIs.take {p : Addr} {o : HO} {c : Ct} (I : EnvIs (G.av p) gh σ H own env) (h0 : ¬ G.A0 p) (hB : G.B p = none) {i : Nat} {s : S} (he : env[i]? = some s) (hs : s.isPm = false) (hp : H p = some o) (hc : CtIs G.K (avd (G.av p) own) H o c) :
    EnvIs G gh (σ.set i (some (.ref p))) H (give own i p) (env.set i (.o false c)) := by
  have hl : i < env.length := (List.getElem?_eq_some_iff.mp he).1
  have hr : ∀ a u, ¬ avd (G.av p) own a → Rd H a u → Rd H a u ∧ ¬ avd G (give own i p) a := fun a u h1 h2 => ⟨h2, fun z => h1 (avd_give z)⟩
  refine ⟨by rw [List.length_set, List.length_set]; exact I.len, fun j t e => ?_, fun j hj => ?_, fun j k q h1 h2 => ?_, fun a h => I.a0 a (Or.inl h), fun j q h1 => ?_, I.keep, fun g hg => ?_⟩
  · by_cases ej : j = i
    · subst ej
      rw [List.getElem?_set_self hl] at e
      cases e
      rw [List.getElem?_set_self (by rw [I.len]; exact hl)]
      exact ⟨p, o, give_self own j p, I.noP he hs, rfl, hp, CtIs.move hr hc⟩
    · rw [List.getElem?_set_ne (Ne.symm ej)] at e ⊢
      exact (I.slot j t e).mv rfl rfl (give_ne own p ej) hr fun _ _ => rfl
  · rw [List.length_set] at hj
    have o := I.out j hj
    refine ⟨?_, o.2⟩
    rw [give_ne own p (by omega)]; exact o.1
  · by_cases ej : j = i
    · by_cases ek : k = i
      · rw [ej, ek]
      · rw [ej, give_self] at h1
        rw [give_ne own p ek] at h2
        cases h1
        exact absurd (Or.inr rfl) (I.fr k p h2).1
    · by_cases ek : k = i
      · rw [ek, give_self] at h2
        rw [give_ne own p ej] at h1
        cases h2
        exact absurd (Or.inr rfl) (I.fr j p h1).1
      · rw [give_ne own p ej] at h1
        rw [give_ne own p ek] at h2
        exact I.inj j k q h1 h2
  · by_cases ej : j = i
    · rw [ej, give_self] at h1
      cases h1
      exact ⟨h0, Or.inr hB⟩
    · rw [give_ne own p ej] at h1
      exact ⟨fun z => (I.fr j q h1).1 (Or.inl z), (I.fr j q h1).2⟩
  · have q := I.gs g hg
    cases g with
    | t v d => exact Is.move hr _ _ q
    | r a b => exact q
end
end Fl
set_option autoImplicit false
set_option Elab.async false
set_option linter.all false
set_option maxRecDepth 100000
set_option maxHeartbeats 2000000
namespace Fl
open PySem PySem.Spec PyProof.Rows L2

/-! ### what evaluates to what: env ahead, env behind, the tree -/
def EE (K : PySem.W.Frag) (te : TE) (env env' : Env) (d : D) : Prop := ∀ (G : Fr) (gh : List Gh) (σ : L2.St) (H : Hp) (own : Own) (Q : VK), G.K = K → EnvIs G gh σ H own env →
  (∀ v H', EnvIs G gh σ H' own env' → Is K (avd G own) H' v d → Q v H') → te σ H Q
/-- a new object -/
def EN (K : PySem.W.Frag) (te : TE) (env env' : Env) (c : Ct) : Prop := ∀ (G : Fr) (gh : List Gh) (σ : L2.St) (H : Hp) (own : Own) (Q : VK), G.K = K → EnvIs G gh σ H own env →
  (∀ p ho H', EnvIs (G.av p) gh σ H' own env' → ¬ G.A0 p → G.B p = none → H' p = some ho → CtIs K (avd (G.av p) own) H' ho c → Q (.ref p) H') → te σ H Q
def ET (K : PySem.W.Frag) (tt : TT) (env env' : Env) (b : Bool) : Prop := ∀ (G : Fr) (gh : List Gh) (σ : L2.St) (H : Hp) (own : Own) (Q : Bool → Hp → Prop), G.K = K → EnvIs G gh σ H own env →
  (∀ H', EnvIs G gh σ H' own env' → Q b H') → tt σ H Q
def EA (K : PySem.W.Frag) (ta : TA) (env env' : Env) (ds : List D) : Prop := ∀ (G : Fr) (gh : List Gh) (σ : L2.St) (H : Hp) (own : Own) (Q : List V → Hp → Prop), G.K = K → EnvIs G gh σ H own env →
  (∀ vs H', EnvIs G gh σ H' own env' → IsAll K (avd G own) H' vs ds → Q vs H') → ta σ H Q
/-- a def's end by trees -/
inductive Out where
  | next (e : Env)
  | ret (e : Env) (d : D)
  | brk (e : Env)
  | cont (e : Env)
def OutOk (G : Fr) (gh : List Gh) (Dn : Ends) : Out → Prop
  | .next e => ∀ σ H own, EnvIs G gh σ H own e → Dn.nx σ H
  | .brk e => ∀ σ H own, EnvIs G gh σ H own e → Dn.bk σ H
  | .cont e => ∀ σ H own, EnvIs G gh σ H own e → Dn.ct σ H
  | .ret e d => ∀ σ H own v, EnvIs G gh σ H own e → Is G.K (avd G own) H v d → Dn.rt v H
def SS (K : PySem.W.Frag) (ts : TS) (env : Env) (out : Out) : Prop := ∀ (G : Fr) (gh : List Gh) (σ : L2.St) (H : Hp) (own : Own) (Dn : Ends), G.K = K → EnvIs G gh σ H own env → OutOk G gh Dn out → ts Dn σ H

section
variable {K : PySem.W.Frag} {env e1 e2 e3 : Env} {x y z d : D} {ta tb te : TE} {tr : TA} {t u : TT} {a b : Bool}

/-! ### trees -/
theorem ee_var {i : Nat} (h : env[i]? = some (.d d)) : EE K (tVar i) env env d := fun G gh σ H own Q hK I q => by
  subst hK
  obtain ⟨_, _, v, h1, h2⟩ := I.slot i _ h
  exact ⟨v, h1, q v H I h2⟩
theorem ee_int {i : Int} : EE K (tC (.int i)) env env (.int i) := fun G gh σ H own Q hK I q => q _ _ I (.int i)
theorem ee_bl {i : Bool} : EE K (tC (.bl i)) env env (.bool i) := fun G gh σ H own Q hK I q => q _ _ I (.bl i)
theorem ee_str {i : Str} : EE K (tC (.str i)) env env (.str i) := fun G gh σ H own Q hK I q => q _ _ I (.str i)
theorem ee_non : EE K (tC .non) env env .none := fun G gh σ H own Q hK I q => q _ _ I .non
theorem EE.is (h : EE K te env e1 x) (e : x = y) : EE K te env e1 y := e ▸ h
theorem ET.is (h : ET K t env e1 a) (e : a = b) : ET K t env e1 b := e ▸ h
theorem ea_nil : EA K tNil env env [] := fun G gh σ H own Q hK I q => q _ _ I .nil
theorem ea_cons {ds : List D} (h : EE K te env e1 x) (hr : EA K tr e1 e2 ds) : EA K (tCons te tr) env e2 (x :: ds) := fun G gh σ H own Q hK I q => by
  refine h G gh σ H own _ hK I fun v H1 I1 i1 => ?_
  refine hr G _ σ H1 own _ hK (I1.tree (hK ▸ i1)) fun vs H2 I2 i2 => ?_
  exact q (v :: vs) H2 I2.tl (.cons (hK ▸ I2.hd) i2)
theorem szOk {n : Nat} (h : n ≤ 1000000) : n ≤ sizeLine := Nat.le_trans h (by decide)
theorem szLt {n : Nat} (h : n ≤ 1000000) : n < sizeLine := Nat.lt_of_le_of_lt h (by decide)
theorem ee_tup {ds : List D} (h : EA K tr env e1 ds) (hz : ds.length ≤ 1000000) : EE K (tTup tr) env e1 (.tuple ds) := fun G gh σ H own Q hK I q => by
  refine h G gh σ H own _ hK I fun vs H1 I1 i1 => ⟨szOk (by rw [i1.len]; exact hz), fun p hp => ?_⟩
  have J := I1.newT hp (hK ▸ i1)
  exact q _ _ J.tl (hK ▸ J.hd)
theorem en_new {G : Fr} {gh : List Gh} {σ : L2.St} {H : Hp} {own : Own} {Q : VK} {p : Addr} {o : HO} {c : Ct} (hK : G.K = K) (I : EnvIs G gh σ H own env) (hp : H p = none) (hc : CtIs K (avd G own) H o c)
    (q : ∀ p ho H', EnvIs (G.av p) gh σ H' own env → ¬ G.A0 p → G.B p = none → H' p = some ho → CtIs K (avd (G.av p) own) H' ho c → Q (.ref p) H') : Q (.ref p) (upd H p o) := by
  obtain ⟨n1, n2, n3, n4⟩ := I.new_out hp
  exact q p o _ (I.new hp) n1 n3 upd_same (CtIs.move (mv_new hp) hc)
theorem en_lst {ds : List D} (h : EA K tr env e1 ds) (hz : ds.length ≤ 1000000) : EN K (tLst tr) env e1 (.lst ds) := fun G gh σ H own Q hK I q => by
  refine h G gh σ H own _ hK I fun vs H1 I1 i1 => ⟨szOk (by rw [i1.len]; exact hz), fun p hp => ?_⟩
  exact en_new hK I1 hp (show CtIs K (avd G own) H1 (.lst vs) (.lst ds) from i1) q
/-- a new list as a tree -/
theorem EN.tree {ds : List D} (h : EN K te env e1 (.lst ds)) : EE K te env e1 (.list ds) := fun G gh σ H own Q hK I q => by
  refine h G gh σ H own _ hK I fun p ho H1 I1 n1 n2 hp hc => ?_
  obtain ⟨vs, rfl, i1⟩ := hc.lst_inv
  have n := not_avd I1 n1
  refine q _ _ I1.unav (.lst (Or.inl hp) n (IsAll.move (fun a u h1 h2 => ⟨h2, fun z => h1 (avd_av z)⟩) _ _ i1))

/-! ### operators -/
def RR (K : PySem.W.Frag) (r : R2) (x y z : D) : Prop := ∀ (G : Fr) (gh : List Gh) (σ : L2.St) (H : Hp) (own : Own) (env : Env) (vx vy : V) (Q : VK), G.K = K → EnvIs G gh σ H own env → Is K (avd G own) H vx x → Is K (avd G own) H vy y →
  (∀ v H', EnvIs G gh σ H' own env → Is K (avd G own) H' v z → Q v H') → r vx vy H Q
def RN (K : PySem.W.Frag) (r : R2) (x y : D) (c : Ct) : Prop := ∀ (G : Fr) (gh : List Gh) (σ : L2.St) (H : Hp) (own : Own) (env : Env) (vx vy : V) (Q : VK), G.K = K → EnvIs G gh σ H own env → Is K (avd G own) H vx x → Is K (avd G own) H vy y →
  (∀ p ho H', EnvIs (G.av p) gh σ H' own env → ¬ G.A0 p → G.B p = none → H' p = some ho → CtIs K (avd (G.av p) own) H' ho c → Q (.ref p) H') → r vx vy H Q
theorem ee_op {r : R2} (ha : EE K ta env e1 x) (hb : EE K tb e1 e2 y) (hr : RR K r x y z) : EE K (tOp r ta tb) env e2 z := fun G gh σ H own Q hK I q => by
  refine ha G gh σ H own _ hK I fun v H1 I1 i1 => ?_
  refine hb G _ σ H1 own _ hK (I1.tree (hK ▸ i1)) fun w H2 I2 i2 => ?_
  exact hr G gh σ H2 own e2 v w Q hK I2.tl (hK ▸ I2.hd) i2 q
theorem en_op {r : R2} {c : Ct} (ha : EE K ta env e1 x) (hb : EE K tb e1 e2 y) (hr : RN K r x y c) : EN K (tOp r ta tb) env e2 c := fun G gh σ H own Q hK I q => by
  refine ha G gh σ H own _ hK I fun v H1 I1 i1 => ?_
  refine hb G _ σ H1 own _ hK (I1.tree (hK ▸ i1)) fun w H2 I2 i2 => ?_
  exact hr G gh σ H2 own e2 v w Q hK I2.tl (hK ▸ I2.hd) i2 q
/-- a scalar's value -/
def dV : D → V
  | .bool b => .bl b
  | .int i => .int i
  | .str s => .str s
  | _ => .non
def sca : D → Bool
  | .none => true
  | .bool _ => true
  | .int _ => true
  | .str _ => true
  | _ => false
theorem is_sca {A : Addr → Prop} {H : Hp} {v : V} (h : Is K A H v x) (hs : sca x = true) : v = dV x := by
  cases x <;> first | (cases h; rfl) | cases hs
theorem sca_is {A : Addr → Prop} {H : Hp} (hs : sca x = true) : Is K A H (dV x) x := by
  cases x <;> first | exact .non | exact .bl _ | exact .int _ | exact .str _ | cases hs
theorem rr_I0 {g : Int → Int → V} {i j : Int} (hs : sca z = true) (h : g i j = dV z) : RR K (rI0 g) (.int i) (.int j) z := fun G gh σ H own env vx vy Q hK I h1 h2 q => by
  cases h1; cases h2
  exact ⟨i, j, rfl, rfl, h ▸ q _ _ I (sca_is hs)⟩
theorem rr_I {C : Int → Int → Prop} {g : Int → Int → V} {i j : Int} (hc : C i j) (hs : sca z = true) (h : g i j = dV z) : RR K (rI C g) (.int i) (.int j) z := fun G gh σ H own env vx vy Q hK I h1 h2 q => by
  cases h1; cases h2
  exact ⟨i, j, rfl, rfl, hc, h ▸ q _ _ I (sca_is hs)⟩
theorem rr_eq (hx : sca x = true) (hy : sca y = true) (hs : scal (dV x) (dV y) = true) (e : decide (dV x = dV y) = b) : RR K rEq x y (.bool b) := fun G gh σ H own env vx vy Q hK I h1 h2 q => by
  rw [is_sca h1 hx, is_sca h2 hy]
  exact ⟨hs, by rw [e]; exact q _ _ I (.bl b)⟩
theorem rr_ne (hx : sca x = true) (hy : sca y = true) (hs : scal (dV x) (dV y) = true) (e : (!decide (dV x = dV y)) = b) : RR K rNe x y (.bool b) := fun G gh σ H own env vx vy Q hK I h1 h2 q => by
  rw [is_sca h1 hx, is_sca h2 hy]
  exact ⟨hs, by rw [e]; exact q _ _ I (.bl b)⟩
theorem rr_eqD (hx : SeqAt.shaped x = true) (hy : SeqAt.shaped y = true) (e : PyData.eqv x y = b) : RR K (rEqD K) x y (.bool b) := fun G gh σ H own env vx vy Q hK I h1 h2 q =>
  ⟨x, y, Is.dp _ _ h1, Is.dp _ _ h2, hx, hy, e ▸ q _ _ I (.bl _)⟩
theorem rr_neD (hx : SeqAt.shaped x = true) (hy : SeqAt.shaped y = true) (e : (!PyData.eqv x y) = b) : RR K (rNeD K) x y (.bool b) := fun G gh σ H own env vx vy Q hK I h1 h2 q =>
  ⟨x, y, Is.dp _ _ h1, Is.dp _ _ h2, hx, hy, e ▸ q _ _ I (.bl _)⟩
theorem rr_inD {ds : List D} (hx : SeqAt.shaped x = true) (hy : SeqAt.shaped (.list ds) = true) (e : (ds.any fun z => PyData.eqv z x) = b) : RR K (rInD K) x (.list ds) (.bool b) := fun G gh σ H own env vx vy Q hK I h1 h2 q =>
  ⟨x, ds, Is.dp _ _ h1, Is.dp _ _ h2, hx, hy, e ▸ q _ _ I (.bl _)⟩
theorem rr_isN (e : decide (dV x = .non) = b) (hs : sca x = true ∨ (b = false ∧ sca x = false)) : RR K rIsN x .none (.bool b) := fun G gh σ H own env vx vy Q hK I h1 h2 q => by
  cases h2
  refine ⟨rfl, ?_⟩
  rcases hs with hs | ⟨hb, hs⟩
  · rw [is_sca h1 hs, e]; exact q _ _ I (.bl b)
  · have e2 : decide (vx = V.non) = b := by
      rw [hb]
      cases h1 <;> first | rfl | cases hs
    rw [e2]; exact q _ _ I (.bl b)
theorem rr_notN (e : (!decide (dV x = .non)) = b) (hs : sca x = true ∨ (b = true ∧ sca x = false)) : RR K rNotN x .none (.bool b) := fun G gh σ H own env vx vy Q hK I h1 h2 q => by
  cases h2
  refine ⟨rfl, ?_⟩
  rcases hs with hs | ⟨hb, hs⟩
  · rw [is_sca h1 hs, e]; exact q _ _ I (.bl b)
  · have e2 : (!decide (vx = V.non)) = b := by
      rw [hb]
      cases h1 <;> first | rfl | cases hs
    rw [e2]; exact q _ _ I (.bl b)
/-- an item -/
theorem atI_is {A : Addr → Prop} {H : Hp} {vs : List V} {ds : List D} {i : Int} (h : IsAll K A H vs ds) (e : atI ds i = some d) : ∃ v, atI vs i = some v ∧ Is K A H v d := by
  unfold atI at e ⊢
  rw [h.len]
  cases q : ixN ds.length i with
  | none => rw [q] at e; cases e
  | some j =>
    rw [q] at e
    exact h.get (i := j) e
theorem rr_ixT {ds : List D} {i : Int} (e : atI ds i = some d) : RR K (rIxT K) (.tuple ds) (.int i) d := fun G gh σ H own env vx vy Q hK I h1 h2 q => by
  cases h2
  obtain ⟨a, xs, rfl, h3, h4⟩ := h1.tup_inv
  obtain ⟨v, h5, h6⟩ := atI_is h4 e
  exact ⟨a, xs, i, v, rfl, rfl, h3, h5, q _ _ I h6⟩
theorem rr_ixL {ds : List D} {i : Int} (e : atI ds i = some d) : RR K (rIxL K) (.list ds) (.int i) d := fun G gh σ H own env vx vy Q hK I h1 h2 q => by
  cases h2
  obtain ⟨a, xs, rfl, h3, h4⟩ := h1.lst_inv
  obtain ⟨v, h5, h6⟩ := atI_is h4 e
  exact ⟨a, xs, i, v, rfl, rfl, h3, h5, q _ _ I h6⟩
theorem rr_catT {ds es : List D} (h0 : ds ≠ []) (hz : ds.length + es.length ≤ 1000000) : RR K (rCatT K) (.tuple ds) (.tuple es) (.tuple (ds ++ es)) := fun G gh σ H own env vx vy Q hK I h1 h2 q => by
  obtain ⟨a, xs, rfl, h3, h4⟩ := h1.tup_inv
  obtain ⟨b, ys, rfl, h5, h6⟩ := h2.tup_inv
  refine ⟨a, b, xs, ys, rfl, rfl, h3, h5, fun z => h0 ?_, szOk (by rw [h4.len, h6.len]; exact hz), fun z => ?_, fun _ p hp => ?_⟩
  · have := h4.len
    rw [z] at this
    cases ds with
    | nil => rfl
    | cons _ _ => simp at this
  · subst z
    have e : es = [] := by
      have := h6.len
      cases es with
      | nil => rfl
      | cons _ _ => simp at this
    subst e
    exact q _ _ I (by rw [List.append_nil]; exact h1)
  · have J := I.newT hp (hK ▸ h4.append h6)
    exact q _ _ J.tl (hK ▸ J.hd)
theorem cutV_is {A : Addr → Prop} {H : Hp} {vs : List V} {ds : List D} {lo hi : Option Int} (h : IsAll K A H vs ds) : IsAll K A H (cutV vs lo hi) ((ds.drop (HT.sIx ds.length 0 lo)).take (HT.sIx ds.length ds.length hi - HT.sIx ds.length 0 lo)) := by
  unfold cutV
  rw [h.len]
  exact (h.drop _).take _

/-! ### one-place operators, truth -/
theorem ee_neg {i : Int} (h : EE K te env e1 (.int i)) : EE K (tUn (rU fun i => .int (-i)) te) env e1 (.int (-i)) := fun G gh σ H own Q hK I q => by
  refine h G gh σ H own _ hK I fun v H1 I1 i1 => ?_
  cases i1
  exact ⟨i, rfl, q _ _ I1 (.int _)⟩
theorem et_test (h : EE K te env e1 (.bool b)) : ET K (tTest te) env e1 b := fun G gh σ H own Q hK I q => by
  refine h G gh σ H own _ hK I fun v H1 I1 i1 => ?_
  cases i1
  exact ⟨b, rfl, q _ I1⟩
theorem et_B (h : EE K te env e1 (.bool b)) : ET K (tB te) env e1 b := fun G gh σ H own Q hK I q => by
  refine h G gh σ H own _ hK I fun v H1 I1 i1 => ?_
  cases i1
  exact ⟨b, rfl, q _ I1⟩
theorem et_and (h1 : ET K t env e1 a) (h2 : a = true → ET K u e1 e2 b) (h3 : a = false → e1 = e2) : ET K (tAnd t u) env e2 (a && b) := fun G gh σ H own Q hK I q => by
  refine h1 G gh σ H own _ hK I fun H1 I1 => ?_
  cases a with
  | true => exact h2 rfl G gh σ H1 own Q hK I1 q
  | false => exact q _ (h3 rfl ▸ I1)
theorem et_or (h1 : ET K t env e1 a) (h2 : a = false → ET K u e1 e2 b) (h3 : a = true → e1 = e2) : ET K (tOr t u) env e2 (a || b) := fun G gh σ H own Q hK I q => by
  refine h1 G gh σ H own _ hK I fun H1 I1 => ?_
  cases a with
  | true => exact q _ (h3 rfl ▸ I1)
  | false => exact h2 rfl G gh σ H1 own Q hK I1 q
theorem et_not (h1 : ET K t env e1 a) : ET K (tNot t) env e1 (!a) := fun G gh σ H own Q hK I q => h1 G gh σ H own _ hK I fun H1 I1 => q _ I1
theorem et_yes : ET K tYes env env true := fun G gh σ H own Q hK I q => q _ I
theorem ee_andV (h1 : EE K ta env e1 (.bool a)) (h2 : a = true → EE K tb e1 e2 (.bool b)) (h3 : a = false → e1 = e2) : EE K (tAndV ta tb) env e2 (.bool (a && b)) := fun G gh σ H own Q hK I q => by
  refine h1 G gh σ H own _ hK I fun v H1 I1 i1 => ?_
  cases i1
  refine ⟨a, rfl, ?_⟩
  cases a with
  | true => exact h2 rfl G gh σ H1 own Q hK I1 q
  | false => exact q _ _ (h3 rfl ▸ I1) (.bl false)
theorem ee_orV (h1 : EE K ta env e1 (.bool a)) (h2 : a = false → EE K tb e1 e2 (.bool b)) (h3 : a = true → e1 = e2) : EE K (tOrV ta tb) env e2 (.bool (a || b)) := fun G gh σ H own Q hK I q => by
  refine h1 G gh σ H own _ hK I fun v H1 I1 i1 => ?_
  cases i1
  refine ⟨a, rfl, ?_⟩
  cases a with
  | true => exact q _ _ (h3 rfl ▸ I1) (.bl true)
  | false => exact h2 rfl G gh σ H1 own Q hK I1 q
theorem ee_notV (h1 : EE K ta env e1 (.bool a)) : EE K (tNotV ta) env e1 (.bool (!a)) := fun G gh σ H own Q hK I q => by
  refine h1 G gh σ H own _ hK I fun v H1 I1 i1 => ?_
  cases i1
  exact ⟨a, rfl, q _ _ I1 (.bl _)⟩
theorem ee_if (h : ET K t env e1 b) (h1 : b = true → EE K ta e1 e2 d) (h2 : b = false → EE K tb e1 e2 d) : EE K (tIf t ta tb) env e2 d := fun G gh σ H own Q hK I q => by
  refine h G gh σ H own _ hK I fun H1 I1 => ?_
  cases b with
  | true => exact h1 rfl G gh σ H1 own Q hK I1 q
  | false => exact h2 rfl G gh σ H1 own Q hK I1 q

/-! ### built-ins -/
def RC (K : PySem.W.Frag) (r : List V → Hp → VK → Prop) (ds : List D) (z : D) : Prop := ∀ (G : Fr) (gh : List Gh) (σ : L2.St) (H : Hp) (own : Own) (env : Env) (vs : List V) (Q : VK), G.K = K → EnvIs G gh σ H own env → IsAll K (avd G own) H vs ds →
  (∀ v H', EnvIs G gh σ H' own env → Is K (avd G own) H' v z → Q v H') → r vs H Q
def RCN (K : PySem.W.Frag) (r : List V → Hp → VK → Prop) (ds : List D) (c : Ct) : Prop := ∀ (G : Fr) (gh : List Gh) (σ : L2.St) (H : Hp) (own : Own) (env : Env) (vs : List V) (Q : VK), G.K = K → EnvIs G gh σ H own env → IsAll K (avd G own) H vs ds →
  (∀ p ho H', EnvIs (G.av p) gh σ H' own env → ¬ G.A0 p → G.B p = none → H' p = some ho → CtIs K (avd (G.av p) own) H' ho c → Q (.ref p) H') → r vs H Q
theorem ee_cb {r : List V → Hp → VK → Prop} {ds : List D} (h : EA K tr env e1 ds) (hr : RC K r ds z) : EE K (tCB r tr) env e1 z := fun G gh σ H own Q hK I q =>
  h G gh σ H own _ hK I fun vs H1 I1 i1 => hr G gh σ H1 own e1 vs Q hK I1 i1 q
theorem en_cb {r : List V → Hp → VK → Prop} {ds : List D} {c : Ct} (h : EA K tr env e1 ds) (hr : RCN K r ds c) : EN K (tCB r tr) env e1 c := fun G gh σ H own Q hK I q =>
  h G gh σ H own _ hK I fun vs H1 I1 i1 => hr G gh σ H1 own e1 vs Q hK I1 i1 q
theorem one_inv {A : Addr → Prop} {H : Hp} {vs : List V} (h : IsAll K A H vs [x]) : ∃ v, vs = [v] ∧ Is K A H v x := by
  cases h with
  | cons h1 h2 => cases h2; exact ⟨_, rfl, h1⟩
theorem two_inv {A : Addr → Prop} {H : Hp} {vs : List V} (h : IsAll K A H vs [x, y]) : ∃ v w, vs = [v, w] ∧ Is K A H v x ∧ Is K A H w y := by
  cases h with
  | cons h1 h2 =>
    obtain ⟨w, rfl, h3⟩ := one_inv h2
    exact ⟨_, _, rfl, h1, h3⟩
def seqOf : D → Option (List D)
  | .list ds => some ds
  | .tuple ds => some ds
  | _ => none
theorem rc_len {ds : List D} (h : seqOf x = some ds) : RC K (fun xs H Q => ∃ p ys, xs = [.ref p] ∧ (SqL K H p ys ∨ SqT K H p ys) ∧ Q (.int ys.length) H) [x] (.int ds.length) := fun G gh σ H own env vs Q hK I h1 q => by
  obtain ⟨v, rfl, h2⟩ := one_inv h1
  cases x <;> first | (cases h; done) | skip
  · obtain ⟨a, xs, rfl, h3, h4⟩ := h2.lst_inv
    cases h
    exact ⟨a, xs, rfl, Or.inl h3, by rw [h4.len]; exact q _ _ I (.int _)⟩
  · obtain ⟨a, xs, rfl, h3, h4⟩ := h2.tup_inv
    cases h
    exact ⟨a, xs, rfl, Or.inr h3, by rw [h4.len]; exact q _ _ I (.int _)⟩
theorem rc_tuple {ds : List D} (h : seqOf x = some ds) : RC K (fun xs H Q => ∃ p ys, xs = [.ref p] ∧ ((SqL K H p ys ∧ ∀ l, H l = none → Q (.ref l) (upd H l (.tup ys))) ∨ (SqT K H p ys ∧ Q (.ref p) H))) [x] (.tuple ds) := fun G gh σ H own env vs Q hK I h1 q => by
  obtain ⟨v, rfl, h2⟩ := one_inv h1
  cases x <;> first | (cases h; done) | skip
  · obtain ⟨a, xs, rfl, h3, h4⟩ := h2.lst_inv
    cases h
    refine ⟨a, xs, rfl, Or.inl ⟨h3, fun p hp => ?_⟩⟩
    have J := I.newT hp (hK ▸ h4)
    exact q _ _ J.tl (hK ▸ J.hd)
  · obtain ⟨a, xs, e, h3, h4⟩ := id h2.tup_inv
    subst e
    cases h
    exact ⟨a, xs, rfl, Or.inr ⟨h3, q _ _ I h2⟩⟩
theorem rcn_list {ds : List D} (h : seqOf x = some ds) : RCN K (fun xs H Q => ∃ p ys, xs = [.ref p] ∧ (SqL K H p ys ∨ SqT K H p ys) ∧ ∀ l, H l = none → Q (.ref l) (upd H l (.lst ys))) [x] (.lst ds) := fun G gh σ H own env vs Q hK I h1 q => by
  obtain ⟨v, rfl, h2⟩ := one_inv h1
  cases x <;> first | (cases h; done) | skip
  · obtain ⟨a, xs, rfl, h3, h4⟩ := h2.lst_inv
    cases h
    exact ⟨a, xs, rfl, Or.inl h3, fun p hp => en_new hK I hp (show CtIs K (avd G own) H (.lst xs) (.lst ds) from h4) q⟩
  · obtain ⟨a, xs, rfl, h3, h4⟩ := h2.tup_inv
    cases h
    exact ⟨a, xs, rfl, Or.inr h3, fun p hp => en_new hK I hp (show CtIs K (avd G own) H (.lst xs) (.lst ds) from h4) q⟩
theorem rc_all {bs : List Bool} : RC K (rAll K) [.list (bs.map PyData.bool)] (.bool (bs.all id)) := fun G gh σ H own env vs Q hK I h1 q => by
  obtain ⟨v, rfl, h2⟩ := one_inv h1
  obtain ⟨a, xs, rfl, h3, h4⟩ := h2.lst_inv
  rw [isAll_bls_inv h4] at h3
  exact ⟨a, bs, rfl, h3, q _ _ I (.bl _)⟩
theorem rc_any {bs : List Bool} : RC K (rAny K) [.list (bs.map PyData.bool)] (.bool (bs.any id)) := fun G gh σ H own env vs Q hK I h1 q => by
  obtain ⟨v, rfl, h2⟩ := one_inv h1
  obtain ⟨a, xs, rfl, h3, h4⟩ := h2.lst_inv
  rw [isAll_bls_inv h4] at h3
  exact ⟨a, bs, rfl, h3, q _ _ I (.bl _)⟩
theorem rc_sum {ns : List Int} : RC K (rSum K) [.list (ns.map PyData.int)] (.int ns.sum) := fun G gh σ H own env vs Q hK I h1 q => by
  obtain ⟨v, rfl, h2⟩ := one_inv h1
  obtain ⟨a, xs, rfl, h3, h4⟩ := h2.lst_inv
  rw [isAll_ints_inv h4] at h3
  exact ⟨a, ns, rfl, h3, q _ _ I (.int _)⟩
/-- classes -/
def tyD : D → Value
  | .none => .type "NoneType"
  | .bool _ => .type "bool"
  | .int _ => .type "int"
  | .str _ => .type "str"
  | .list _ => .type "list"
  | .tuple _ => .type "tuple"
  | .dict _ => .type "dict"
theorem tyX_of {A : Addr → Prop} {H : Hp} {v : V} (h : Is K A H v x) : TyX K H v (tyD x) := by
  cases h with
  | non => exact .base .non
  | bl b => exact .base (.bl b)
  | int i => exact .base (.int i)
  | str i => exact .base (.str i)
  | lst h1 _ _ =>
    rcases h1 with h1 | ⟨o, h1⟩
    · exact .base (.lst h1)
    · exact .base (.frz h1)
  | lstK h1 _ =>
    rcases h1 with (h1 | ⟨o, h1⟩) | ⟨o, its, n, h1, h2, _⟩
    · cases h1
    · cases h1
    · exact .kList h1 h2
  | tup h1 _ _ =>
    rcases h1 with h1 | ⟨o, h1⟩
    · exact .base (.tup h1)
    · exact .fTuple h1
  | tupK h1 _ =>
    rcases h1 with (h1 | ⟨o, h1⟩) | ⟨o, its, n, h1, h2, _⟩
    · cases h1
    · cases h1
    · exact .kTuple h1 h2
/-- isinstance(e, T): the tree's type, T a built-in type's name -/
theorem ee_isi {n : String} {tc : TE} (h : EE K te env e1 x) (hc : tc = tC (.ty n)) (hk : PySem.W.kitOne K (tyD x) (.type n) = some b) : EE K (tCB (rIsi K) (tCons te (tCons tc tNil))) env e1 (.bool b) := fun G gh σ H own Q hK I q => by
  subst hc
  refine h G gh σ H own _ hK I fun v H1 I1 i1 => ?_
  exact ⟨v, .ty n, tyD x, .type n, b, rfl, .ty n, tyX_of i1, hk, q _ _ I1 (.bl b)⟩
end
end Fl
set_option autoImplicit false
set_option Elab.async false
set_option linter.all false
set_option maxRecDepth 100000
set_option maxHeartbeats 2000000
namespace Fl
open PySem PySem.Spec PyProof.Rows L2
section
variable {K : PySem.W.Frag} {env e1 e2 e3 e4 : Env} {x y z d : D} {ta tb te to ti : TE} {tr : TA} {tt : TT} {t u : TS} {a b : Bool} {out : Out}

/-! ### statements -/
theorem OutOk.seq {G : Fr} {gh : List Gh} {Dn : Ends} {N : L2.St → Hp → Prop} (h : OutOk G gh Dn out) (hn : ∀ e, out ≠ .next e) : OutOk G gh { Dn with nx := N } out := by
  cases out with
  | next e => exact absurd rfl (hn e)
  | ret e d => exact h
  | brk e => exact h
  | cont e => exact h
theorem ss_next : SS K tNext env (.next env) := fun G gh σ H own Dn hK I q => q σ H own I
theorem ss_brk : SS K tBreak env (.brk env) := fun G gh σ H own Dn hK I q => q σ H own I
theorem ss_cont : SS K tCont env (.cont env) := fun G gh σ H own Dn hK I q => q σ H own I
theorem ss_seq (h1 : SS K t env (.next e1)) (h2 : SS K u e1 out) : SS K (tSeq t u) env out := fun G gh σ H own Dn hK I q =>
  h1 G gh σ H own _ hK I fun σ' H' own' I' => h2 G gh σ' H' own' Dn hK I' q
theorem ss_stop (h1 : SS K t env out) (hn : ∀ e, out ≠ .next e) : SS K (tSeq t u) env out := fun G gh σ H own Dn hK I q =>
  h1 G gh σ H own _ hK I (q.seq hn)
theorem ss_stopR {e : Env} (h1 : SS K t env (.ret e d)) : SS K (tSeq t u) env (.ret e d) := ss_stop h1 fun _ z => nomatch z
theorem ss_ret (h : EE K te env e1 d) : SS K (tRet te) env (.ret e1 d) := fun G gh σ H own Dn hK I q =>
  h G gh σ H own _ hK I fun v H' I' i => q σ H' own v I' (hK ▸ i)
theorem ss_retN : SS K tRetN env (.ret env .none) := fun G gh σ H own Dn hK I q => q σ H own _ I .non
theorem ss_drop (h : EE K te env e1 d) : SS K (tDrop te) env (.next e1) := fun G gh σ H own Dn hK I q =>
  h G gh σ H own _ hK I fun v H' I' i => q σ H' own I'
theorem ss_yes (h : ET K tt env e1 true) (h1 : SS K t e1 out) : SS K (tIfS tt t u) env out := fun G gh σ H own Dn hK I q =>
  h G gh σ H own _ hK I fun H' I' => h1 G gh σ H' own Dn hK I' q
theorem ss_no (h : ET K tt env e1 false) (h1 : SS K u e1 out) : SS K (tIfS tt t u) env out := fun G gh σ H own Dn hK I q =>
  h G gh σ H own _ hK I fun H' I' => h1 G gh σ H' own Dn hK I' q
theorem ss_if (h : ET K tt env e1 b) (h1 : b = true → SS K t e1 out) (h2 : b = false → SS K u e1 out) : SS K (tIfS tt t u) env out := by
  cases b with
  | true => exact ss_yes h (h1 rfl)
  | false => exact ss_no h (h2 rfl)
theorem SS.is {out' : Out} (h : SS K t env out) (e : out = out') : SS K t env out' := e ▸ h
/-- weaker knowledge behind -/
def Sub (e e' : Env) : Prop := ∀ (G : Fr) (gh : List Gh) (σ : L2.St) (H : Hp) (own : Own), EnvIs G gh σ H own e → ∃ own', EnvIs G gh σ H own' e'
theorem Sub.refl : Sub env env := fun G gh σ H own I => ⟨own, I⟩
theorem Sub.trans (h : Sub env e1) (h' : Sub e1 e2) : Sub env e2 := fun G gh σ H own I => by
  obtain ⟨o1, I1⟩ := h G gh σ H own I
  exact h' G gh σ H o1 I1
theorem sub_forget {i : Nat} {s : S} (he : env[i]? = some s) (hs : s.isPm = false) : Sub env (env.set i .any) := fun G gh σ H own I => by
  have hl : i < σ.length := by rw [I.len]; exact (List.getElem?_eq_some_iff.mp he).1
  have J := I.forget he hs σ[i]
  rw [set_get (List.getElem?_eq_getElem hl)] at J
  exact ⟨_, J⟩
theorem sub_freeze {i : Nat} {ds : List D} (he : env[i]? = some (.o false (.lst ds))) : Sub env (env.set i (.d (.list ds))) := fun G gh σ H own I => ⟨_, I.freeze he⟩
theorem ss_pre (h : Sub env e1) (h1 : SS K t e1 out) : SS K t env out := fun G gh σ H own Dn hK I q => by
  obtain ⟨o, J⟩ := h G gh σ H own I
  exact h1 G gh σ H o Dn hK J q
theorem ss_post (h1 : SS K t env (.next e1)) (h : Sub e1 e2) : SS K t env (.next e2) := fun G gh σ H own Dn hK I q =>
  h1 G gh σ H own Dn hK I fun σ' H' own' I' => by
    obtain ⟨o, J⟩ := h G gh σ' H' own' I'
    exact q σ' H' o J
theorem ss_postR (h1 : SS K t env (.ret e1 d)) (h : e1 = e2) : SS K t env (.ret e2 d) := h ▸ h1

/-! ### names -/
theorem ss_asg {i : Nat} {s : S} (h : EE K te env e1 d) (he : e1[i]? = some s) (hs : s.isPm = false) : SS K (tAsg te (gName i)) env (.next (e1.set i (.d d))) := fun G gh σ H own Dn hK I q =>
  h G gh σ H own _ hK I fun v H' I' i1 => q _ _ _ (I'.set he hs (hK ▸ i1))
theorem ss_asgN {i : Nat} {s : S} {c : Ct} (h : EN K te env e1 c) (he : e1[i]? = some s) (hs : s.isPm = false) : SS K (tAsg te (gName i)) env (.next (e1.set i (.o false c))) := fun G gh σ H own Dn hK I q =>
  h G gh σ H own _ hK I fun p ho H' I' n1 n2 hp hc => q _ _ _ (I'.take n1 n2 he hs hp (hK ▸ hc))
/-- targets: a tree goes to a target; ts are the slots that are touched -/
structure Tch (ts : List Nat) (σ σ' : L2.St) (own own' : Own) : Prop where
  len : σ'.length = σ.length
  at_ : ∀ j, j ∉ ts → σ'[j]? = σ[j]? ∧ own' j = own j
theorem Tch.refl {ts : List Nat} {σ : L2.St} {own : Own} : Tch ts σ σ own own := ⟨rfl, fun _ _ => ⟨rfl, rfl⟩⟩
theorem Tch.trans {ts us : List Nat} {σ σ1 σ2 : L2.St} {own own1 own2 : Own} (h1 : Tch ts σ σ1 own own1) (h2 : Tch us σ1 σ2 own1 own2) : Tch (ts ++ us) σ σ2 own own2 :=
  ⟨h2.len.trans h1.len, fun j hj => ⟨((h2.at_ j fun z => hj (List.mem_append_right _ z)).1).trans (h1.at_ j fun z => hj (List.mem_append_left _ z)).1, ((h2.at_ j fun z => hj (List.mem_append_right _ z)).2).trans (h1.at_ j fun z => hj (List.mem_append_left _ z)).2⟩⟩
theorem tch_set {i : Nat} {σ : L2.St} {x : Option V} {own : Own} : Tch [i] σ (σ.set i x) own (drop own i) := ⟨List.length_set, fun j hj => by
  have e : j ≠ i := fun z => hj (by rw [z]; exact List.mem_cons_self)
  exact ⟨List.getElem?_set_ne (Ne.symm e), drop_ne own e⟩⟩
def GG (K : PySem.W.Frag) (g : TG) (d : D) (ts : List Nat) (env env' : Env) : Prop := ∀ (G : Fr) (gh : List Gh) (σ : L2.St) (H : Hp) (own : Own) (v : V) (Q : L2.St → Hp → Prop), G.K = K → EnvIs G gh σ H own env → Is K (avd G own) H v d →
  (∀ σ' own', EnvIs G gh σ' H own' env' → Tch ts σ σ' own own' → Q σ' H) → g v σ H Q
def GGs (K : PySem.W.Frag) (g : TGs) (ds : List D) (ts : List Nat) (env env' : Env) : Prop := ∀ (G : Fr) (gh : List Gh) (σ : L2.St) (H : Hp) (own : Own) (vs : List V) (Q : L2.St → Hp → Prop), G.K = K → EnvIs G gh σ H own env → IsAll K (avd G own) H vs ds →
  (∀ σ' own', EnvIs G gh σ' H own' env' → Tch ts σ σ' own own' → Q σ' H) → g vs σ H Q
theorem gg_name {i : Nat} {s : S} (he : env[i]? = some s) (hs : s.isPm = false) : GG K (gName i) d [i] env (env.set i (.d d)) := fun G gh σ H own v Q hK I h q => q _ _ (I.set he hs (hK ▸ h)) tch_set
theorem ghosts {G : Fr} {gh : List Gh} {σ : L2.St} {H : Hp} {own : Own} {env : Env} (I : EnvIs G gh σ H own env) : ∀ {ds : List D} {vs : List V}, IsAll G.K (avd G own) H vs ds → EnvIs G ((vs.zip ds).map (fun p => Gh.t p.1 p.2) ++ gh) σ H own env
  | [], _, h => by cases h; exact I
  | d :: ds, _, h => by
    cases h with
    | cons h1 h2 => exact (ghosts I h2).more h1
theorem unghosts {G : Fr} {gh : List Gh} {σ : L2.St} {H : Hp} {own : Own} {env : Env} : ∀ {ds : List D} {vs : List V}, vs.length = ds.length → EnvIs G ((vs.zip ds).map (fun p => Gh.t p.1 p.2) ++ gh) σ H own env → IsAll G.K (avd G own) H vs ds
  | [], [], _, _ => .nil
  | [], _ :: _, h, _ => by cases h
  | _ :: _, [], h, _ => by cases h
  | d :: ds, v :: vs, h, I => .cons (I.gs (.t v d) List.mem_cons_self) (unghosts (by simpa using h) I.tl)
theorem gh_drop {G : Fr} {gh : List Gh} {σ : L2.St} {H : Hp} {own : Own} {env : Env} {gs : List Gh} (I : EnvIs G (gs ++ gh) σ H own env) : EnvIs G gh σ H own env := I.less fun _ h => List.mem_append_right _ h
theorem ggs_nil : GGs K gNil [] [] env env := fun G gh σ H own vs Q hK I h q => by
  cases h
  exact ⟨rfl, q _ _ I .refl⟩
theorem ggs_cons {g : TG} {gs : TGs} {ds : List D} {ts us : List Nat} (h1 : GG K g d ts env e1) (h2 : GGs K gs ds us e1 e2) : GGs K (gCons g gs) (d :: ds) (ts ++ us) env e2 := fun G gh σ H own vs Q hK I h q => by
  cases h with
  | @cons v vs _ _ i1 i2 =>
    refine ⟨v, vs, rfl, ?_⟩
    have J := ghosts I (hK ▸ i2)
    refine h1 G _ σ H own v _ hK J i1 fun σ' own' J' T1 => ?_
    have i3 := unghosts (by rw [i2.len]) J'
    exact h2 G gh σ' H own' vs Q hK (gh_drop J') (hK ▸ i3) fun σ2 own2 J2 T2 => q σ2 own2 J2 (T1.trans T2)
theorem gg_tup {gs : TGs} {ds : List D} {n : Nat} {ts : List Nat} (h : GGs K gs ds ts env e1) (hn : ds.length = n) : GG K (gTup K n gs) (.tuple ds) ts env e1 := fun G gh σ H own v Q hK I hv q => by
  obtain ⟨a, xs, rfl, h3, h4⟩ := hv.tup_inv
  exact ⟨a, xs, rfl, h3, by rw [h4.len]; exact hn, h G gh σ H own xs Q hK I h4 q⟩
theorem ss_asgG {g : TG} {ts : List Nat} (h : EE K te env e1 d) (hg : GG K g d ts e1 e2) : SS K (tAsg te g) env (.next e2) := fun G gh σ H own Dn hK I q =>
  h G gh σ H own _ hK I fun v H' I' i1 => hg G gh σ H' own v _ hK I' i1 fun σ' own' J _ => q _ _ _ J
theorem ss_aug {i : Nat} {s : S} {f : Int → Int → Int} {m n : Int} (h0 : env[i]? = some (.d (.int m))) (h : EE K te env e1 (.int n)) (he : e1[i]? = some s) (hs : s.isPm = false) : SS K (tAug i te (ipI f)) env (.next (e1.set i (.d (.int (f m n))))) := fun G gh σ H own Dn hK I q => by
  subst hK
  obtain ⟨_, _, v, h1, h2⟩ := I.slot i _ h0
  cases h2
  refine ⟨.int m, h1, ?_⟩
  refine h G gh σ H own _ rfl I fun w H' I' i1 => ?_
  cases i1
  exact ⟨m, n, rfl, rfl, q _ _ _ (I'.set he hs (.int _))⟩
/-- x, y = a, b -/
theorem ss_par {i j : Nat} {s s' : S} (h : EA K tr env e1 [x, y]) (he : e1[i]? = some s) (hs : s.isPm = false) (hij : i ≠ j) (he' : e1[j]? = some s') (hs' : s'.isPm = false) : SS K (tPar i j tr) env (.next ((e1.set i (.d x)).set j (.d y))) := fun G gh σ H own Dn hK I q =>
  h G gh σ H own _ hK I fun vs H' I' i1 => by
    obtain ⟨v, w, rfl, i2, i3⟩ := two_inv i1
    refine ⟨v, w, rfl, ?_⟩
    have J := (I'.tree (hK ▸ i3)).set he hs (hK ▸ i2)
    exact q _ _ _ (J.tl.set (by rw [List.getElem?_set_ne hij]; exact he') hs' J.hd)
def tPar3' (i j l : Nat) (ta : TA) : TS := fun D σ H => ta σ H fun vs H1 => ∃ v w z, vs = [v, w, z] ∧ D.nx (((σ.set i (some v)).set j (some w)).set l (some z)) H1

/-! ### owned objects -/
/-- slot i as the object it owns -/
theorem own_var {G : Fr} {gh : List Gh} {σ : L2.St} {H : Hp} {own : Own} {i : Nat} {pm : Bool} {c : Ct} (I : EnvIs G gh σ H own env) (h : env[i]? = some (.o pm c)) : ∃ p ho, own i = some p ∧ σ[i]? = some (some (.ref p)) ∧ H p = some ho ∧ CtIs G.K (avd G own) H ho c := by
  obtain ⟨p, ho, h1, h2, h3, h4, h5⟩ := I.slot i _ h
  exact ⟨p, ho, h1, h3, h4, h5⟩
theorem own_same {G : Fr} {gh : List Gh} {σ : L2.St} {H : Hp} {own : Own} {i : Nat} {p : Addr} {pm : Bool} {c : Ct} (I : EnvIs G gh σ H own env) (h : env[i]? = some (.o pm c)) (hi : own i = some p) : ∃ ho, H p = some ho ∧ CtIs G.K (avd G own) H ho c := by
  obtain ⟨q, ho, h1, _, h2, h3⟩ := own_var I h
  rw [hi] at h1
  cases h1
  exact ⟨ho, h2, h3⟩
theorem ee_ixO {i : Nat} {pm : Bool} {ds : List D} {n : Int} (h : env[i]? = some (.o pm (.lst ds))) (hb : EE K tb env e1 (.int n)) (h' : e1[i]? = some (.o pm (.lst ds))) (e : atI ds n = some d) : EE K (tOp (rIxL K) (tVar i) tb) env e1 d := fun G gh σ H own Q hK I q => by
  obtain ⟨p, ho, h1, h2, _, _⟩ := own_var I h
  refine ⟨_, h2, ?_⟩
  refine hb G gh σ H own _ hK I fun v H' I' i1 => ?_
  cases i1
  obtain ⟨ho', h3, h4⟩ := own_same I' h' h1
  obtain ⟨vs, rfl, h5⟩ := h4.lst_inv
  obtain ⟨v, h6, h7⟩ := atI_is h5 e
  exact ⟨p, vs, n, v, rfl, rfl, SqL.of h3, h6, q _ _ I' (hK ▸ h7)⟩
theorem ee_lenO {i : Nat} {pm : Bool} {ds : List D} (h : env[i]? = some (.o pm (.lst ds))) : EE K (tCB (fun xs H Q => ∃ p ys, xs = [.ref p] ∧ (SqL K H p ys ∨ SqT K H p ys) ∧ Q (.int ys.length) H) (tCons (tVar i) tNil)) env env (.int ds.length) := fun G gh σ H own Q hK I q => by
  obtain ⟨p, ho, h1, h2, h3, h4⟩ := own_var I h
  obtain ⟨vs, rfl, h5⟩ := h4.lst_inv
  exact ⟨_, h2, p, vs, rfl, Or.inl (SqL.of h3), by rw [h5.len]; exact q _ _ I (.int _)⟩
theorem ee_tupleO {i : Nat} {pm : Bool} {ds : List D} (h : env[i]? = some (.o pm (.lst ds))) : EE K (tCB (fun xs H Q => ∃ p ys, xs = [.ref p] ∧ ((SqL K H p ys ∧ ∀ l, H l = none → Q (.ref l) (upd H l (.tup ys))) ∨ (SqT K H p ys ∧ Q (.ref p) H))) (tCons (tVar i) tNil)) env env (.tuple ds) := fun G gh σ H own Q hK I q => by
  obtain ⟨p, ho, h1, h2, h3, h4⟩ := own_var I h
  obtain ⟨vs, rfl, h5⟩ := h4.lst_inv
  refine ⟨_, h2, p, vs, rfl, Or.inl ⟨SqL.of h3, fun l hl => ?_⟩⟩
  have J := I.newT hl h5
  exact q _ _ J.tl (hK ▸ J.hd)
theorem ss_append {i : Nat} {pm pm' : Bool} {ds ds' : List D} (h : env[i]? = some (.o pm (.lst ds))) (hb : EE K te env e1 d) (h' : e1[i]? = some (.o pm' (.lst ds'))) (hz : ds'.length ≤ 1000000) :
    SS K (tDrop (tBM K "list" rAppend (tVar i) (tCons te tNil))) env (.next (e1.set i (.o pm' (.lst (ds' ++ [d]))))) := fun G gh σ H own Dn hK I q => by
  obtain ⟨p, ho, h1, h2, h3, h4⟩ := own_var I h
  obtain ⟨vs0, rfl, h5⟩ := h4.lst_inv
  refine ⟨_, h2, Or.inl ⟨rfl, vs0, SqL.of h3⟩, ?_⟩
  refine hb G gh σ H own _ hK I fun v H' I' i1 => ?_
  obtain ⟨ho', h6, h7⟩ := own_same I' h' h1
  obtain ⟨vs, rfl, h8⟩ := h7.lst_inv
  refine ⟨p, vs, v, rfl, rfl, h6, by rw [h8.len]; exact szLt hz, ?_⟩
  exact q _ _ _ (I'.change h' h1 (show CtIs G.K (avd G own) H' (.lst (vs ++ [v])) (.lst (ds' ++ [d])) from h8.append (.cons (hK ▸ i1) .nil)))
/-- a new list, a new tuple .. is put in -/
theorem ee_popAt {i k : Nat} {pm pm' : Bool} {ds ds' : List D} {n : Int} (h : env[i]? = some (.o pm (.lst ds))) (hb : EE K te env e1 (.int n)) (h' : e1[i]? = some (.o pm' (.lst ds'))) (hn : -(2 ^ 63) ≤ n ∧ n < 2 ^ 63) (hk : seqIndex? n ds'.length = some k) (e : ds'[k]? = some d) :
    EE K (tBM K "list" rPopAt (tVar i) (tCons te tNil)) env (e1.set i (.o pm' (.lst (ds'.eraseIdx k)))) d := fun G gh σ H own Q hK I q => by
  obtain ⟨p, ho, h1, h2, h3, h4⟩ := own_var I h
  obtain ⟨vs0, rfl, h5⟩ := h4.lst_inv
  refine ⟨_, h2, Or.inl ⟨rfl, vs0, SqL.of h3⟩, ?_⟩
  refine hb G gh σ H own _ hK I fun v H' I' i1 => ?_
  cases i1
  obtain ⟨ho', h6, h7⟩ := own_same I' h' h1
  obtain ⟨vs, rfl, h8⟩ := h7.lst_inv
  obtain ⟨v, h9, h10⟩ := h8.get e
  refine ⟨p, vs, n, k, v, rfl, rfl, h6, hn.1, hn.2, by rw [h8.len]; exact hk, h9, ?_⟩
  have J := (I'.tree h10).change h' h1 (show CtIs G.K (avd G own) H' (.lst (vs.eraseIdx k)) (.lst (ds'.eraseIdx k)) from h8.erase k)
  exact q _ _ J.tl (hK ▸ J.hd)
theorem ss_setL {i j : Nat} {pm pm' : Bool} {ds ds' : List D} {n : Int} (h : EE K te env e1 d) (h1 : e1[i]? = some (.o pm (.lst ds))) (hb : EE K tb e1 e2 (.int n)) (h' : e2[i]? = some (.o pm' (.lst ds'))) (hj : ixN ds'.length n = some j) :
    SS K (tAsg te (gSub (tVar i) tb rSetL)) env (.next (e2.set i (.o pm' (.lst (ds'.set j d))))) := fun G gh σ H own Dn hK I q => by
  refine h G gh σ H own _ hK I fun v H1 I1 i1 => ?_
  obtain ⟨p, ho, g1, g2, g3, g4⟩ := own_var I1 h1
  refine ⟨_, g2, ?_⟩
  refine hb G _ σ H1 own _ hK (I1.tree (hK ▸ i1)) fun w H2 I2 i2 => ?_
  cases i2
  obtain ⟨ho', g5, g6⟩ := own_same I2 h' g1
  obtain ⟨vs, rfl, g7⟩ := g6.lst_inv
  refine ⟨p, vs, n, j, rfl, rfl, g5, by rw [g7.len]; exact hj, ?_⟩
  exact q _ _ _ (I2.tl.change h' g1 (show CtIs G.K (avd G own) H2 (.lst (vs.set j v)) (.lst (ds'.set j d)) from g7.set j I2.hd))
/-- xs != [] of an owned list -/
theorem et_nilO {i : Nat} {pm : Bool} {ds : List D} (h : env[i]? = some (.o pm (.lst ds))) (hs : SeqAt.shaped (.list ds) = true) (e : (!PyData.eqv (.list ds) (.list [])) = b) : EE K (tOp (rNeD K) (tVar i) (tLst tNil)) env env (.bool b) := fun G gh σ H own Q hK I q => by
  obtain ⟨p, ho, h1, h2, h3, h4⟩ := own_var I h
  obtain ⟨vs, rfl, h5⟩ := h4.lst_inv
  refine ⟨_, h2, szOk (by decide), fun l hl => ?_⟩
  have hne : p ≠ l := ne_of_none h3 hl
  refine ⟨.list ds, .list [], .lst (SqL.of (by rw [upd_ne hne]; exact h3)) ?_, .lst (SqL.of upd_same) .nil, hs, rfl, ?_⟩
  · exact IsAll.dp _ _ (IsAll.move (A' := avd G own) (fun a u z1 z2 => ⟨(rd_new hl z2).1, z1⟩) _ _ (hK ▸ h5))
  · rw [e]
    exact q _ _ (I.new hl).unav (.bl b)

/-! ### dicts -/
section
variable {κ : Type} [DecidableEq κ]
def look (kvs : List (κ × D)) (k : κ) : Option D := (kvs.find? fun kv => decide (kv.1 = k)).map (·.2)
def put (kvs : List (κ × D)) (k : κ) (v : D) : List (κ × D) := if (kvs.any fun kv => decide (kv.1 = k)) = true then kvs.map (fun kv => if kv.1 = k then (kv.1, v) else kv) else kvs ++ [(k, v)]
theorem KvIs.look {A : Addr → Prop} {H : Hp} {k : κ} : ∀ {vs : List (κ × V)} {ds : List (κ × D)}, KvIs K A H vs ds → ∀ {d : D}, Fl.look ds k = some d → ∃ v, valV vs k = some v ∧ Is K A H v d
  | _, _, .nil, d, h => by cases h
  | _, _, @KvIs.cons _ _ _ _ k' v d' vs ds h1 h2, d, h => by
    by_cases e : k' = k
    · have h' : some d' = some d := by simpa [Fl.look, List.find?_cons, e] using h
      cases h'
      exact ⟨v, by simp [valV, List.find?_cons, e], h1⟩
    · have h' : Fl.look ds k = some d := by simpa [Fl.look, List.find?_cons, e] using h
      obtain ⟨w, g1, g2⟩ := KvIs.look h2 h'
      exact ⟨w, by rw [← g1]; simp [valV, List.find?_cons, e], g2⟩
theorem KvIs.lookN {A : Addr → Prop} {H : Hp} {k : κ} : ∀ {vs : List (κ × V)} {ds : List (κ × D)}, KvIs K A H vs ds → (valV vs k).isSome = (Fl.look ds k).isSome
  | _, _, .nil => rfl
  | _, _, @KvIs.cons _ _ _ _ k' v d' vs ds h1 h2 => by
    by_cases e : k' = k
    · simp [Fl.look, valV, List.find?_cons, e]
    · have ih := KvIs.lookN (k := k) h2
      simpa [Fl.look, valV, List.find?_cons, e] using ih
theorem KvIs.any {A : Addr → Prop} {H : Hp} {k : κ} : ∀ {vs : List (κ × V)} {ds : List (κ × D)}, KvIs K A H vs ds → (vs.any fun kv => decide (kv.1 = k)) = (ds.any fun kv => decide (kv.1 = k))
  | _, _, .nil => rfl
  | _, _, .cons h1 h2 => by rw [List.any_cons, List.any_cons, KvIs.any h2]
theorem KvIs.mapPut {A : Addr → Prop} {H : Hp} {k : κ} {w : V} {x : D} (hw : Is K A H w x) : ∀ {vs : List (κ × V)} {ds : List (κ × D)}, KvIs K A H vs ds → KvIs K A H (vs.map fun kv => if kv.1 = k then (kv.1, w) else kv) (ds.map fun kv => if kv.1 = k then (kv.1, x) else kv)
  | _, _, .nil => .nil
  | _, _, @KvIs.cons _ _ _ _ k' v d' vs ds h1 h2 => by
    rw [List.map_cons, List.map_cons]
    by_cases e : k' = k
    · rw [if_pos e, if_pos e]
      exact .cons hw (KvIs.mapPut hw h2)
    · rw [if_neg e, if_neg e]
      exact .cons h1 (KvIs.mapPut hw h2)
theorem KvIs.snoc {A : Addr → Prop} {H : Hp} {k : κ} {w : V} {x : D} (hw : Is K A H w x) : ∀ {vs : List (κ × V)} {ds : List (κ × D)}, KvIs K A H vs ds → KvIs K A H (vs ++ [(k, w)]) (ds ++ [(k, x)])
  | _, _, .nil => .cons hw .nil
  | _, _, .cons h1 h2 => .cons h1 (KvIs.snoc hw h2)
theorem KvIs.put {A : Addr → Prop} {H : Hp} {k : κ} {w : V} {x : D} {vs : List (κ × V)} {ds : List (κ × D)} (h : KvIs K A H vs ds) (hw : Is K A H w x) : KvIs K A H (putK vs k w) (Fl.put ds k x) := by
  unfold putK Fl.put
  rw [h.any]
  split
  · exact h.mapPut hw
  · exact h.snoc hw
end
/-- a key as a tree -/
def kD : Key → D
  | .inl i => .int i
  | .inr s => .str s
theorem kD_is {A : Addr → Prop} {H : Hp} {v : V} {k : Key} (h : Is K A H v (kD k)) : v = kV k := by
  cases k <;> (cases h; rfl)
/-- d[k] -/
theorem ee_dget {i : Nat} {pm : Bool} {kvs kvs' : List (Key × D)} {k : Key} (h : env[i]? = some (.o pm (.dk kvs))) (hb : EE K tb env e1 (kD k)) (h' : e1[i]? = some (.o pm (.dk kvs'))) (e : look kvs' k = some d) : EE K (tDGet (tVar i) tb) env e1 d := fun G gh σ H own Q hK I q => by
  obtain ⟨p, ho, h1, h2, _, _⟩ := own_var I h
  refine ⟨_, h2, ?_⟩
  refine hb G gh σ H own _ hK I fun v H' I' i1 => ?_
  have ev := kD_is i1
  subst ev
  obtain ⟨ho', h3, h4⟩ := own_same I' h' h1
  obtain ⟨vs, rfl, h5⟩ := h4.dk_inv
  obtain ⟨w, h6, h7⟩ := h5.look e
  exact ⟨p, w, rfl, Or.inl ⟨vs, k, Or.inl h3, rfl, h6.symm⟩, q _ _ I' (hK ▸ h7)⟩
theorem ee_din {i : Nat} {pm : Bool} {kvs : List (Key × D)} {k : Key} (hb : EE K tb env e1 (kD k)) (h' : e1[i]? = some (.o pm (.dk kvs))) : EE K (tDIn tb (tVar i)) env e1 (.bool (look kvs k).isSome) := fun G gh σ H own Q hK I q => by
  refine hb G gh σ H own _ hK I fun v H' I' i1 => ?_
  have ev := kD_is i1
  subst ev
  obtain ⟨p, ho, h1, h2, h3, h4⟩ := own_var I' h'
  obtain ⟨vs, rfl, h5⟩ := h4.dk_inv
  exact ⟨_, h2, p, valV vs k, rfl, Or.inl ⟨vs, k, Or.inl h3, rfl, rfl⟩, by rw [h5.lookN]; exact q _ _ I' (.bl _)⟩
theorem ee_dnotin {i : Nat} {pm : Bool} {kvs : List (Key × D)} {k : Key} (hb : EE K tb env e1 (kD k)) (h' : e1[i]? = some (.o pm (.dk kvs))) : EE K (tDNotIn tb (tVar i)) env e1 (.bool (!(look kvs k).isSome)) := fun G gh σ H own Q hK I q => by
  refine hb G gh σ H own _ hK I fun v H' I' i1 => ?_
  have ev := kD_is i1
  subst ev
  obtain ⟨p, ho, h1, h2, h3, h4⟩ := own_var I' h'
  obtain ⟨vs, rfl, h5⟩ := h4.dk_inv
  exact ⟨_, h2, p, valV vs k, rfl, Or.inl ⟨vs, k, Or.inl h3, rfl, rfl⟩, by rw [h5.lookN]; exact q _ _ I' (.bl _)⟩
theorem ss_dput {i : Nat} {pm : Bool} {kvs : List (Key × D)} {k : Key} (hv : EE K te env e1 d) (h1 : e1[i]? = some (.o pm (.dk kvs))) (hb : EE K tb e1 e1 (kD k)) (hz : kvs.length ≤ 1000000) :
    SS K (sDPut (tVar i) tb te) env (.next (e1.set i (.o pm (.dk (put kvs k d))))) := fun G gh σ H own Dn hK I q => by
  refine hv G gh σ H own _ hK I fun v H1 I1 i1 => ?_
  obtain ⟨p, ho, g1, g2, g3, g4⟩ := own_var I1 h1
  refine ⟨_, g2, ?_⟩
  refine hb G _ σ H1 own _ hK (I1.tree (hK ▸ i1)) fun w H2 I2 i2 => ?_
  have ev := kD_is i2
  subst ev
  obtain ⟨ho', g5, g6⟩ := own_same I2 h1 g1
  obtain ⟨vs, rfl, g7⟩ := g6.dk_inv
  refine ⟨p, _, rfl, DPut.k (k := k) g5 (by rw [g7.len]; exact szLt hz), ?_⟩
  exact q _ _ _ (I2.tl.change h1 g1 (show CtIs G.K (avd G own) H2 (.dK (putK vs k v)) (.dk (put kvs k d)) from g7.put I2.hd))
/-- d[k] += n -/
theorem ss_daug {i : Nat} {pm : Bool} {kvs : List (Key × D)} {k : Key} {m n : Int} (h : env[i]? = some (.o pm (.dk kvs))) (hb : EE K tb env env (kD k)) (e : look kvs k = some (.int m)) (hv : EE K te env env (.int n)) (hz : kvs.length ≤ 1000000) :
    SS K (sDAug (tVar i) tb te (fun x y H Q => ∃ i j, x = .int i ∧ y = .int j ∧ Q (.int (i + j)) H)) env (.next (env.set i (.o pm (.dk (put kvs k (.int (m + n))))))) := fun G gh σ H own Dn hK I q => by
  obtain ⟨p, ho, h1, h2, _, _⟩ := own_var I h
  refine ⟨_, h2, ?_⟩
  refine hb G gh σ H own _ hK I fun v H' I' i1 => ?_
  have ev := kD_is i1
  subst ev
  obtain ⟨ho', h3, h4⟩ := own_same I' h h1
  obtain ⟨vs, rfl, h5⟩ := h4.dk_inv
  obtain ⟨w, h6, h7⟩ := h5.look e
  cases h7
  refine ⟨p, _, rfl, Or.inl ⟨vs, k, Or.inl h3, rfl, h6.symm⟩, ?_⟩
  refine hv G gh σ H' own _ hK I' fun v2 H2 I2 i2 => ?_
  cases i2
  obtain ⟨ho2, g5, g6⟩ := own_same I2 h h1
  obtain ⟨vs2, rfl, g7⟩ := g6.dk_inv
  refine ⟨m, n, rfl, rfl, _, DPut.k (k := k) g5 (by rw [g7.len]; exact szLt hz), ?_⟩
  exact q _ _ _ (I2.change h h1 (show CtIs G.K (avd G own) H2 (.dK (putK vs2 k (.int (m + n)))) (.dk (put kvs k (.int (m + n)))) from g7.put (.int _)))
end
end Fl
set_option autoImplicit false
set_option Elab.async false
set_option linter.all false
set_option maxRecDepth 100000
set_option maxHeartbeats 2000000
namespace Fl
open PySem PySem.Spec PyProof.Rows L2
section
variable {K : PySem.W.Frag} {env e0 e1 e2 e3 e4 : Env} {x y z d : D} {ta tb te to ti tl : TE} {tr : TA} {tt : TT} {t u : TS} {a b : Bool} {out : Out}

/-! ### what is walked -/
/-- J walks the trees ds, as long as the trees of gi stand -/
structure ItOk (K : PySem.W.Frag) (J : It) (gi : List Gh) (ds : List D) : Prop where
  go : ∀ (G : Fr) (gh : List Gh) (σ : L2.St) (H : Hp) (own : Own) (env : Env) (i : Nat), G.K = K → EnvIs G (gi ++ gh) σ H own env → i < ds.length → J.go i H
  stop : ∀ (G : Fr) (gh : List Gh) (σ : L2.St) (H : Hp) (own : Own) (env : Env), G.K = K → EnvIs G (gi ++ gh) σ H own env → J.stop ds.length H
  yld : ∀ (G : Fr) (gh : List Gh) (σ : L2.St) (H : Hp) (own : Own) (env : Env) (i : Nat) (d : D) (v : V) (H' : Hp), G.K = K → EnvIs G (gi ++ gh) σ H own env → ds[i]? = some d → J.yld i H v H' → EnvIs G (gi ++ gh) σ H' own env ∧ Is K (avd G own) H' v d
def EI (K : PySem.W.Frag) (wi : TI) (env env' : Env) (ds : List D) : Prop := ∀ (G : Fr) (gh : List Gh) (σ : L2.St) (H : Hp) (own : Own) (R : It → Hp → Prop), G.K = K → EnvIs G gh σ H own env →
  (∀ J gi H', ItOk K J gi ds → (∀ a o, Gh.r a o ∉ gi) → EnvIs G (gi ++ gh) σ H' own env' → R J H') → wi σ H R
theorem sqL_fun {P : Program} {H : Hp} {a : Addr} {xs ys : List V} : True := trivial
theorem ei_list {ds : List D} (h : EE K tl env e1 (.list ds)) : EI K (iList K tl) env e1 ds := fun G gh σ H own R hK I q => by
  refine h G gh σ H own _ hK I fun v H' I' i => ?_
  obtain ⟨p, xs, rfl, h1, h2⟩ := id i.lst_inv
  refine ⟨p, rfl, ⟨xs, h1⟩, q _ [.t (.ref p) (.list ds)] H' ⟨?_, ?_, ?_⟩ (fun _ _ z => by simp at z) (I'.tree (hK ▸ i))⟩
  · intro G gh σ H own env i hK I hi
    obtain ⟨q, ys, e, g1, g2⟩ := I.hd.lst_inv
    cases e
    obtain ⟨w, g3, _⟩ := g2.get (List.getElem?_eq_getElem hi)
    exact ⟨ys, w, hK ▸ g1, g3⟩
  · intro G gh σ H own env hK I
    obtain ⟨q, ys, e, g1, g2⟩ := I.hd.lst_inv
    cases e
    exact ⟨ys, hK ▸ g1, by rw [g2.len]; exact Nat.le_refl _⟩
  · intro G gh σ H own env i d v H2 hK I hi hy
    obtain ⟨rfl, hy⟩ := hy
    obtain ⟨q, ys, e, g1, g2⟩ := I.hd.lst_inv
    cases e
    obtain ⟨w, g3, g4⟩ := g2.get hi
    have e2 := hy ys (hK ▸ g1)
    rw [g3] at e2
    cases e2
    exact ⟨I, hK ▸ g4⟩
theorem ei_tup {ds : List D} (h : EE K tl env e1 (.tuple ds)) : EI K (iTup K tl) env e1 ds := fun G gh σ H own R hK I q => by
  refine h G gh σ H own _ hK I fun v H' I' i => ?_
  obtain ⟨p, xs, rfl, h1, h2⟩ := id i.tup_inv
  refine ⟨p, rfl, ⟨xs, h1⟩, q _ [.t (.ref p) (.tuple ds)] H' ⟨?_, ?_, ?_⟩ (fun _ _ z => by simp at z) (I'.tree (hK ▸ i))⟩
  · intro G gh σ H own env i hK I hi
    obtain ⟨q, ys, e, g1, g2⟩ := I.hd.tup_inv
    cases e
    obtain ⟨w, g3, _⟩ := g2.get (List.getElem?_eq_getElem hi)
    exact ⟨ys, w, hK ▸ g1, g3⟩
  · intro G gh σ H own env hK I
    obtain ⟨q, ys, e, g1, g2⟩ := I.hd.tup_inv
    cases e
    exact ⟨ys, hK ▸ g1, by rw [g2.len]; exact Nat.le_refl _⟩
  · intro G gh σ H own env i d v H2 hK I hi hy
    obtain ⟨rfl, hy⟩ := hy
    obtain ⟨q, ys, e, g1, g2⟩ := I.hd.tup_inv
    cases e
    obtain ⟨w, g3, g4⟩ := g2.get hi
    have e2 := hy ys (hK ▸ g1)
    rw [g3] at e2
    cases e2
    exact ⟨I, hK ▸ g4⟩
def rangeD (lo : Int) (n : Nat) : List D := (List.range n).map fun i => .int (lo + (i : Nat))
theorem rangeD_len {lo : Int} {n : Nat} : (rangeD lo n).length = n := by unfold rangeD; rw [List.length_map, List.length_range]
theorem rangeD_get {lo : Int} {n i : Nat} (h : i < n) : (rangeD lo n)[i]? = some (.int (lo + (i : Nat))) := by
  unfold rangeD
  rw [List.getElem?_map, List.getElem?_range h] <;> rfl
theorem itOk_range {lo : Int} {n : Nat} : ItOk K (Itr lo n) [] (rangeD lo n) where
  go := fun G gh σ H own env i hK I hi => by rw [rangeD_len] at hi; exact hi
  stop := fun G gh σ H own env hK I => by rw [rangeD_len]; exact Nat.le_refl n
  yld := fun G gh σ H own env i d v H2 hK I hi hy => by
    obtain ⟨rfl, rfl⟩ := hy
    have h1 := (List.getElem?_eq_some_iff.mp hi).1
    rw [rangeD_len] at h1
    rw [rangeD_get h1] at hi
    cases hi
    exact ⟨I, .int _⟩
theorem ei_range1 {n : Int} (h : EA K tr env e1 [.int n]) (hn : -(2 ^ 62) ≤ n ∧ n < 2 ^ 62) : EI K (iRng1 tr) env e1 (rangeD 0 n.toNat) := fun G gh σ H own R hK I q =>
  h G gh σ H own _ hK I fun vs H' I' i => by
    obtain ⟨v, rfl, i2⟩ := one_inv i
    cases i2
    exact ⟨n, rfl, hn.1, hn.2, q _ [] H' itOk_range (fun _ _ z => by simp at z) I'⟩
theorem ei_range2 {m n : Int} (h : EA K tr env e1 [.int m, .int n]) (hm : -(2 ^ 62) ≤ m ∧ m < 2 ^ 62) (hn : -(2 ^ 62) ≤ n ∧ n < 2 ^ 62) : EI K (iRng2 tr) env e1 (rangeD m (n - m).toNat) := fun G gh σ H own R hK I q =>
  h G gh σ H own _ hK I fun vs H' I' i => by
    obtain ⟨v, w, rfl, i2, i3⟩ := two_inv i
    cases i2
    cases i3
    exact ⟨m, n, rfl, ⟨hm.1, hm.2, hn.1, hn.2⟩, q _ [] H' itOk_range (fun _ _ z => by simp at z) I'⟩

/-! ### loops -/
/-- a loop's body: goes on to the next turn -/
def LB (K : PySem.W.Frag) (t : TS) (env env' : Env) : Prop := ∀ (G : Fr) (gh : List Gh) (σ : L2.St) (H : Hp) (own : Own) (Dn : Ends), G.K = K → EnvIs G gh σ H own env →
  (∀ σ H own, EnvIs G gh σ H own env' → Dn.nx σ H) → (∀ σ H own, EnvIs G gh σ H own env' → Dn.ct σ H) → t Dn σ H
theorem LB.nx (h : SS K t env (.next e1)) : LB K t env e1 := fun G gh σ H own Dn hK I q _ => h G gh σ H own Dn hK I q
theorem LB.ct (h : SS K t env (.cont e1)) : LB K t env e1 := fun G gh σ H own Dn hK I _ q => h G gh σ H own Dn hK I q
/-- where a loop ends: at the last turn, or earlier with a return or a break -/
def loopOut : Out → Out
  | .brk e => .next e
  | o => o
theorem ss_for_out {wi : TI} {g : TG} {ds : List D} (h : EI K wi env e0 ds) (inv : Nat → Env) (h0 : Sub e0 (inv 0)) (m : Nat) (hm : m ≤ ds.length)
    (hs : ∀ i d, i < m → ds[i]? = some d → ∃ ts e, GG K g d ts (inv i) e ∧ LB K t e (inv (i + 1)))
    (he : (m = ds.length ∧ out = .next (inv m)) ∨ ∃ d ts e, ds[m]? = some d ∧ GG K g d ts (inv m) e ∧ ((∃ e' d', out = .ret e' d' ∧ SS K t e (.ret e' d')) ∨ (∃ e', out = .next e' ∧ SS K t e (.brk e')))) : SS K (tFor wi g t) env out := fun G gh σ H own Dn hK I q => by
  refine h G gh σ H own _ hK I fun J gi H1 hJ hgi I1 => ?_
  obtain ⟨own0, I2⟩ := h0 G _ σ H1 own I1
  refine ⟨fun i n σ' H' => i + n = ds.length ∧ i ≤ m ∧ ∃ own', EnvIs G (gi ++ gh) σ' H' own' (inv i), ⟨ds.length, Nat.zero_add _, Nat.zero_le _, own0, I2⟩, ?_⟩
  rintro i n σ' H' ⟨hin, him, own', I3⟩
  by_cases hi : i < m
  · have hl : i < ds.length := Nat.lt_of_lt_of_le hi hm
    refine .inr ⟨hJ.go G gh σ' H' own' _ i hK I3 hl, fun σ2 H2 => ∃ own2, EnvIs G (gi ++ gh) σ2 H2 own2 (inv (i + 1)), fun σ2 H2 ⟨own2, I4⟩ => ⟨n - 1, by omega, by omega, by omega, own2, I4⟩, fun v H4 hy => ?_⟩
    have hd := List.getElem?_eq_getElem hl
    obtain ⟨I5, i5⟩ := hJ.yld G gh σ' H' own' _ i _ v H4 hK I3 hd hy
    obtain ⟨ts, e, hg, hb⟩ := hs i _ hi hd
    refine hg G _ σ' H4 own' v _ hK I5 i5 fun σ6 own6 I6 _ => ?_
    exact hb G _ σ6 H4 own6 _ hK I6 (fun σ7 H7 own7 I7 => ⟨own7, I7⟩) (fun σ7 H7 own7 I7 => ⟨own7, I7⟩)
  · have e : i = m := by omega
    subst e
    rcases he with ⟨he, rfl⟩ | ⟨d, ts, e, hd, hg, hb⟩
    · subst he
      exact .inl ⟨hJ.stop G gh σ' H' own' _ hK I3, q σ' H' own' (gh_drop I3)⟩
    · have hl : i < ds.length := (List.getElem?_eq_some_iff.mp hd).1
      refine .inr ⟨hJ.go G gh σ' H' own' _ i hK I3 hl, fun σ2 H2 => False, fun σ2 H2 z => z.elim, fun v H4 hy => ?_⟩
      obtain ⟨I5, i5⟩ := hJ.yld G gh σ' H' own' _ i _ v H4 hK I3 hd hy
      refine hg G _ σ' H4 own' v _ hK I5 i5 fun σ6 own6 I6 _ => ?_
      rcases hb with ⟨e', d', rfl, hb⟩ | ⟨e', rfl, hb⟩
      · exact hb G _ σ6 H4 own6 _ hK I6 fun σ7 H7 own7 v7 I7 i7 => q σ7 H7 own7 v7 (gh_drop I7) i7
      · exact hb G _ σ6 H4 own6 _ hK I6 fun σ7 H7 own7 I7 => q σ7 H7 own7 (gh_drop I7)
theorem ss_for {wi : TI} {g : TG} {ds : List D} (h : EI K wi env e0 ds) (inv : Nat → Env) (h0 : Sub e0 (inv 0)) (hs : ∀ i d, ds[i]? = some d → ∃ ts e, GG K g d ts (inv i) e ∧ LB K t e (inv (i + 1))) : SS K (tFor wi g t) env (.next (inv ds.length)) :=
  ss_for_out h inv h0 ds.length (Nat.le_refl _) (fun i d _ hd => hs i d hd) (.inl ⟨rfl, rfl⟩)
/-- while: n turns -/
theorem ss_while {tc : TT} (inv : Nat → Env) (n : Nat) (h0 : Sub env (inv 0)) (hs : ∀ i, i < n → ∃ e, ET K tc (inv i) e true ∧ LB K t e (inv (i + 1))) (he : ET K tc (inv n) e1 false) : SS K (tWhile tc t) env (.next e1) := fun G gh σ H own Dn hK I q => by
  obtain ⟨own0, I2⟩ := h0 G _ σ H own I
  refine ⟨fun m σ' H' => ∃ i own', i + m = n ∧ EnvIs G gh σ' H' own' (inv i), ⟨n, 0, own0, Nat.zero_add n, I2⟩, ?_⟩
  rintro m σ' H' ⟨i, own', hi, I3⟩
  by_cases hm : i < n
  · obtain ⟨e, hc, hb⟩ := hs i hm
    refine hc G gh σ' H' own' _ hK I3 fun H4 I4 => ?_
    show if true = true then _ else _
    rw [if_pos rfl]
    refine ⟨fun σ2 H2 => ∃ own2, EnvIs G gh σ2 H2 own2 (inv (i + 1)), fun σ2 H2 ⟨own2, I5⟩ => ⟨m - 1, by omega, i + 1, own2, by omega, I5⟩, ?_⟩
    exact hb G gh σ' H4 own' _ hK I4 (fun σ7 H7 own7 I7 => ⟨own7, I7⟩) (fun σ7 H7 own7 I7 => ⟨own7, I7⟩)
  · have e : i = n := by omega
    subst e
    refine he G gh σ' H' own' _ hK I3 fun H4 I4 => ?_
    show if false = true then _ else _
    rw [if_neg Bool.false_ne_true]
    exact q σ' H4 own' I4

/-! ### comprehensions -/
theorem wipe_at {σ : L2.St} {j : Nat} : ∀ {vs : List Nat}, j ∉ vs → (wipe σ vs)[j]? = σ[j]?
  | [], _ => rfl
  | v :: vs, h => by
    unfold wipe
    rw [List.getElem?_set_ne (fun z => h (by rw [z]; exact List.mem_cons_self)), wipe_at fun z => h (List.mem_cons_of_mem _ z)]
theorem wipe_in {σ : L2.St} {j : Nat} : ∀ {vs : List Nat}, j ∈ vs → j < σ.length → (wipe σ vs)[j]? = some none
  | [], h, _ => by cases h
  | v :: vs, h, hl => by
    unfold wipe
    by_cases e : v = j
    · rw [e, List.getElem?_set_self (by rw [wipe_length]; exact hl)]
    · rw [List.getElem?_set_ne e]
      exact wipe_in ((List.mem_cons.mp h).resolve_left fun z => e z.symm) hl
theorem wipe_eq {σ σ' : L2.St} {vs : List Nat} (hl : σ'.length = σ.length) (h : ∀ j, j ∉ vs → σ'[j]? = σ[j]?) : wipe σ' vs = wipe σ vs := by
  apply List.ext_getElem?
  intro j
  by_cases e : j ∈ vs
  · by_cases hj : j < σ.length
    · rw [wipe_in e hj, wipe_in e (by rw [hl]; exact hj)]
    · rw [List.getElem?_eq_none (by rw [wipe_length]; omega), List.getElem?_eq_none (by rw [wipe_length]; omega)]
  · rw [wipe_at e, wipe_at e, h j e]
def wipeE (env : Env) : List Nat → Env
  | [] => env
  | v :: vs => (wipeE env vs).set v .any
theorem wipeE_length {env : Env} : ∀ {vs : List Nat}, (wipeE env vs).length = env.length
  | [] => rfl
  | v :: vs => by unfold wipeE; rw [List.length_set, wipeE_length]
theorem wipeE_at {env : Env} {j : Nat} : ∀ {vs : List Nat}, j ∉ vs → (wipeE env vs)[j]? = env[j]?
  | [], _ => rfl
  | v :: vs, h => by
    unfold wipeE
    rw [List.getElem?_set_ne (fun z => h (by rw [z]; exact List.mem_cons_self)), wipeE_at fun z => h (List.mem_cons_of_mem _ z)]
theorem wipeE_in {env : Env} {j : Nat} : ∀ {vs : List Nat}, j ∈ vs → j < env.length → (wipeE env vs)[j]? = some .any
  | [], h, _ => by cases h
  | v :: vs, h, hl => by
    unfold wipeE
    by_cases e : v = j
    · rw [e, List.getElem?_set_self (by rw [wipeE_length]; exact hl)]
    · rw [List.getElem?_set_ne e]
      exact wipeE_in ((List.mem_cons.mp h).resolve_left fun z => e z.symm) hl
/-- other values in slots of which nothing is known -/
theorem EnvIs.reslot {G : Fr} {gh : List Gh} {σ σ' : L2.St} {H : Hp} {own : Own} {env env' : Env} {vs : List Nat} (I : EnvIs G gh σ H own env) (hl : σ'.length = σ.length) (hl' : env'.length = env.length) (hs : ∀ j, j ∉ vs → σ'[j]? = σ[j]?) (he : ∀ j, j ∉ vs → env'[j]? = env[j]?)
    (hv : ∀ j, j ∈ vs → j < env.length → env'[j]? = some .any ∧ own j = none ∧ G.P j = none) : EnvIs G gh σ' H own env' := by
  refine ⟨by rw [hl, hl', I.len], fun i s e => ?_, fun i hi => I.out i (by rw [← hl']; exact hi), I.inj, I.a0, I.fr, I.keep, I.gs⟩
  by_cases hi : i ∈ vs
  · have h1 : i < env.length := by rw [← hl']; exact (List.getElem?_eq_some_iff.mp e).1
    obtain ⟨g1, g2, g3⟩ := hv i hi h1
    rw [g1] at e
    cases e
    exact ⟨g2, g3⟩
  · rw [hs i hi]
    rw [he i hi] at e
    exact I.slot i s e
theorem raw_less {G : Fr} {gh gs : List Gh} {σ : L2.St} {H : Hp} {own : Own} {env : Env} {p : Addr} (I : EnvIs (G.pin p) (gs ++ gh) σ H own env) (hr : ∀ a o, Gh.r a o ∈ gh → G.Ar a) : EnvIs (G.av p) gh σ H own env := by
  have J := gh_drop I
  refine ⟨J.len, fun i s e => (J.slot i s e).mv rfl rfl rfl (fun a u h1 h2 => ⟨h2, h1⟩) (fun _ _ => rfl), J.out, J.inj, J.a0, J.fr, J.keep, fun g hg => ?_⟩
  have q := J.gs g hg
  cases g with
  | t v d => exact q
  | r a o => exact ⟨q.1, hr a o hg⟩
/-- what a comprehension's block makes of each turn: the turn's trees; acc i what is made ahead of turn i -/
theorem en_lc {wi : TI} {g : TG} {vs : List Nat} {ds : List D} (h : EI K wi env e0 ds) (inv : Nat → Env) (acc : Nat → List D) (h0 : e0 = inv 0) (ha : acc 0 = []) (hz : ∀ i, i ≤ ds.length → (acc i).length ≤ 1000000)
    (hv : ∀ i j, j ∈ vs → j < (inv i).length → (inv i)[j]? = some .any)
    (hs : ∀ i d, ds[i]? = some d → ∃ ts e1 e2 b, GG K g d ts (inv i) e1 ∧ (∀ j, j ∈ ts → j ∈ vs) ∧ (∀ j, j ∈ ts → ∃ d, e1[j]? = some (.d d)) ∧ ET K tt e1 e2 b ∧
      (b = true → ∃ e3 y, EE K te e2 e3 y ∧ (∀ j s, j ∈ vs → e3[j]? = some s → (∃ d, s = .d d) ∨ s = .any) ∧ inv (i + 1) = wipeE e3 vs ∧ acc (i + 1) = acc i ++ [y]) ∧
      (b = false → (∀ j s, j ∈ vs → e2[j]? = some s → (∃ d, s = .d d) ∨ s = .any) ∧ inv (i + 1) = wipeE e2 vs ∧ acc (i + 1) = acc i)) :
    EN K (tLc wi g tt te vs) env (inv ds.length) (.lst (acc ds.length)) := fun G gh σ H own Q hK I q => by
  have hraw : ∀ a o, Gh.r a o ∈ gh → G.Ar a := fun a o hm => (I.gs _ hm).2
  refine h G gh σ H own _ hK I fun J gi H1 hJ hgi I1 Dl hD => ?_
  have n0 := I1.new_out hD
  have hraw2 : ∀ a o, Gh.r a o ∈ gi ++ gh → G.Ar a := fun a o hm => (List.mem_append.mp hm).elim (fun z => absurd z (hgi a o)) (hraw a o)
  -- the state ahead of turn i: the frame's own values, the list so far
  refine ⟨fun i n H' => i + n = ds.length ∧ ∃ ws, EnvIs (G.pin Dl) (gi ++ ((ws.zip (acc i)).map (fun p => Gh.t p.1 p.2) ++ (Gh.r Dl (.lst ws) :: gh))) σ H' own (inv i) ∧ ws.length = (acc i).length, ⟨ds.length, Nat.zero_add _, [], ?_, by rw [ha] <;> rfl⟩, ?_⟩
  · have J1 := I1.new (o := .lst []) hD
    rw [ha, ← h0]
    refine ⟨J1.len, fun i s e => (J1.slot i s e).mv rfl rfl rfl (fun a u h1 h2 => ⟨h2, h1⟩) (fun _ _ => rfl), J1.out, J1.inj, J1.a0, J1.fr, J1.keep, fun g hg => ?_⟩
    rcases List.mem_append.mp hg with hg | hg
    · have z := J1.gs g (List.mem_append_left _ hg)
      cases g with
      | t v d => exact z
      | r a o => exact ⟨z.1, Or.inl z.2⟩
    · rcases List.mem_cons.mp hg with rfl | hg
      · exact ⟨upd_same, Or.inr rfl⟩
      · have z := J1.gs g (List.mem_append_right _ hg)
        cases g with
        | t v d => exact z
        | r a o => exact ⟨z.1, Or.inl z.2⟩
  rintro i n H2 ⟨hin, ws, I2, hws⟩
  have hown : ∀ j, j ∈ vs → j < (inv i).length → own j = none ∧ (G.pin Dl).P j = none := fun j hj hl => I2.slot j _ (hv i j hj hl)
  by_cases hi : i < ds.length
  · refine .inr ⟨hJ.go (G.pin Dl) _ σ H2 own _ i hK I2 hi, fun H' => ∃ ws, EnvIs (G.pin Dl) (gi ++ ((ws.zip (acc (i + 1))).map (fun p => Gh.t p.1 p.2) ++ (Gh.r Dl (.lst ws) :: gh))) σ H' own (inv (i + 1)) ∧ ws.length = (acc (i + 1)).length,
      fun H' hh => ⟨n - 1, by omega, by omega, hh⟩, fun v H4 hy => ?_⟩
    have hd := List.getElem?_eq_getElem hi
    obtain ⟨I5, i5⟩ := hJ.yld (G.pin Dl) _ σ H2 own _ i _ v H4 hK I2 hd hy
    obtain ⟨ts, f1, f2, b, hg, hts, htd, ht, hyes, hno⟩ := hs i _ hd
    have I6 : EnvIs (G.pin Dl) _ (wipe σ vs) H4 own (inv i) := I5.reslot (vs := vs) (wipe_length _ _) rfl (fun j hj => wipe_at hj) (fun j hj => rfl) fun j hj hl => ⟨hv i j hj hl, hown j hj hl⟩
    refine hg (G.pin Dl) _ (wipe σ vs) H4 own v _ hK I6 i5 fun σ7 own7 I7 T7 => ?_
    have ho7 : own7 = own := by
      funext j
      by_cases hj : j ∈ ts
      · obtain ⟨d', hd'⟩ := htd j hj
        have h1 := (I7.slot j _ hd').1
        rw [h1]
        by_cases hl : j < (inv i).length
        · exact (hown j (hts j hj) hl).1.symm
        · exact ((I6.out j (Nat.le_of_not_lt hl)).1).symm
      · exact (T7.at_ j hj).2
    subst ho7
    have hw : wipe σ7 vs = wipe σ vs := by
      rw [wipe_eq (σ := wipe σ vs) T7.len fun j hj => (T7.at_ j fun z => hj (hts j z)).1]
      exact wipe_eq (wipe_length _ _) fun j hj => wipe_at hj
    have h7l : ∀ {e : Env} {Hx : Hp} {g2 : List Gh}, EnvIs (G.pin Dl) g2 σ7 Hx own7 e → (∀ j s, j ∈ vs → e[j]? = some s → (∃ d, s = .d d) ∨ s = .any) → EnvIs (G.pin Dl) g2 σ Hx own7 (wipeE e vs) := fun {e Hx g2} I8 hc => by
      have hlen : σ7.length = σ.length := by rw [T7.len, wipe_length]
      refine I8.reslot (vs := vs) hlen.symm wipeE_length (fun j hj => ?_) (fun j hj => wipeE_at hj) fun j hj hl => ⟨wipeE_in hj hl, ?_⟩
      · rw [(T7.at_ j fun z => hj (hts j z)).1, wipe_at hj]
      · rcases hc j _ hj (List.getElem?_eq_getElem hl) with ⟨d, e2⟩ | e2
        · have h9 := I8.slot j _ (List.getElem?_eq_getElem hl)
          rw [e2] at h9
          exact ⟨h9.1, h9.2.1⟩
        · have h9 := I8.slot j _ (List.getElem?_eq_getElem hl)
          rw [e2] at h9
          exact h9
    refine ⟨hw, ?_⟩
    refine ht (G.pin Dl) _ σ7 H4 own7 _ hK I7 fun H8 I8 => ?_
    cases b with
    | true =>
      rw [if_pos rfl]
      obtain ⟨f3, y, hy1, hy2, hy3, hy4⟩ := hyes rfl
      refine hy1 (G.pin Dl) _ σ7 H8 own7 _ hK I8 fun w H9 I9 i9 => ?_
      have hraw9 : GhOk (G.pin Dl) own7 H9 (.r Dl (.lst ws)) := I9.gs _ (List.mem_append_right _ (List.mem_append_right _ List.mem_cons_self))
      have hacc : IsAll K (avd (G.pin Dl) own7) H9 ws (acc i) := hK ▸ unghosts (gh := Gh.r Dl (.lst ws) :: gh) hws (I9.less fun g hg => List.mem_append_right _ hg)
      refine ⟨ws, hraw9.1, by rw [hws]; exact szLt (hz i (Nat.le_of_lt hi)), ws ++ [w], ?_, by rw [hy4, List.length_append, List.length_append, hws] <;> rfl⟩
      -- the list grows: nothing else looks at it
      have hr : ∀ a u, ¬ avd (G.pin Dl) own7 a → Rd H9 a u → Rd (upd H9 Dl (.lst (ws ++ [w]))) a u ∧ ¬ avd (G.pin Dl) own7 a := fun a u h1 h2 => ⟨rd_ne (fun z => h1 (Or.inl (Or.inr z))) h2, h1⟩
      have J9 := h7l I9 hy2
      rw [← hy3] at J9
      have hnew : IsAll K (avd (G.pin Dl) own7) (upd H9 Dl (.lst (ws ++ [w]))) (ws ++ [w]) (acc (i + 1)) := by
        rw [hy4]
        exact (IsAll.move hr _ _ hacc).append (.cons (Is.move hr _ _ i9) .nil)
      refine ⟨J9.len, fun j s e => (J9.slot j s e).mv rfl rfl rfl hr fun q hq => upd_ne fun z => (J9.fr j q hq).1 (Or.inr z), J9.out, J9.inj, fun a ha => ?_, J9.fr, fun a o ho hn => ?_, fun g hg => ?_⟩
      · by_cases e : a = Dl
        · rw [e, upd_same]; simp
        · rw [upd_ne e]; exact J9.a0 a ha
      · have e : a ≠ Dl := fun z => by
          have ho' : G.B a = some o := ho
          rw [z, n0.2.2.1] at ho'
          cases ho'
        rw [upd_ne e]
        exact J9.keep a o ho hn
      · rcases List.mem_append.mp hg with hg | hg
        · have z := J9.gs g (List.mem_append_left _ hg)
          cases g with
          | t v d => exact Is.move hr _ _ z
          | r a o => exact absurd hg (hgi a o)
        · rcases List.mem_append.mp hg with hg | hg
          · obtain ⟨p, hp, rfl⟩ := List.mem_map.mp hg
            obtain ⟨k, hk⟩ := List.mem_iff_getElem?.mp hp
            rw [List.getElem?_zip_eq_some] at hk
            obtain ⟨v', k1, k2⟩ := hnew.get hk.2
            rw [hk.1] at k1
            cases k1
            subst hK
            exact k2
          · rcases List.mem_cons.mp hg with rfl | hg
            · exact ⟨upd_same, Or.inr rfl⟩
            · have z := J9.gs g (List.mem_append_right _ (List.mem_append_right _ (List.mem_cons_of_mem _ hg)))
              cases g with
              | t v d => exact Is.move hr _ _ z
              | r a o =>
                refine ⟨?_, z.2⟩
                have e : a ≠ Dl := fun z2 => n0.1 (G.har _ (z2 ▸ hraw a o hg))
                rw [upd_ne e]
                exact z.1
    | false =>
      rw [if_neg Bool.false_ne_true]
      obtain ⟨hn1, hn2, hn3⟩ := hno rfl
      have J9 := h7l I8 hn1
      rw [← hn2] at J9
      exact ⟨ws, by rw [hn3]; exact J9, by rw [hn3]; exact hws⟩
  · have e : i = ds.length := by omega
    subst e
    refine .inl ⟨hJ.stop (G.pin Dl) _ σ H2 own _ hK I2, ?_⟩
    have hraw9 : GhOk (G.pin Dl) own H2 (.r Dl (.lst ws)) := I2.gs _ (List.mem_append_right _ (List.mem_append_right _ List.mem_cons_self))
    have hacc : IsAll K (avd (G.pin Dl) own) H2 ws (acc ds.length) := hK ▸ unghosts (gh := Gh.r Dl (.lst ws) :: gh) hws (I2.less fun g hg => List.mem_append_right _ hg)
    have J := raw_less (gs := gi ++ ((ws.zip (acc ds.length)).map (fun p => Gh.t p.1 p.2) ++ [Gh.r Dl (.lst ws)])) (gh := gh) (by simpa using I2) hraw
    exact q Dl _ H2 J n0.1 n0.2.2.1 hraw9.1 (show CtIs K (avd (G.av Dl) own) H2 (.lst ws) (.lst (acc ds.length)) from hacc)
end
end Fl
set_option autoImplicit false
set_option Elab.async false
set_option linter.all false
set_option maxRecDepth 100000
set_option maxHeartbeats 2000000
namespace Fl
open PySem PySem.Spec PyProof.Rows L2
section
variable {K : PySem.W.Frag} {env e0 e1 e2 : Env} {x y z d : D} {ta tb te : TE} {tr : TA} {t u : TS}

theorem rd_ext {H H' : Hp} {a : Addr} {u : HO} (hx : ∀ o, H a = some o → H' a = some o) (h : Rd H a u) : Rd H' a u := by
  rcases h with h | ⟨o, h⟩
  · exact Or.inl (hx _ h)
  · exact Or.inr ⟨o, hx _ h⟩
/-- the heap grows -/
theorem EnvIs.ext {G : Fr} {gh : List Gh} {σ : L2.St} {H H' : Hp} {own : Own} {env : Env} (I : EnvIs G gh σ H own env) (hx : ∀ a o, H a = some o → H' a = some o) : EnvIs G gh σ H' own env := by
  have hr : ∀ a u, ¬ avd G own a → Rd H a u → Rd H' a u ∧ ¬ avd G own a := fun a u h1 h2 => ⟨rd_ext (hx a) h2, h1⟩
  refine ⟨I.len, fun i s e => ?_, I.out, I.inj, fun a h z => ?_, I.fr, fun a o h hn => hx _ _ (I.keep a o h hn), fun g hg => ?_⟩
  · have q := I.slot i s e
    cases s with
    | any => exact q
    | d t =>
      obtain ⟨h1, h2, v, h3, h4⟩ := q
      exact ⟨h1, h2, v, h3, Is.move hr _ _ h4⟩
    | o pm c =>
      obtain ⟨p, ho, h1, h2, h3, h4, h5⟩ := q
      exact ⟨p, ho, h1, h2, h3, hx _ _ h4, CtIs.move hr h5⟩
  · have h1 := I.a0 a h
    cases e : H a with
    | none => exact h1 e
    | some o => rw [hx a o e] at z; cases z
  · have q := I.gs g hg
    cases g with
    | t v d => exact Is.move hr _ _ q
    | r a o => exact ⟨hx _ _ q.1, q.2⟩
/-- .. and one owned object changes -/
theorem EnvIs.changeX {G : Fr} {gh : List Gh} {σ : L2.St} {H H' : Hp} {own : Own} {env : Env} (I : EnvIs G gh σ H own env) {i : Nat} {p : Addr} {pm : Bool} {c c' : Ct} {ho : HO} (he : env[i]? = some (.o pm c)) (hi : own i = some p)
    (hx : ∀ a o, a ≠ p → H a = some o → H' a = some o) (hp : H' p = some ho) (hc : CtIs G.K (avd G own) H' ho c') : EnvIs G gh σ H' own (env.set i (.o pm c')) := by
  have hr : ∀ a u, ¬ avd G own a → Rd H a u → Rd H' a u ∧ ¬ avd G own a := fun a u h1 h2 => ⟨rd_ext (hx a · (fun z => h1 (Or.inr ⟨i, z ▸ hi⟩))) h2, h1⟩
  have hl : i < env.length := (List.getElem?_eq_some_iff.mp he).1
  refine ⟨by rw [List.length_set]; exact I.len, fun j s e => ?_, fun j hj => I.out j (by rw [List.length_set] at hj; exact hj), I.inj, fun a h0 z => ?_, I.fr, fun a b hb hn => ?_, fun g hg => ?_⟩
  · by_cases ej : j = i
    · subst ej
      rw [List.getElem?_set_self hl] at e
      cases e
      obtain ⟨q, ho', h1, h2, h3, h4, h5⟩ := I.slot j _ he
      rw [hi] at h1
      cases h1
      exact ⟨p, ho, hi, h2, h3, hp, hc⟩
    · rw [List.getElem?_set_ne (Ne.symm ej)] at e
      have q := I.slot j s e
      cases s with
      | any => exact q
      | d t =>
        obtain ⟨h1, h2, v, h3, h4⟩ := q
        exact ⟨h1, h2, v, h3, Is.move hr _ _ h4⟩
      | o pm c =>
        obtain ⟨q, ho', h1, h2, h3, h4, h5⟩ := q
        exact ⟨q, ho', h1, h2, h3, hx _ _ (fun z => ej (I.inj j i p (z ▸ h1) hi)) h4, CtIs.move hr h5⟩
  · by_cases e : a = p
    · rw [e, hp] at z; cases z
    · have h1 := I.a0 a h0
      cases e2 : H a with
      | none => exact h1 e2
      | some o => rw [hx a o e e2] at z; cases z
  · have e : a ≠ p := fun z => by
      rcases (I.fr i p hi).2 with z2 | z2
      · exact hn i (z ▸ z2)
      · rw [z, z2] at hb
        cases hb
    exact hx _ _ e (I.keep a b hb hn)
  · have q := I.gs g hg
    cases g with
    | t v d => exact Is.move hr _ _ q
    | r a b => exact ⟨hx _ _ (fun z => (I.fr i p hi).1 (z ▸ G.har a q.2)) q.1, q.2⟩

/-! ### promises -/
/-- arguments: trees, beside the first one, which may be an object that is changed -/
def noOwn : Own := fun _ => none
def fr0 (K : PySem.W.Frag) (A0 : Addr → Prop) : Fr := ⟨K, A0, fun _ => False, H0, noOwn, fun _ h => h.elim⟩
/-- all arguments are trees: f arguments result -/
def spP (K : PySem.W.Frag) (f : List D → D → Prop) : Sp := fun vs H Q _ => ∃ (A0 : Addr → Prop) (ds : List D) (d : D), IsAll K A0 H vs ds ∧ (∀ a, A0 a → H a ≠ none) ∧ f ds d ∧
  ∀ v H', (∀ a o, H a = some o → H' a = some o) → Is K A0 H' v d → Q v H'
/-- the first argument is an object that the def changes: f its content, arguments, its content behind, result -/
def spO (K : PySem.W.Frag) (f : Ct → List D → Ct → D → Prop) : Sp := fun vs H Q _ => ∃ (A0 : Addr → Prop) (p : Addr) (ho : HO) (c c' : Ct) (ws : List V) (ds : List D) (d : D), vs = .ref p :: ws ∧ H p = some ho ∧ CtIs K A0 H ho c ∧ A0 p ∧ IsAll K A0 H ws ds ∧ (∀ a, A0 a → H a ≠ none) ∧ f c ds c' d ∧
  ∀ v H' ho', (∀ a o, a ≠ p → H a = some o → H' a = some o) → H' p = some ho' → CtIs K A0 H' ho' c' → Is K A0 H' v d → Q v H'
theorem ee_call {f : List D → D → Prop} {E : XK} {ds : List D} (h : EA K tr env e1 ds) (hf : f ds d) : EE K (tCall (spP K f) [] E tr) env e1 d := fun G gh σ H own Q hK I q => by
  refine h G gh σ H own _ hK I fun vs H1 I1 i1 => ?_
  rw [List.append_nil]
  refine ⟨avd G own, ds, d, i1, fun a ha => ?_, hf, fun v H' hx i2 => q v H' (I1.ext hx) i2⟩
  rcases ha with ha | ⟨i, ha⟩
  · exact I1.a0 a ha
  · obtain ⟨_, _, _, _, _, _, h4, _⟩ := I1.own_known ha
    rw [h4]; simp
theorem ee_callO {f : Ct → List D → Ct → D → Prop} {E : XK} {ds : List D} {i : Nat} {pm : Bool} {c c' : Ct} (h0 : env[i]? = some (.o pm c)) (h : EA K tr env e1 ds) (h1 : e1[i]? = some (.o pm c)) (hf : f c ds c' d) : EE K (tCall (spO K f) [] E (tCons (tVar i) tr)) env (e1.set i (.o pm c')) d := fun G gh σ H own Q hK I q => by
  obtain ⟨p, ho, g1, g2, _, _⟩ := own_var I h0
  refine ⟨_, g2, ?_⟩
  refine h G gh σ H own _ hK I fun vs H1 I1 i1 => ?_
  obtain ⟨ho', g5, g6⟩ := own_same I1 h1 g1
  show spO K f ((.ref p :: vs) ++ []) H1 Q E
  rw [List.append_nil]
  refine ⟨avd G own, p, ho', c, c', vs, ds, d, rfl, g5, hK ▸ g6, Or.inr ⟨i, g1⟩, i1, fun a ha => ?_, hf, fun v H' ho2 hx hp hc i2 => q v H' (I1.changeX h1 g1 hx hp (hK.symm ▸ hc)) i2⟩
  rcases ha with ha | ⟨i, ha⟩
  · exact I1.a0 a ha
  · obtain ⟨_, _, _, _, _, _, h4, _⟩ := I1.own_known ha
    rw [h4]; simp

/-! ### defs -/
def SF (K : PySem.W.Frag) (t : TS) (env : Env) (d : D) : Prop := (∃ e, SS K t env (.ret e d)) ∨ (d = .none ∧ ∃ e, SS K t env (.next e))
def SFO (K : PySem.W.Frag) (t : TS) (env : Env) (c' : Ct) (d : D) : Prop := (∃ e, SS K t env (.ret e d) ∧ e[0]? = some (.o true c')) ∨ (d = .none ∧ ∃ e, SS K t env (.next e) ∧ e[0]? = some (.o true c'))
theorem env_start {A0 : Addr → Prop} {H : Hp} {vs : List V} {ds : List D} {n : Nat} (h : IsAll K A0 H vs ds) (ha : ∀ a, A0 a → H a ≠ none) :
    EnvIs ⟨K, A0, fun _ => False, H, noOwn, fun _ h => h.elim⟩ [] (vs.map some ++ List.replicate n none) H noOwn (ds.map S.d ++ List.replicate n .any) := by
  have hA : ∀ a u, ¬ A0 a → Rd H a u → Rd H a u ∧ ¬ avd (⟨K, A0, fun _ => False, H, noOwn, fun _ h => h.elim⟩ : Fr) noOwn a := fun a u h1 h2 => ⟨h2, fun z => z.elim h1 fun ⟨i, z⟩ => by cases z⟩
  refine ⟨by simp [h.len], fun i s e => ?_, fun i hi => ⟨rfl, rfl⟩, (fun i j p h1 => by cases h1), ha, (fun i p h1 => by cases h1), fun a o h1 _ => h1, (fun g hg => by cases hg)⟩
  by_cases hi : i < ds.length
  · rw [List.getElem?_append_left (by simpa using hi), List.getElem?_map, List.getElem?_eq_getElem hi] at e
    cases e
    obtain ⟨v, h1, h2⟩ := h.get (List.getElem?_eq_getElem hi)
    refine ⟨rfl, rfl, v, ?_, Is.move hA _ _ h2⟩
    have hl := (List.getElem?_eq_some_iff.mp h1).1
    rw [List.getElem?_append_left (by simpa using hl), List.getElem?_map, h1] <;> rfl
  · rw [List.getElem?_append_right (by simpa using hi)] at e
    have := List.eq_of_mem_replicate (List.mem_of_getElem? e)
    subst this
    exact ⟨rfl, rfl⟩
theorem fn_pure {P : Program} {w : World} {mg : Str → Option Value} {base : Heap} {xn qual : Str} {params : Arguments} {body : List Stmt} {scope : Scope} {dvs : List V} {kws : List (Str × V)} {fa : Addr} {fd : FuncData} {N ps : List Str} {k : Nat} {f : List D → D → Prop}
    (Fd : FunD K xn qual params body scope dvs kws fa fd) (Sc : FnScope N ps scope) (hlen : ∀ ds d, f ds d → ds.length = ps.length)
    (hbody : ∀ (cdv : Value) (A : Around) (outer : List PySem.Env) (s : Shared) (H : Hp) (E : XK), Room k (A.deeper (envOfC qual scope s.heap.objs.size fa cdv)) →
      ∃ t, PSs (cxOf CX0 P w K mg base N qual scope fa cdv A outer s H E).nox body t ∧ ∀ ds d, f ds d → SF K t (ds.map S.d ++ List.replicate (N.length - ps.length) .any) d) : FnOk P w K mg base CX0 (k + 1) fa fd ps (spP K f) := by
  refine Fd.ok Sc (fun vs H Q E h => ?_) (fun cdv A outer s H vs Q E hr h => ?_)
  · obtain ⟨A0, ds, d, h1, _, h2, _⟩ := h
    rw [h1.len]
    exact hlen ds d h2
  · obtain ⟨A0, ds, d, h1, h3, h2, q⟩ := h
    obtain ⟨t, ht, hs⟩ := hbody cdv A outer s H E hr
    refine ⟨t, ht.nox, ?_⟩
    have hl := hlen ds d h2
    have I := env_start (n := N.length - ps.length) h1 h3
    have hst : L2.start N vs = vs.map some ++ List.replicate (N.length - ps.length) none := by
      unfold L2.start
      rw [h1.len, hl]
    rw [hst]
    have hend : ∀ (σ : L2.St) (H' : Hp) (own : Own) (e : Env) (v : V), EnvIs ⟨K, A0, fun _ => False, H, noOwn, fun _ h => h.elim⟩ [] σ H' own e → Is K (avd (⟨K, A0, fun _ => False, H, noOwn, fun _ h => h.elim⟩ : Fr) own) H' v d → Q v H' := fun σ H' own e v I' i' =>
      q v H' (fun a o ho => I'.keep a o ho fun i z => by cases z) (Is.move (fun a u h1 h2 => ⟨h2, fun z => h1 (Or.inl z)⟩) _ _ i')
    rcases hs ds d h2 with ⟨e, hs⟩ | ⟨rfl, e, hs⟩
    · exact hs _ [] _ H noOwn _ rfl I fun σ H' own v I' i' => hend σ H' own e v I' i'
    · exact hs _ [] _ H noOwn _ rfl I fun σ H' own I' => hend σ H' own e .non I' .non
def own1 (p : Addr) : Own := fun i => if i = 0 then some p else none
theorem own1_some {p q : Addr} {i : Nat} (h : own1 p i = some q) : i = 0 ∧ q = p := by
  unfold own1 at h
  by_cases e : i = 0
  · rw [if_pos e] at h; exact ⟨e, (Option.some.inj h).symm⟩
  · rw [if_neg e] at h; cases h
def fr1 (K : PySem.W.Frag) (A0 : Addr → Prop) (H : Hp) (p : Addr) : Fr := ⟨K, fun a => A0 a ∧ a ≠ p, fun _ => False, H, own1 p, fun _ h => h.elim⟩
theorem avd1 {A0 : Addr → Prop} {H : Hp} {p a : Addr} (h : avd (fr1 K A0 H p) (own1 p) a) (hp : A0 p) : A0 a := by
  rcases h with h | ⟨i, h⟩
  · exact h.1
  · rw [(own1_some h).2]; exact hp
theorem env_startO {A0 : Addr → Prop} {H : Hp} {p : Addr} {ho : HO} {c : Ct} {vs : List V} {ds : List D} {n : Nat} (hp : H p = some ho) (hc : CtIs K A0 H ho c) (h0 : A0 p) (h : IsAll K A0 H vs ds) (ha : ∀ a, A0 a → H a ≠ none) :
    EnvIs (fr1 K A0 H p) [] ((V.ref p :: vs).map some ++ List.replicate n none) H (own1 p) ((.o true c :: ds.map S.d) ++ List.replicate n .any) := by
  have hA : ∀ a u, ¬ A0 a → Rd H a u → Rd H a u ∧ ¬ avd (fr1 K A0 H p) (own1 p) a := fun a u h1 h2 => ⟨h2, fun z => h1 (avd1 z h0)⟩
  refine ⟨by simp [h.len], fun i s e => ?_, fun i hi => ?_, fun i j q h1 h2 => ?_, fun a h => ha a h.1, fun i q h1 => ?_, fun a o h1 _ => h1, fun g hg => by cases hg⟩
  · cases i with
    | zero =>
      simp only [List.cons_append, List.getElem?_cons_zero] at e
      cases e
      exact ⟨p, ho, rfl, rfl, rfl, hp, CtIs.move hA hc⟩
    | succ i =>
      simp only [List.cons_append, List.map_cons, List.getElem?_cons_succ] at e ⊢
      have o1 : own1 p (i + 1) = none := rfl
      by_cases hi : i < ds.length
      · rw [List.getElem?_append_left (by simpa using hi), List.getElem?_map, List.getElem?_eq_getElem hi] at e
        cases e
        obtain ⟨v, h1, h2⟩ := h.get (List.getElem?_eq_getElem hi)
        refine ⟨o1, o1, v, ?_, Is.move hA _ _ h2⟩
        have hl := (List.getElem?_eq_some_iff.mp h1).1
        rw [List.getElem?_append_left (by simpa using hl), List.getElem?_map, h1] <;> rfl
      · rw [List.getElem?_append_right (by simpa using hi)] at e
        have := List.eq_of_mem_replicate (List.mem_of_getElem? e)
        subst this
        exact ⟨o1, o1⟩
  · have h1 : i ≠ 0 := fun z => by rw [z] at hi; simp at hi
    exact ⟨if_neg h1, if_neg h1⟩
  · rw [(own1_some h1).1, (own1_some h2).1]
  · obtain ⟨rfl, rfl⟩ := own1_some h1
    exact ⟨fun z => z.2 rfl, Or.inl rfl⟩
theorem fn_own {P : Program} {w : World} {mg : Str → Option Value} {base : Heap} {xn qual : Str} {params : Arguments} {body : List Stmt} {scope : Scope} {dvs : List V} {kws : List (Str × V)} {fa : Addr} {fd : FuncData} {N ps : List Str} {k : Nat} {f : Ct → List D → Ct → D → Prop}
    (Fd : FunD K xn qual params body scope dvs kws fa fd) (Sc : FnScope N ps scope) (hlen : ∀ c ds c' d, f c ds c' d → ds.length + 1 = ps.length)
    (hbody : ∀ (cdv : Value) (A : Around) (outer : List PySem.Env) (s : Shared) (H : Hp) (E : XK), Room k (A.deeper (envOfC qual scope s.heap.objs.size fa cdv)) →
      ∃ t, PSs (cxOf CX0 P w K mg base N qual scope fa cdv A outer s H E).nox body t ∧ ∀ c ds c' d, f c ds c' d → SFO K t ((.o true c :: ds.map S.d) ++ List.replicate (N.length - ps.length) .any) c' d) : FnOk P w K mg base CX0 (k + 1) fa fd ps (spO K f) := by
  refine Fd.ok Sc (fun vs H Q E h => ?_) (fun cdv A outer s H vs Q E hr h => ?_)
  · obtain ⟨A0, p, ho, c, c', ws, ds, d, rfl, _, _, _, h1, _, h2, _⟩ := h
    rw [List.length_cons, h1.len]
    exact hlen c ds c' d h2
  · obtain ⟨A0, p, ho, c, c', ws, ds, d, rfl, g1, g2, g3, h1, h3, h2, q⟩ := h
    obtain ⟨t, ht, hs⟩ := hbody cdv A outer s H E hr
    refine ⟨t, ht.nox, ?_⟩
    have hl := hlen c ds c' d h2
    have I := env_startO (n := N.length - ps.length) g1 g2 g3 h1 h3
    have hst : L2.start N (V.ref p :: ws) = (V.ref p :: ws).map some ++ List.replicate (N.length - ps.length) none := by
      unfold L2.start
      rw [List.length_cons, h1.len, hl]
    rw [hst]
    have hend : ∀ (σ : L2.St) (H' : Hp) (own : Own) (e : Env) (v : V), EnvIs (fr1 K A0 H p) [] σ H' own e → e[0]? = some (.o true c') → Is K (avd (fr1 K A0 H p) own) H' v d → Q v H' := fun σ H' own e v I' he i' => by
      obtain ⟨p', ho', k1, k2, k3, k4, k5⟩ := I'.slot 0 _ he
      have e1 : some p = some p' := k2
      cases e1
      have hA : ∀ a u, ¬ avd (fr1 K A0 H p) own a → Rd H' a u → Rd H' a u ∧ ¬ A0 a := fun a u z1 z2 => ⟨z2, fun z => z1 (by
        by_cases ea : a = p
        · exact Or.inr ⟨0, ea ▸ k1⟩
        · exact Or.inl ⟨z, ea⟩)⟩
      refine q v H' ho' (fun a o ha ho => I'.keep a o ho fun i z => ha (own1_some z).2) k4 (CtIs.move hA k5) (Is.move hA _ _ i')
    rcases hs c ds c' d h2 with ⟨e, hs, he⟩ | ⟨rfl, e, hs, he⟩
    · exact hs _ [] _ H (own1 p) _ rfl I fun σ H' own v I' i' => hend σ H' own e v I' he i'
    · exact hs _ [] _ H (own1 p) _ rfl I fun σ H' own I' => hend σ H' own e .non I' he .non
end
end Fl
set_option autoImplicit false
set_option Elab.async false
set_option linter.all false
set_option maxRecDepth 100000
set_option maxHeartbeats 2000000
namespace Fl
open PySem PySem.Spec PyProof.Rows L2
theorem b_int : bootBuiltins "int" = some (.type "int") := by decide +kernel
theorem b_bool : bootBuiltins "bool" = some (.type "bool") := by decide +kernel
theorem b_tuple : bootBuiltins "tuple" = some (.type "tuple") := by decide +kernel
theorem b_list : bootBuiltins "list" = some (.type "list") := by decide +kernel
theorem b_str : bootBuiltins "str" = some (.type "str") := by decide +kernel
theorem b_dict : bootBuiltins "dict" = some (.type "dict") := by decide +kernel
theorem b_set : bootBuiltins "set" = some (.type "set") := by decide +kernel
theorem b_range : bootBuiltins "range" = some (.type "range") := by decide +kernel
theorem b_zip : bootBuiltins "zip" = some (.type "zip") := by decide +kernel
theorem b_enumerate : bootBuiltins "enumerate" = some (.type "enumerate") := by decide +kernel
theorem b_reversed : bootBuiltins "reversed" = some (.type "reversed") := by decide +kernel
theorem b_len : bootBuiltins "len" = some (.builtin "len") := by decide +kernel
theorem b_isinstance : bootBuiltins "isinstance" = some (.builtin "isinstance") := by decide +kernel
theorem b_all : bootBuiltins "all" = some (.builtin "all") := by decide +kernel
theorem b_any : bootBuiltins "any" = some (.builtin "any") := by decide +kernel
theorem b_min : bootBuiltins "min" = some (.builtin "min") := by decide +kernel
theorem b_max : bootBuiltins "max" = some (.builtin "max") := by decide +kernel
theorem b_sum : bootBuiltins "sum" = some (.builtin "sum") := by decide +kernel
theorem b_repr : bootBuiltins "repr" = some (.builtin "repr") := by decide +kernel
theorem b_abs : bootBuiltins "abs" = some (.builtin "abs") := by decide +kernel
theorem b_sorted : bootBuiltins "sorted" = some (.builtin "sorted") := by decide +kernel
/-- a def of the module keeps a promise -/
structure Has (P : Program) (w : World) (K : PySem.W.Frag) (mg : Str → Option Value) (base : Heap) (x : Str) (k : Nat) (ps : List Str) (sp : Sp) : Prop where
  ex : ∃ (f : Addr) (fd : FuncData), FnOk P w K mg base CX0 k f fd ps sp ∧ mg x = some (.ref f) ∧ PySem.W.keepIn K (.ref f) = true ∧ Binds K fd ps []
section
variable {X : Cx} {x : Str} {j k : Nat} {ps : List Str} {sp : Sp} {e : Expr} {es : List Expr} {p pos : Pos} {ta : TA}
theorem pe_has (h : Has X.prog X.w X.K X.mg X.base x j ps sp) (hr : Room k X.A) (ha : PA X (e :: es) ta) (hj : j ≤ k := by decide) (hg : Gl X x := by rfl)
    (hdb : (x == ("__debug__" : Str)) = false := by decide) (he : starEach (e :: es) X.env = (false, eval e X.env) :: starEach es X.env := by rfl) (hpl : (backTo pos (starEach es X.env)).any (·.1) = false := by rfl) :
    PE X (.Call (.Name x p) (e :: es) [] pos) (tCall sp [] E0 ta) := by
  obtain ⟨f, fd, F, hm, hk, hb⟩ := h.ex
  exact pe_call F (hr.mono hj) hg hm hk hb .nil pass0 ha hdb he hpl
theorem pe_has0 (h : Has X.prog X.w X.K X.mg X.base x j ps sp) (hr : Room k X.A) (hj : j ≤ k := by decide) (hg : Gl X x := by rfl) (hdb : (x == ("__debug__" : Str)) = false := by decide) :
    PE X (.Call (.Name x p) [] [] pos) (tCall sp [] E0 tNil) := by
  obtain ⟨f, fd, F, hm, hk, hb⟩ := h.ex
  exact pe_call0 F (hr.mono hj) hg hm hk hb .nil pass0 hdb
end
theorem pe_bt {X : Cx} {x : Str} {n : String} {pos : Pos} (hm : X.mg x = none) (hv : bootBuiltins x = some (.type n)) (hg : Gl X x := by rfl) (hn : x ≠ "__name__" := by decide) (hd : (x == ("__debug__" : Str)) = false := by decide) : PE X (.Name x pos) (tC (.ty n)) :=
  pe_bltn hg hm hv rfl hn hd
theorem Has.mono {P : Program} {w : World} {K : PySem.W.Frag} {mg : Str → Option Value} {base : Heap} {x : Str} {j k : Nat} {ps : List Str} {sp : Sp} (h : Has P w K mg base x j ps sp) (hj : j ≤ k) : Has P w K mg base x k ps sp := by
  obtain ⟨f, fd, F, h1⟩ := h.ex
  exact ⟨f, fd, F.mono hj, h1⟩
end Fl
set_option autoImplicit false
set_option Elab.async false
set_option linter.all false
set_option maxRecDepth 100000
set_option maxHeartbeats 2000000
namespace FlRev
open PySem PySem.Spec PyProof.Rows L2 HT
section
variable {prog : Program} {w : World} {A : Around} {E : Value → Shared → Prop} {s : Shared}
theorem places_rev (n : Nat) : Builtin.Slice.slicePlaces ((n : Int) - 1) (-1) (-1) = n := by
  unfold Builtin.Slice.slicePlaces
  rw [if_neg (by decide)]
  by_cases h : (n : Int) - 1 > -1
  · rw [if_pos h]
    show (((n : Int) - 1 - -1 - 1) / (-(-1)) + 1).toNat = n
    have : (-(-1) : Int) = 1 := by decide
    rw [this, Int.ediv_one]
    omega
  · rw [if_neg h]
    omega
theorem fm_congr {α β : Type} {f g : α → Option β} : ∀ {l : List α}, (∀ x, x ∈ l → f x = g x) → l.filterMap f = l.filterMap g
  | [], _ => rfl
  | a :: l, h => by
    rw [List.filterMap_cons, List.filterMap_cons, h a List.mem_cons_self, fm_congr fun x hx => h x (List.mem_cons_of_mem _ hx)]
theorem pick_rev (xs : Array Value) : ((List.range xs.size).filterMap fun (m : Nat) => xs[(((xs.size : Int) - 1) + (m : Int) * (-1)).toNat]?).toArray = xs.toList.reverse.toArray := by
  congr 1
  apply List.ext_getElem?
  intro i
  have e : ((List.range xs.size).filterMap fun (m : Nat) => xs[(((xs.size : Int) - 1) + (m : Int) * (-1)).toNat]?) = (List.range xs.size).map fun m => xs.toList.reverse.getD m .none := by
    rw [← List.filterMap_eq_map]
    apply fm_congr
    intro m hm
    have hm' := List.mem_range.mp hm
    have e1 : (((xs.size : Int) - 1) + (m : Int) * (-1)).toNat = xs.size - 1 - m := by omega
    rw [e1]
    show xs[xs.size - 1 - m]? = some _
    have h2 : xs.size - 1 - m < xs.size := by omega
    rw [Array.getElem?_eq_getElem h2]
    show some xs[xs.size - 1 - m] = some (xs.toList.reverse.getD m Value.none)
    rw [List.getD_eq_getElem?_getD, List.getElem?_reverse (by simpa using hm')]
    have h3 : xs.toList.length - 1 - m < xs.toList.length := by simpa using h2
    rw [List.getElem?_eq_getElem h3]
    simp
  rw [e]
  by_cases h : i < xs.size
  · rw [List.getElem?_map, List.getElem?_range h]
    have h1 : i < xs.toList.reverse.length := by simpa using h
    show some (xs.toList.reverse.getD i .none) = _
    rw [List.getD_eq_getElem?_getD, List.getElem?_eq_getElem h1] <;> rfl
  · rw [List.getElem?_eq_none (by simpa using h), List.getElem?_eq_none (by simpa using h)]
theorem sliceApplied_rev {sl : Addr} {vl vu vs : Value} {n : Nat} {Q : Int × Int × Nat → Shared → Prop} (hs : s.heap.IsSliceOf sl vl vu vs) (pl : IsPart vl none) (pu : IsPart vu none) (ps : IsPart vs (some (-1)))
    (h : Q ((n : Int) - 1, -1, n) s) : wpAny (model prog w) A (Builtin.Slice.sliceApplied (.ref sl) (pure (n : Int))) Q E s := by
  obtain ⟨os, hos, hcs, hds⟩ := id hs
  unfold Builtin.Slice.sliceApplied Builtin.Slice.sliceFields
  refine wpAny_bind (wpAny_bind (wpAny_field hos hds (x := vl) rfl (wpAny_bind (wpAny_field hos hds (x := vu) rfl (wpAny_bind (wpAny_field hos hds (x := vs) rfl (wpAny_pure ?_)))))))
  refine wpAny_bind (slicePart_ ps ?_)
  show wpAny _ _ (if ((-1 : Int) == 0) = true then _ else _) _ _ s
  rw [if_neg (by decide)]
  refine wpAny_bind (slicePart_ pl (wpAny_bind (slicePart_ pu (wpAny_bind (wpAny_pure ?_)))))
  show wpAny _ _ (pure ((n : Int) - 1, (-1 : Int), Builtin.Slice.slicePlaces ((n : Int) - 1) (-1) (-1))) _ _ s
  rw [places_rev]
  exact wpAny_pure h
theorem getItem_tuple_rev {t sl : Addr} {items : Array Value} {vl vu vs : Value} {Q : Value → Shared → Prop} (ht : IsTup s.heap t items) (hs : s.heap.IsSliceOf sl vl vu vs) (pl : IsPart vl none) (pu : IsPart vu none) (ps : IsPart vs (some (-1)))
    (h : Q (.ref s.heap.objs.size) { s with heap := s.heap.push { cls := .type "tuple", data := .seq items.toList.reverse.toArray } })
    (hsz : items.size ≤ sizeLine) : wpAny (model prog w) A (getItem (.ref t) (.ref sl)) Q E s := by
  have htake : sizeOk (.seq items.toList.reverse.toArray) := by
    show items.toList.reverse.toArray.size ≤ sizeLine
    rw [List.size_toArray, List.length_reverse, Array.length_toList]
    exact hsz
  obtain ⟨os, hos, hcs, hds⟩ := id hs
  have hTs : s.TypeIs (.ref sl) "slice" := ⟨os, hos, hcs⟩
  unfold getItem
  try with_reducible refine wpAny_holding ?_
  first | refine wpAny_bind (wpAny_pure ?_) | skip
  refine wpAny_bind (wpAny_sequenceKey ht.typeIs (by decide) ?_)
  refine wpAny_bind (wpAny_callSpecial?_slot (name := Str.ofString "__getitem__") ht.typeIs PyProof.Rows.slot_tuple_getitem
    (wpAny_call_entry PyProof.Rows.slot_tuple_getitem ht.typeIs entry_tuple_getitem ?_ (args_tuple_getitem _ _)))
  show wpAny _ _ (Builtin.Tuple.tupleItemsOf (.ref t) >>= _) _ _ s
  refine wpAny_bind (tupleItemsOf_ ht ?_)
  refine wpAny_bind (wpAny_typeOf hTs ?_)
  rw [if_pos (by decide)]
  refine wpAny_bind (sliceApplied_rev hs pl pu ps ?_)
  have hno : ¬ ((((items.size : Int) - 1) == 0 && (-1 : Int) == 1 && items.size == items.size) = true) := by
    intro q
    rw [Bool.and_eq_true, Bool.and_eq_true] at q
    exact absurd q.1.2 (by decide)
  show wpAny _ _ (if (((items.size : Int) - 1) == 0 && (-1 : Int) == 1 && items.size == items.size) = true then _ else _) _ _ s
  rw [if_neg hno, pick_rev]
  first
    | exact wpAny_bind (m := Builtin.Tuple.tupleExact _) (wpAny_newObj_type (wpAny_pure ⟨_, rfl, wpAny_pure h⟩) htake)
    | exact wpAny_bind (m := Builtin.Tuple.tupleExact _) (wpAny_newObj_type (wpAny_bind (wpAny_pure (wpAny_pure ⟨_, rfl, wpAny_pure h⟩))) htake)
    | exact wpAny_bind (wpAny_bind (m := Builtin.Tuple.tupleExact _) (wpAny_newObj_type (wpAny_pure (wpAny_pure ⟨_, rfl, wpAny_pure h⟩)) htake))
    | exact wpAny_bind (wpAny_bind (m := Builtin.Tuple.tupleExact _) (wpAny_newObj_type (wpAny_pure ⟨_, rfl, wpAny_pure h⟩) htake))
end
section
variable {X : Cx}
def tRevT (K : PySem.W.Frag) (te : TE) : TE := fun σ H Q => te σ H fun x H1 => ∃ a xs, x = .ref a ∧ SqT K H1 a xs ∧ ∀ p, H1 p = none → Q (.ref p) (upd H1 p (.tup xs.reverse))
theorem pe_revT {e : Expr} {te : TE} {k : Nat} {p1 p2 p3 pos : Pos} (he : PE X e te) : PE X (.Subscript e (.Slice none none (some (.UnaryOp .USub (.Constant (.int 1) k p1) p2)) p3) pos) (tRevT X.K te) := by
  refine ⟨fun pins s σ H Q I h => ?_⟩
  refine Subscript_ (thn (he.run pins s σ H _ I h) fun v s1 ⟨x, H1, I1, r1, q1⟩ => ?_)
  obtain ⟨a, xs, ex, hx, q⟩ := q1
  subst ex
  cases r1
  have hst : PO X (some (.UnaryOp .USub (.Constant (.int 1) k p1) p2)) (tPart (tUn (rU fun i => .int (-i)) (tC (.int 1)))) := po_some (pe_un un_neg pe_int)
  refine wpAny_Slice (thn (po_none.run pins s1 σ H1 (fun o H2 => o = none ∧ H2 = H1) I1 ⟨rfl, rfl⟩) fun vl s2 ⟨l, H2, I2, pl, el, e2⟩ => ?_)
  subst el e2
  refine thn (po_none.run pins s2 σ H2 (fun o H3 => o = none ∧ H3 = H2) I2 ⟨rfl, rfl⟩) fun vu s3 ⟨u, H3, I3, pu, eu, e3⟩ => ?_
  subst eu e3
  refine thn (hst.run pins s3 σ H3 (fun o H4 => o = some (-1) ∧ H4 = H3) I3 ⟨1, rfl, -1, rfl, rfl, rfl⟩) fun vs s4 ⟨o, H4, I4, ps, eo, e4⟩ => ?_
  subst eo e4
  have I5 : Inv X pins σ H4 { s4 with heap := s4.heap.push { cls := .type "slice", data := .fields #[vl, vu, vs] } } := I4.kept (t' := s4.toks) fun b ob q => Heap.get?_push_of_some _ q
  obtain ⟨its, r, ht, hz⟩ := I5.tuple hx
  have hlen := r.length
  show wpAny (model X.prog X.w) X.A (subscriptTail e (.Slice none none (some (.UnaryOp .USub (.Constant (.int 1) k p1) p2)) p3) (.ref a) (.ref s4.heap.objs.size)) (EP X pins σ Q) X.xe { s4 with heap := s4.heap.push { cls := .type "slice", data := .fields #[vl, vu, vs] } }
  refine tail_any (ops := [.ref a, .ref s4.heap.objs.size]) ht.typeIs (PyProof.Rows.slot_tuple_getitem.lookup) ?_ (by with_unfolding_all rfl)
  refine getItem_tuple_rev ht (Heap.IsSliceOf.new _ vl vu vs) pl pu ps ?_ (by rw [List.size_toArray]; omega)
  refine ⟨.ref _, _, I5.laid (t' := s4.toks) (o := .tup xs.reverse) (fun b ob q => Heap.get?_push_of_some _ q) (Nat.le_refl _) ?_, rfl, q _ (I5.hok.fresh (Nat.le_refl _))⟩
  exact ⟨by rw [List.length_reverse]; exact hz, _, r.reverse, IsTup.new _ _⟩
end
end FlRev
set_option autoImplicit false
set_option Elab.async false
set_option linter.all false
set_option maxRecDepth 100000
set_option maxHeartbeats 2000000
namespace Fl
open PySem PySem.Spec PyProof.Rows L2
section
variable {K : PySem.W.Frag} {env e0 e1 e2 : Env} {x y z d : D} {ta tb te : TE} {tr : TA} {tt u' : TT} {t u : TS} {a b : Bool} {out : Out}
/-! ### rules in the forms that a reading takes step by step -/
theorem rr_i {g : Int → Int → Int} {i j : Int} : RR K (rI0 fun i j => .int (g i j)) (.int i) (.int j) (.int (g i j)) := rr_I0 rfl rfl
theorem rr_b {g : Int → Int → Bool} {i j : Int} : RR K (rI0 fun i j => .bl (g i j)) (.int i) (.int j) (.bool (g i j)) := rr_I0 rfl rfl
theorem rr_ic {C : Int → Int → Prop} {g : Int → Int → Int} {i j : Int} (hc : C i j) : RR K (rI C fun i j => .int (g i j)) (.int i) (.int j) (.int (g i j)) := rr_I hc rfl rfl
theorem dec_int (i j : Int) : decide ((V.int i) = V.int j) = decide (i = j) := by
  by_cases h : i = j
  · rw [h, decide_eq_true rfl, decide_eq_true rfl]
  · rw [decide_eq_false h, decide_eq_false fun z => h (V.int.inj z)]
theorem dec_bl (i j : Bool) : decide ((V.bl i) = V.bl j) = decide (i = j) := by
  by_cases h : i = j
  · rw [h, decide_eq_true rfl, decide_eq_true rfl]
  · rw [decide_eq_false h, decide_eq_false fun z => h (V.bl.inj z)]
theorem dec_str (i j : Str) : decide ((V.str i) = V.str j) = decide (i = j) := by
  by_cases h : i = j
  · rw [h, decide_eq_true rfl, decide_eq_true rfl]
  · rw [decide_eq_false h, decide_eq_false fun z => h (V.str.inj z)]
theorem rr_eqI {i j : Int} : RR K rEq (.int i) (.int j) (.bool (decide (i = j))) := rr_eq rfl rfl rfl (dec_int i j)
theorem rr_neI {i j : Int} : RR K rNe (.int i) (.int j) (.bool (!decide (i = j))) := rr_ne rfl rfl rfl (by show (!decide (V.int i = V.int j)) = _; rw [dec_int])
theorem rr_eqB {i j : Bool} : RR K rEq (.bool i) (.bool j) (.bool (decide (i = j))) := rr_eq rfl rfl rfl (dec_bl i j)
theorem rr_neB {i j : Bool} : RR K rNe (.bool i) (.bool j) (.bool (!decide (i = j))) := rr_ne rfl rfl rfl (by show (!decide (V.bl i = V.bl j)) = _; rw [dec_bl])
theorem rr_eqS {i j : Str} : RR K rEq (.str i) (.str j) (.bool (decide (i = j))) := rr_eq rfl rfl rfl (dec_str i j)
theorem rr_neS {i j : Str} : RR K rNe (.str i) (.str j) (.bool (!decide (i = j))) := rr_ne rfl rfl rfl (by show (!decide (V.str i = V.str j)) = _; rw [dec_str])
theorem ee_ifT (h : ET K tt env e1 b) (hb : b = true) (h1 : EE K ta e1 e2 d) : EE K (tIf tt ta tb) env e2 d := by
  subst hb
  exact ee_if h (fun _ => h1) (fun z => nomatch z)
theorem ee_ifF (h : ET K tt env e1 b) (hb : b = false) (h1 : EE K tb e1 e2 d) : EE K (tIf tt ta tb) env e2 d := by
  subst hb
  exact ee_if h (fun z => nomatch z) (fun _ => h1)
theorem ss_ifT (h : ET K tt env e1 b) (hb : b = true) (h1 : SS K t e1 out) : SS K (tIfS tt t u) env out := ss_yes (h.is hb) h1
theorem ss_ifF (h : ET K tt env e1 b) (hb : b = false) (h1 : SS K u e1 out) : SS K (tIfS tt t u) env out := ss_no (h.is hb) h1
/-- and, or of tests that change nothing -/
theorem ee_andP (h1 : EE K ta env env (.bool a)) (h2 : EE K tb env env (.bool b)) : EE K (tAndV ta tb) env env (.bool (a && b)) := ee_andV h1 (fun _ => h2) fun _ => rfl
theorem ee_orP (h1 : EE K ta env env (.bool a)) (h2 : EE K tb env env (.bool b)) : EE K (tOrV ta tb) env env (.bool (a || b)) := ee_orV h1 (fun _ => h2) fun _ => rfl
theorem et_andP (h1 : ET K tt env env a) (h2 : ET K u' env env b) : ET K (tAnd tt u') env env (a && b) := et_and h1 (fun _ => h2) fun _ => rfl
theorem et_orP (h1 : ET K tt env env a) (h2 : ET K u' env env b) : ET K (tOr tt u') env env (a || b) := et_or h1 (fun _ => h2) fun _ => rfl
/-- the second one is not looked at -/
theorem ee_and0 (h1 : EE K ta env e1 (.bool a)) (h : a = false) : EE K (tAndV ta tb) env e1 (.bool false) := by
  subst h
  exact ee_andV (b := false) h1 (fun z => nomatch z) fun _ => rfl
theorem ee_or1 (h1 : EE K ta env e1 (.bool a)) (h : a = true) : EE K (tOrV ta tb) env e1 (.bool true) := by
  subst h
  exact ee_orV (b := true) h1 (fun z => nomatch z) fun _ => rfl
theorem et_and0 (h1 : ET K tt env e1 a) (h : a = false) : ET K (tAnd tt u') env e1 false := by
  subst h
  exact et_and (b := false) h1 (fun z => nomatch z) fun _ => rfl
theorem et_or1 (h1 : ET K tt env e1 a) (h : a = true) : ET K (tOr tt u') env e1 true := by
  subst h
  exact et_or (b := true) h1 (fun z => nomatch z) fun _ => rfl
theorem ee_sl {r : V → Option Int → Option Int → Hp → VK → Prop} : True := trivial
/-! ### slices -/
def cutD (ds : List D) (lo hi : Option Int) : List D := (ds.drop (HT.sIx ds.length 0 lo)).take (HT.sIx ds.length ds.length hi - HT.sIx ds.length 0 lo)
def EO (K : PySem.W.Frag) (to : TO) (env env' : Env) (o : Option Int) : Prop := ∀ (G : Fr) (gh : List Gh) (σ : L2.St) (H : Hp) (own : Own) (Q : Option Int → Hp → Prop), G.K = K → EnvIs G gh σ H own env → (∀ H', EnvIs G gh σ H' own env' → Q o H') → to σ H Q
theorem eo_no : EO K tNoPart env env none := fun G gh σ H own Q hK I q => q _ I
theorem eo_part {i : Int} (h : EE K te env e1 (.int i)) : EO K (tPart te) env e1 (some i) := fun G gh σ H own Q hK I q => by
  refine h G gh σ H own _ hK I fun v H1 I1 i1 => ?_
  cases i1
  exact ⟨i, rfl, q _ I1⟩
theorem ee_slT {ds : List D} {l h : TO} {lo hi : Option Int} {e3 : Env} (hx : EE K te env e1 (.tuple ds)) (hl : EO K l e1 e2 lo) (hh : EO K h e2 e3 hi) (hw : ¬ (HT.sIx ds.length 0 lo = 0 ∧ HT.sIx ds.length ds.length hi = ds.length)) : EE K (tSl (rSlT K) te l h) env e3 (.tuple (cutD ds lo hi)) := fun G gh σ H own Q hK I q => by
  refine hx G gh σ H own _ hK I fun v H1 I1 i1 => ?_
  refine hl G _ σ H1 own _ hK (I1.tree (hK ▸ i1)) fun H2 I2 => ?_
  refine hh G _ σ H2 own _ hK I2 fun H3 I3 => ?_
  obtain ⟨p, xs, e, h3, h4⟩ := id (hK ▸ I3.hd : Is K (avd G own) H3 v (.tuple ds)).tup_inv
  subst e
  have h5 := cutV_is (lo := lo) (hi := hi) h4
  refine ⟨p, xs, rfl, h3, by rw [h4.len]; exact hw, fun l hl => ?_⟩
  have J := I3.tl.newT hl (hK ▸ h5)
  exact q _ _ J.tl (hK ▸ J.hd)
theorem en_slL {ds : List D} {l h : TO} {lo hi : Option Int} {e3 : Env} (hx : EE K te env e1 (.list ds)) (hl : EO K l e1 e2 lo) (hh : EO K h e2 e3 hi) : EN K (tSl (rSlL K) te l h) env e3 (.lst (cutD ds lo hi)) := fun G gh σ H own Q hK I q => by
  refine hx G gh σ H own _ hK I fun v H1 I1 i1 => ?_
  refine hl G _ σ H1 own _ hK (I1.tree (hK ▸ i1)) fun H2 I2 => ?_
  refine hh G _ σ H2 own _ hK I2 fun H3 I3 => ?_
  obtain ⟨p, xs, e, h3, h4⟩ := id (hK ▸ I3.hd : Is K (avd G own) H3 v (.list ds)).lst_inv
  subst e
  exact ⟨p, xs, rfl, h3, fun l hl => en_new hK I3.tl hl (show CtIs K (avd G own) H3 (.lst (cutV xs lo hi)) (.lst (cutD ds lo hi)) from cutV_is h4) q⟩
theorem ee_revT {ds : List D} (hx : EE K te env e1 (.tuple ds)) : EE K (FlRev.tRevT K te) env e1 (.tuple ds.reverse) := fun G gh σ H own Q hK I q => by
  refine hx G gh σ H own _ hK I fun v H1 I1 i1 => ?_
  obtain ⟨p, xs, e, h3, h4⟩ := id i1.tup_inv
  subst e
  refine ⟨p, xs, rfl, h3, fun l hl => ?_⟩
  have J := I1.newT hl (hK ▸ h4.reverse)
  exact q _ _ J.tl (hK ▸ J.hd)
theorem en_revL {ds : List D} (hx : EE K te env e1 (.list ds)) : EN K (tRevL K te) env e1 (.lst ds.reverse) := fun G gh σ H own Q hK I q => by
  refine hx G gh σ H own _ hK I fun v H1 I1 i1 => ?_
  obtain ⟨p, xs, e, h3, h4⟩ := id i1.lst_inv
  subst e
  exact ⟨p, xs, rfl, h3, fun l hl => en_new hK I1 hl (show CtIs K (avd G own) H1 (.lst xs.reverse) (.lst ds.reverse) from h4.reverse) q⟩
/-- .. of an owned list -/
theorem en_revO {i : Nat} {pm : Bool} {ds : List D} (h : env[i]? = some (.o pm (.lst ds))) : EN K (tRevL K (tVar i)) env env (.lst ds.reverse) := fun G gh σ H own Q hK I q => by
  obtain ⟨p, ho, h1, h2, h3, h4⟩ := own_var I h
  obtain ⟨vs, rfl, h5⟩ := h4.lst_inv
  exact ⟨_, h2, p, vs, rfl, SqL.of h3, fun l hl => en_new hK I hl (show CtIs K (avd G own) H (.lst vs.reverse) (.lst ds.reverse) from hK ▸ h5.reverse) q⟩
/-- a tuple of the module -/
theorem ee_kt {p : Addr} {vs : List V} {ds : List D} (h : SqT K H0 p vs) (h2 : ∀ (A : Addr → Prop) (H : Hp), IsAll K A H vs ds) : EE K (tC (.ref p)) env env (.tuple ds) := fun G gh σ H own Q hK I q => q _ _ I (.tupK h (h2 _ _))
/-- x in a tuple, in a list, of flat things -/
def flatD : D → Bool
  | .none => true
  | .bool _ => true
  | .int _ => true
  | .str _ => true
  | _ => false
theorem flat_of {A : Addr → Prop} {H : Hp} {v : V} (h : Is K A H v x) (hs : sca x = true) : flatV v = true := by
  rw [is_sca h hs]
  cases x <;> first | rfl | cases hs
theorem flats_of {A : Addr → Prop} {H : Hp} : ∀ {vs : List V} {ds : List D}, IsAll K A H vs ds → ds.all sca = true → vs = ds.map dV ∧ vs.all flatV = true
  | _, [], h, _ => by cases h; exact ⟨rfl, rfl⟩
  | _, d :: ds, h, hs => by
    cases h with
    | cons h1 h2 =>
      rw [List.all_cons, Bool.and_eq_true] at hs
      obtain ⟨g1, g2⟩ := flats_of h2 hs.2
      refine ⟨?_, ?_⟩
      · rw [is_sca h1 hs.1, g1]; rfl
      · rw [List.all_cons, flat_of h1 hs.1, g2]; rfl
theorem rr_in {ds : List D} {neg : Bool} (hy : seqOf y = some ds) (hx : sca x = true) (hs : ds.all sca = true) (e : (if neg then !inV (dV x) (ds.map dV) else inV (dV x) (ds.map dV)) = b) : RR K (rIn K neg) x y (.bool b) := fun G gh σ H own env vx vy Q hK I h1 h2 q => by
  cases y <;> first | (cases hy; done) | skip
  · obtain ⟨a, xs, rfl, h3, h4⟩ := h2.lst_inv
    cases hy
    obtain ⟨g1, g2⟩ := flats_of h4 hs
    refine ⟨a, xs, rfl, Or.inl h3, flat_of h1 hx, g2, ?_⟩
    rw [is_sca h1 hx, g1, e]
    exact q _ _ I (.bl b)
  · obtain ⟨a, xs, rfl, h3, h4⟩ := h2.tup_inv
    cases hy
    obtain ⟨g1, g2⟩ := flats_of h4 hs
    refine ⟨a, xs, rfl, Or.inr h3, flat_of h1 hx, g2, ?_⟩
    rw [is_sca h1 hx, g1, e]
    exact q _ _ I (.bl b)
end
theorem hu64 {A : Around} {k : Nat} (hr : Room k A) : A.units + 64 < cLine := by have := hr.un; omega
theorem hu65 {A : Around} {k : Nat} (hr : Room k A) : A.units + 65 < cLine := by have := hr.un; omega
theorem pe_gT {X : Cx} {x : Str} {a : Addr} {pos : Pos} (hm : X.mg x = some (.ref a)) (hg : Gl X x := by rfl) (hd : (x == ("__debug__" : Str)) = false := by decide) : PE X (.Name x pos) (tC (.ref a)) := pe_glob hg hm rfl hd
end Fl
set_option autoImplicit false
set_option Elab.async false
set_option linter.all false
set_option maxRecDepth 100000
set_option maxHeartbeats 2000000
namespace FlRange
open PySem PySem.Spec PyProof.Rows L2
theorem turn_long {P : Program} {w : World} {K : PySem.W.Frag} {tg : Expr} (it : Addr) (lo : Int) (n : Nat) : Turn P w K tg (Itr lo n) [it] it (fun i h => IsLongIter h it (lo + (i : Nat) * 1) ((n : Int) - (i : Nat)) 1) where
  mem := by simp
  obj := fun i h st b hb => by
    have e : b = it := by simpa using hb
    subst e
    exact ⟨_, st, fun v z => by
      have z' : Data.fields _ = Data.cell v := z
      cases z'⟩
  keep := fun i h h' st k => k it (by simp) _ st
  item := by
    intro X hP hw hK hc i pins s σ H E I hf st hg
    subst hP hw hK
    obtain ⟨f0, f1, f2, f3, f4, f5⟩ := hf it (by simp)
    have W := Walks.longrange (prog := X.prog) (w := X.w) (I.ok.hd hc) it lo 1 n
    refine W.item i s _ _ hg st fun v h' tk hv st' kk => ?_
    obtain ⟨t, rfl⟩ := hv
    have I1 : Inv X pins σ H { s with heap := h', toks := tk } := I.turned (fun b o hb e => kk b o (by simpa using hb) e) f0 f1 f3 f4 f5
    refine ⟨_, rfl, go_of (s := { s with heap := h', toks := tk }) (n := "longrange_iterator") st' rfl rfl (by decide) ⟨.int (lo + i), H, I1, ⟨t, ?_⟩, ⟨rfl, rfl⟩, st', fun b hb => (hf b hb).1⟩⟩
    rw [Int.mul_one]
  done := by
    intro X hP hw hK hc i pins s σ H E I hf st hg
    subst hP hw hK
    obtain ⟨f0, f1, f2, f3, f4, f5⟩ := hf it (by simp)
    exact wpAny_pyNext_long_end (I.ok.hd hc) st (by have : n ≤ i := hg; omega) fun h' eb => ⟨rfl, I.turned (t' := s.toks) (fun b o hb e => eb b o hb e) f0 f1 f3 f4 f5⟩
  self := fun _ _ _ _ _ st h => wpAny_pyIter_longiter st h
section
variable {X : Cx} {tg : Expr}
theorem range_itL {pins : List (Addr × Obj)} {σ : L2.St} {H : Hp} {s : Shared} {R : It → Hp → Prop} {E : Value → Shared → Prop} {lo hi : Int} {t u v : Tok} {tk : Nat} (I : Inv X pins σ H s)
    (q : R (Itr lo (hi - lo).toNat) H) : wpAny (model X.prog X.w) X.A (pyIter (.ref s.heap.objs.size)) (PIE X pins σ tg R) E { s with heap := s.heap.push { cls := .type "range", data := .fields #[.int lo t, .int hi u, .int 1 v] }, toks := tk } := by
  have I1 : Inv X pins σ H { s with heap := s.heap.push { cls := .type "range", data := .fields #[.int lo t, .int hi u, .int 1 v] }, toks := tk } := I.kept fun b o e => Heap.get?_push_of_some _ e
  have e1 : lo + ((0 : Nat) : Int) * 1 = lo := by simp
  have e2 : (((hi - lo).toNat : Nat) : Int) - ((0 : Nat) : Int) = Builtin.Range.rangeSize lo hi 1 := by rw [rangeSize_one]; split <;> omega
  cases hs : Builtin.Range.small lo hi 1 with
  | true =>
    refine wpAny_pyIter_range (IsRange.new ..) hs ?_
    refine ⟨(s.heap.push { cls := .type "range", data := .fields #[.int lo t, .int hi u, .int 1 v] }).objs.size, [(s.heap.push { cls := .type "range", data := .fields #[.int lo t, .int hi u, .int 1 v] }).objs.size], _, _, H, rfl,
      I1.kept (t' := tk) fun b o e => Heap.get?_push_of_some _ e, turn_range _ lo (hi - lo).toNat, ?_, fun b hb => ?_, q⟩
    · show IsRangeIter _ _ (lo + ((0 : Nat) : Int) * 1) ((((hi - lo).toNat : Nat) : Int) - ((0 : Nat) : Int)) 1
      rw [e1, e2]
      exact Heap.get?_push_size _ rfl
    · have e : b = (s.heap.push { cls := .type "range", data := .fields #[.int lo t, .int hi u, .int 1 v] }).objs.size := by simpa using hb
      subst e
      exact I1.fpOk (Nat.le_refl _) (I1.hok.fresh (Nat.le_refl _))
  | false =>
    refine wpAny_pyIter_longrange (IsRange.new ..) hs ?_
    refine ⟨(s.heap.push { cls := .type "range", data := .fields #[.int lo t, .int hi u, .int 1 v] }).objs.size, [(s.heap.push { cls := .type "range", data := .fields #[.int lo t, .int hi u, .int 1 v] }).objs.size], _, _, H, rfl,
      I1.kept (t' := tk) fun b o e => Heap.get?_push_of_some _ e, turn_long _ lo (hi - lo).toNat, ?_, fun b hb => ?_, q⟩
    · show IsLongIter _ _ (lo + ((0 : Nat) : Int) * 1) ((((hi - lo).toNat : Nat) : Int) - ((0 : Nat) : Int)) 1
      rw [e1, e2]
      exact Heap.get?_push_size _ rfl
    · have e : b = (s.heap.push { cls := .type "range", data := .fields #[.int lo t, .int hi u, .int 1 v] }).objs.size := by simpa using hb
      subst e
      exact I1.fpOk (Nat.le_refl _) (I1.hok.fresh (Nat.le_refl _))
/-- range(a), range(a, b), ints of any size -/
def iRngL1 (ta : TA) : TI := fun σ H R => ta σ H fun vs H1 => ∃ j : Int, vs = [.int j] ∧ R (Itr 0 j.toNat) H1
def iRngL2 (ta : TA) : TI := fun σ H R => ta σ H fun vs H1 => ∃ i j : Int, vs = [.int i, .int j] ∧ R (Itr i (j - i).toNat) H1
theorem pi_rangeL1 {a : Expr} {ta : TA} {p pos : Pos} (hg : Gl X "range") (hm : X.mg "range" = none) (ha : PA X [a] ta) (hs : starEach [a] X.env = [(false, eval a X.env)] := by rfl) : PI X tg (.Call (.Name "range" p) [a] [] pos) (iRngL1 ta) := by
  refine ⟨fun pins s σ H R I h => ?_⟩
  refine Call_ (ld_blt I hg hm boot_range (PyProof.Rows.callWith_type1 (thn (ha.run pos pins s σ H _ I h) fun us s1 ⟨vs, H1, I1, r1, q1⟩ => ?_) hs rfl))
  obtain ⟨j, e, q⟩ := q1
  subst e
  cases r1 with
  | cons r rr =>
    cases rr
    obtain ⟨t, rfl⟩ := r
    have q2 : R (Itr 0 (j - 0).toNat) H1 := by rw [Int.sub_zero]; exact q
    exact call_range_1 (range_itL I1 q2)
theorem pi_rangeL2 {a b : Expr} {ta : TA} {p pos : Pos} (hg : Gl X "range") (hm : X.mg "range" = none) (ha : PA X [a, b] ta) (hs : starEach [a, b] X.env = [(false, eval a X.env), (false, eval b X.env)] := by rfl) (hs2 : starEach [b] X.env = [(false, eval b X.env)] := by rfl) :
    PI X tg (.Call (.Name "range" p) [a, b] [] pos) (iRngL2 ta) := by
  refine ⟨fun pins s σ H R I h => ?_⟩
  refine Call_ (ld_blt I hg hm boot_range (PyProof.Rows.callWith_type1 (thn (ha.run pos pins s σ H _ I h) fun us s1 ⟨vs, H1, I1, r1, q1⟩ => ?_) (by rw [hs, hs2]) (by rw [hs2]; rfl)))
  obtain ⟨i, j, e, q⟩ := q1
  subst e
  cases r1 with
  | cons r rr =>
    cases rr with
    | cons r' rr =>
      cases rr
      obtain ⟨t, rfl⟩ := r
      obtain ⟨t', rfl⟩ := r'
      exact call_range_2 (range_itL I1 q)
end
end FlRange
namespace Fl
open PySem PySem.Spec PyProof.Rows L2
variable {K : PySem.W.Frag} {env e1 : Env} {tr : TA}
theorem ei_rangeL1 {n : Int} (h : EA K tr env e1 [.int n]) : EI K (FlRange.iRngL1 tr) env e1 (rangeD 0 n.toNat) := fun G gh σ H own R hK I q =>
  h G gh σ H own _ hK I fun vs H' I' i => by
    obtain ⟨v, rfl, i2⟩ := one_inv i
    cases i2
    exact ⟨n, rfl, q _ [] H' itOk_range (fun _ _ z => by simp at z) I'⟩
theorem ei_rangeL2 {m n : Int} (h : EA K tr env e1 [.int m, .int n]) : EI K (FlRange.iRngL2 tr) env e1 (rangeD m (n - m).toNat) := fun G gh σ H own R hK I q =>
  h G gh σ H own _ hK I fun vs H' I' i => by
    obtain ⟨v, w, rfl, i2, i3⟩ := two_inv i
    cases i2
    cases i3
    exact ⟨m, n, rfl, q _ [] H' itOk_range (fun _ _ z => by simp at z) I'⟩
end Fl
set_option autoImplicit false
set_option Elab.async false
set_option linter.all false
set_option maxRecDepth 100000
set_option maxHeartbeats 2000000
namespace FlDc
open PySem PySem.Spec PyProof.Rows L2
/-- d[k] = v by a comprehension, k a tuple of ints and texts -/
theorem dictSetT {X : Cx} {pins : List (Addr × Obj)} {σ : L2.St} {H : Hp} {s : Shared} {E : Value → Shared → Prop} {D b : Addr} {kvs : List (List Key × V)} {k : List Key} {v : V} {u r : Value} {Q : Unit → Shared → Prop} (hu : X.A.units + 1 < cLine) (I : Inv X pins σ H s) (hD : H D = some (.dT kvs)) (hz : kvs.length < sizeLine)
    (hb : H b = some (.tup (k.map kV))) (ry : RelV (.ref b) u) (rv : RelV v r) (h : ∀ s', Inv X pins σ (upd H D (.dT (putK kvs k v))) s' → Q () s') : wpAny (model X.prog X.w) X.A (dictSet D u r) Q E s := by
  cases (show u = Value.ref b from ry)
  obtain ⟨z, hd, xs, rel, dd⟩ := dt_of I.hok hD
  have hzv : xs.length ≤ sizeLine := by rw [← Paired.length rel]; exact z
  have hl : (putK kvs k v).length ≤ sizeLine := by have := length_putK kvs k v; omega
  refine wpAny_dictSet_heap (hsz := hzv) (by first | exact Nat.lt_of_succ_lt hu | exact (show X.A.units < cLine by omega) | exact hu) (key_of I.hok hb) dd fun h' dd' hs => h _ ?_
  obtain ⟨q, es, ep, hq, h2, h3, h4, _, h5⟩ := dd'
  refine d_write I (by rw [hD]; exact True.intro) hs ⟨q, hq⟩ ⟨hl, hd, _, (rel.put k hb rv).keeps fun c ys ec => ?_, q, es, ep, hq, h2, h3, h4, h5⟩
  rw [upd_ne (ne_of ec hD (fun z => nomatch z))]
  exact ec
section
variable {X : Cx}
/-- {k: v for target in iter if ..}, keys tuples of ints and texts -/
def tDcT (wi : TI) (g : TG) (tt : TT) (tk tv : TE) (vs : List Nat) : TE := fun σ H Q => wi σ H fun J H1 => ∀ D, H1 D = none → ∃ W : Nat → Nat → Hp → Prop, (∃ m, W 0 m (upd H1 D (.dT []))) ∧ ∀ i m H, W i m H →
  (J.stop i H ∧ Q (.ref D) H) ∨ (J.go i H ∧ ∃ Nx : Hp → Prop, (∀ H', Nx H' → ∃ m', m' < m ∧ W (i + 1) m' H') ∧ ∀ x H', J.yld i H x H' → g x (wipe σ vs) H' fun σ2 H2 => wipe σ2 vs = wipe σ vs ∧ tt σ2 H2 fun b H3 =>
    if b = true then tk σ2 H3 fun y H4 => tv σ2 H4 fun z H5 => ∃ kvs k a, y = .ref a ∧ H5 a = some (.tup (k.map kV)) ∧ H5 D = some (.dT kvs) ∧ kvs.length < sizeLine ∧ Nx (upd H5 D (.dT (putK kvs k z))) else Nx H3)
theorem dcT_core {pins : List (Addr × Obj)} {s : Shared} {σ : L2.St} {H : Hp} {Q : VK} {kx vx tg iter : Expr} {ifs : List Expr} {scope : Scope} {own : List (Str × Nat)} {pos pos' : Pos} {wi : TI} {g : TG} {tt : TT} {tk tv : TE} {use : Option (Value → Sem Unit)} {Qf : Value → Shared → Prop}
    (hu : X.A.units + 1 < cLine) (hc : X.calm = true) (hN : X.N.Nodup) (I : Inv X pins σ H s) (hi : PI X tg iter wi) (ok : BlkOk X.N X.env.scope scope own)
    (hg : ∀ (s : Shared) (H : Hp) (C : Addr) (cl : List (Str × Addr)) (fp : List Addr), PG (X.blk s H scope (compEnvC scope cl C X.env) fp) tg g) (ht : ∀ (s : Shared) (H : Hp) (C : Addr) (cl : List (Str × Addr)) (fp : List Addr), PTs (X.blk s H scope (compEnvC scope cl C X.env) fp) ifs tt)
    (hk : ∀ (s : Shared) (H : Hp) (C : Addr) (cl : List (Str × Addr)) (fp : List Addr), PE (X.blk s H scope (compEnvC scope cl C X.env) fp) kx tk)
    (he : ∀ (s : Shared) (H : Hp) (C : Addr) (cl : List (Str × Addr)) (fp : List Addr), PE (X.blk s H scope (compEnvC scope cl C X.env) fp) vx tv) (hs : ∀ x, foldedSetIterable iter X.env x = pure x)
    (h : tDcT wi g tt tk tv (own.map (·.2)) σ H Q)
    (hRR : ∀ D C s' m H', Inv X pins σ H' s' → Q (.ref D) H' → s'.heap.Ns C m → FpOk X pins H' C → compPost (model X.prog X.w) X.A X.xe use Qf (.ref D) C (.ok .next) s') :
    wpAny (model X.prog X.w) X.A (comprehension (.DictComp kx vx [⟨tg, iter, ifs, 0⟩] scope pos) scope X.env pos' newDict false (eval iter X.env) use) Qf X.xe s := by
  have hfree : ∀ y ∈ scope.names, y.2 = .free → ∃ c, X.env.cells.lookup y.1 = some c := fun y hy e => by
    rcases ok.free y hy e with k | k
    · exact I.ok.has _ (.inl k)
    · exact I.ok.has _ (.inr k)
  refine wpAny_comprehension_free (use := use) rfl hs (closure_ok hfree) ok.kind (fun y hy e => by rw [ok.uniq y hy, e])
    (thn (hi.run pins s σ H _ I h) fun xv s1 hx => thn hx fun itv s2 h2 => ?_)
  obtain ⟨it, fp, tn, J, H2, e, I2, T, st2, f2, q⟩ := h2
  subst e
  refine wpAny_newObj_type (newEnv_comp ?_)
  generalize hD : s2.heap.objs.size = D
  have hDn : H2 D = none := I2.hok.fresh (Nat.le_of_eq hD)
  obtain ⟨W, ⟨m0, w0⟩, turn⟩ := q D hDn
  -- the new list
  generalize hs3 : ({ s2 with heap := s2.heap.push { cls := .type "dict", data := .dict #[] } } : Shared) = s3
  have I3 : Inv X pins σ (upd H2 D (.dT [])) s3 := by
    rw [← hs3]
    refine I2.laid (t' := s2.toks) (fun b o e => Heap.get?_push_of_some _ e) (Nat.le_of_eq hD) ?_
    rw [← hD]
    exact dt_empty s2.heap I2.big
  have h3 : s3.heap = s2.heap.push { cls := .type "dict", data := .dict #[] } := by rw [← hs3]
  have sz : ∀ b ∈ fp, b < s2.heap.objs.size := fun b hb => by
    obtain ⟨o, e, _⟩ := T.obj _ _ st2 b hb
    exact Heap.lt_size e
  have f3 : ∀ b ∈ fp, FpOk X pins (upd H2 D (.dT [])) b ∧ b < s3.heap.objs.size := fun b hb => by
    have hlt := sz b hb
    refine ⟨⟨?_, (f2 b hb).2⟩, by rw [h3, Heap.size_push]; exact Nat.lt_succ_of_lt hlt⟩
    rw [upd_ne (by rw [← hD]; exact Nat.ne_of_lt hlt)]
    exact (f2 b hb).1
  have st3 : tn 0 s3.heap := T.keep _ _ _ st2 fun b _ o e => by rw [h3]; exact Heap.get?_push_of_some _ e
  have I4 := block_start I3 ok hN f3
  have pg := hg s3 (upd H2 D (.dT [])) s3.heap.objs.size (cellsFrom (s3.heap.objs.size + 1) scope.names (cloFrom X.env.cells scope.names [])) fp
  have pt := ht s3 (upd H2 D (.dT [])) s3.heap.objs.size (cellsFrom (s3.heap.objs.size + 1) scope.names (cloFrom X.env.cells scope.names [])) fp
  have pk := hk s3 (upd H2 D (.dT [])) s3.heap.objs.size (cellsFrom (s3.heap.objs.size + 1) scope.names (cloFrom X.env.cells scope.names [])) fp
  have pe := he s3 (upd H2 D (.dT [])) s3.heap.objs.size (cellsFrom (s3.heap.objs.size + 1) scope.names (cloFrom X.env.cells scope.names [])) fp
  show codeAny _ _ (.compStart (.DictComp kx vx [⟨tg, iter, ifs, 0⟩] scope pos) 0 (.ref it) (.ref D) (compEnvC scope (cellsFrom (s3.heap.objs.size + 1) scope.names (cloFrom X.env.cells scope.names [])) s3.heap.objs.size X.env)) (compPost (model X.prog X.w) X.A X.xe use Qf (.ref D) s3.heap.objs.size) { s3 with heap := pushCells (s3.heap.push { cls := .type "dict", data := .dict #[] }) scope.names }
  have nfp : ∀ b ∈ fp, (upd H2 D (.dT [])) b = none := fun b hb => (f3 b hb).1.1
  generalize hce : compEnvC scope (cellsFrom (s3.heap.objs.size + 1) scope.names (cloFrom X.env.cells scope.names [])) s3.heap.objs.size X.env = ce at I4 pg pt pk pe ⊢
  have cL : ce.locals = s3.heap.objs.size := by subst hce; rfl
  generalize hH3 : upd H2 D (.dT []) = H3 at I3 I4 pg pt pk pe w0 nfp f3
  generalize hs4 : ({ s3 with heap := pushCells (s3.heap.push { cls := .type "dict", data := .dict #[] }) scope.names } : Shared) = s4 at I4 ⊢
  have st4 : tn 0 s4.heap := T.keep _ _ _ st3 fun b _ o e => by rw [← hs4]; exact pushCells_keeps _ _ _ _ (Heap.get?_push_of_some _ e)
  have stat : ∀ {σ' : L2.St} {H' : Hp} {s' : Shared}, Inv (X.blk s3 H3 scope ce fp) [] σ' H' s' → (∀ b ∈ fp, H' b = none) → ∀ b ∈ fp, FpOk (X.blk s3 H3 scope ce fp) [] H' b := fun {σ' H' s'} I' hn b hb =>
    ⟨hn b hb, (I'.ok.exf b hb).1, I'.ok.exfs b hb, .inl hb, fun x c e => (I'.ok.exf b hb).2 x c e, fun p hp => absurd (show p ∈ ([] : List (Addr × Obj)) ++ [] from hp) (by simp)⟩
  have loop : codeAny (model X.prog X.w) X.A (.compLoop (.DictComp kx vx [⟨tg, iter, ifs, 0⟩] scope pos) 0 (.ref it) (.ref D) ce) (compPost (model X.prog X.w) X.A X.xe use Qf (.ref D) s3.heap.objs.size) s4 := by
    refine compLoop_anyD (fun n s' => ∃ i H', Inv (X.blk s3 H3 scope ce fp) [] (wipe σ (own.map (·.2))) H' s' ∧ tn i s'.heap ∧ (∀ b ∈ fp, H' b = none) ∧ W i n H') ?_ m0 ⟨0, H3, I4, st4, nfp, w0⟩
    rintro n s5 ⟨i, H5, I5, st5, n5, w5⟩
    rcases turn i n H5 w5 with ⟨stop, qq⟩ | ⟨go, Nx, hNx, step⟩
    · have td := T.done (X.blk s3 H3 scope ce fp) rfl rfl rfl hc i [] s5 _ H5 (fun _ _ => False) I5 (stat I5 n5) st5 stop
      refine thnF td fun r s6 ⟨hr, I6⟩ => ?_
      subst hr
      -- back in the def's context
      have I7 : Inv X pins σ H5 s6 := I3.call' (ch := fp) I6.os I6.base I6.hok I6.bare fun b hb => ⟨(f3 b hb).1.2.2.2.1, (f3 b hb).1.2.1, (f3 b hb).1.2.2.2.2.1, (f3 b hb).1.2.2.2.2.2⟩
      have nC : H5 s3.heap.objs.size = none := by
        have z : H5 ce.locals = none := I6.free
        rw [cL] at z
        exact z
      obtain ⟨m, hn, _⟩ := I6.loc
      have hn : s6.heap.Ns ce.locals m := hn
      rw [cL] at hn
      exact hRR D s3.heap.objs.size s6 m H5 I7 qq hn (I3.fpOk (Nat.le_refl _) nC)
    · have ti := T.item (X.blk s3 H3 scope ce fp) rfl rfl rfl hc i [] s5 _ H5 (fun _ _ => False) I5 (stat I5 n5) st5 go
      refine thnF ti fun r s6 ⟨u, hr, h6⟩ => ?_
      subst hr
      refine thnF h6 fun _ s7 ⟨x, H7, I7, r7, y7, st7, n7⟩ => ?_
      have I7' := I7.pinned (stat I7 n7) (T.obj _ _ st7)
      refine thnF (pg.run _ s7 _ H7 x u _ I7' r7 (step x H7 y7)) fun _ s8 ⟨σ8, H8, I8, hw8, q8⟩ => ?_
      refine thnF (pt.run _ s8 σ8 H8 _ I8 q8) fun b s9 ⟨H9, I9, q9⟩ => ?_
      -- the turn's end
      have fin : ∀ {s' : Shared} {H' : Hp}, Inv (X.blk s3 H3 scope ce fp) ([] ++ pinsAt fp s7.heap) σ8 H' s' → Nx H' → ∃ m, m < n ∧ ∃ i H', Inv (X.blk s3 H3 scope ce fp) [] (wipe σ (own.map (·.2))) H' s' ∧ tn i s'.heap ∧ (∀ b ∈ fp, H' b = none) ∧ W i m H' := fun {s' H'} I' nx => by
        obtain ⟨m', hm, w'⟩ := hNx H' nx
        have pin' : ∀ b ∈ fp, ∀ o, s7.heap.get? b = some o → s'.heap.get? b = some o ∧ H' b = none := fun b hb o e =>
          let z := I'.pin (b, o) (List.mem_append_right _ (List.mem_append_right _ (mem_pinsAt hb e)))
          ⟨z.1, z.2.1⟩
        have hl : (wipe σ (own.map (·.2))).length = σ8.length := by rw [← hw8, wipe_length]
        refine ⟨m', hm, i + 1, H', (I'.unpinned (pins := [])).weak hl (fun j v e => ?_), T.keep _ _ _ st7 fun b hb o e => (pin' b hb o e).1, fun b hb => ?_, w'⟩
        · rw [← hw8] at e
          exact (wipe_some e).1
        · obtain ⟨o, e, _⟩ := T.obj _ _ st7 b hb
          exact (pin' b hb o e).2
      cases b with
      | false =>
        simp only [Bool.false_eq_true, if_false] at q9 ⊢
        exact fin I9 q9
      | true =>
        simp only [if_true] at q9 ⊢
        refine thnF (pk.run _ s9 σ8 H9 _ I9 q9) fun z s10 ⟨yk, H10, I10, r10, q10⟩ => ?_
        refine thnF (pe.run _ s10 σ8 H10 _ I10 q10) fun z2 s11 ⟨yv, H11, I11, r11, kvs, k, b, ek, hb11, hD11, hz11, nx⟩ => ?_
        subst ek
        exact dictSetT (X := X.blk s3 H3 scope ce fp) hu I11 hD11 hz11 hb11 r10 r11 fun s12 I12 => fin I12 nx
  exact codeAny_compStart_dict loop (T.self X.A 0 _ _ _ st4 loop)
/-- as a value -/
theorem pe_dcT {kx vx tg iter : Expr} {ifs : List Expr} {scope : Scope} {own : List (Str × Nat)} {pos : Pos} {wi : TI} {g : TG} {tt : TT} {tk tv : TE} (hu : X.A.units + 1 < cLine) (hc : X.calm = true) (hN : X.N.Nodup) (hi : PI X tg iter wi) (ok : BlkOk X.N X.env.scope scope own)
    (hg : ∀ (s : Shared) (H : Hp) (C : Addr) (cl : List (Str × Addr)) (fp : List Addr), PG (X.blk s H scope (compEnvC scope cl C X.env) fp) tg g) (ht : ∀ (s : Shared) (H : Hp) (C : Addr) (cl : List (Str × Addr)) (fp : List Addr), PTs (X.blk s H scope (compEnvC scope cl C X.env) fp) ifs tt)
    (hk : ∀ (s : Shared) (H : Hp) (C : Addr) (cl : List (Str × Addr)) (fp : List Addr), PE (X.blk s H scope (compEnvC scope cl C X.env) fp) kx tk)
    (he : ∀ (s : Shared) (H : Hp) (C : Addr) (cl : List (Str × Addr)) (fp : List Addr), PE (X.blk s H scope (compEnvC scope cl C X.env) fp) vx tv) (hs : ∀ x, foldedSetIterable iter X.env x = pure x := by intro _; rfl) :
    PE X (.DictComp kx vx [⟨tg, iter, ifs, 0⟩] scope pos) (tDcT wi g tt tk tv (own.map (·.2))) := by
  refine ⟨fun pins s σ H Q I h => ?_⟩
  rw [arm_eval_DictComp]
  refine dcT_core hu hc hN I hi ok hg ht hk he hs h fun D C s' m H' I' q hn f => ⟨m, hn, fun h'' sb => ?_⟩
  obtain ⟨f0, f1, f2, f3, f4, f5⟩ := f
  exact ⟨.ref D, H', I'.turned (t' := s'.toks) (fun b o hb e => (sb.2 b hb).trans e) f0 f1 f3 f4 f5, rfl, q⟩
end
end FlDc
set_option autoImplicit false
set_option Elab.async false
set_option linter.all false
set_option maxRecDepth 100000
set_option maxHeartbeats 2000000
namespace Fl
open PySem PySem.Spec PyProof.Rows L2
section
variable {K : PySem.W.Frag} {env e0 e1 e2 e3 : Env} {x y z d : D} {ta tb te : TE} {tr : TA}
/-- a new tuple -/
def EF (K : PySem.W.Frag) (te : TE) (env env' : Env) (ds : List D) : Prop := ∀ (G : Fr) (gh : List Gh) (σ : L2.St) (H : Hp) (own : Own) (Q : VK), G.K = K → EnvIs G gh σ H own env →
  (∀ p vs H', EnvIs G gh σ H' own env' → H' p = some (.tup vs) → IsAll K (avd G own) H' vs ds → Q (.ref p) H') → te σ H Q
theorem ef_slT {ds : List D} {l h : TO} {lo hi : Option Int} (hx : EE K te env e1 (.tuple ds)) (hl : EO K l e1 e2 lo) (hh : EO K h e2 e3 hi) (hw : ¬ (HT.sIx ds.length 0 lo = 0 ∧ HT.sIx ds.length ds.length hi = ds.length)) : EF K (tSl (rSlT K) te l h) env e3 (cutD ds lo hi) := fun G gh σ H own Q hK I q => by
  refine hx G gh σ H own _ hK I fun v H1 I1 i1 => ?_
  refine hl G _ σ H1 own _ hK (I1.tree (hK ▸ i1)) fun H2 I2 => ?_
  refine hh G _ σ H2 own _ hK I2 fun H3 I3 => ?_
  obtain ⟨p, xs, e, h3, h4⟩ := id (hK ▸ I3.hd : Is K (avd G own) H3 v (.tuple ds)).tup_inv
  subst e
  have h5 := cutV_is (lo := lo) (hi := hi) h4
  refine ⟨p, xs, rfl, h3, by rw [h4.len]; exact hw, fun l hl => ?_⟩
  have J := I3.tl.newT hl (hK ▸ h5)
  exact q _ _ _ J.tl upd_same (IsAll.move (fun a u h1 h2 => ⟨(rd_new hl h2).1, h1⟩) _ _ h5)
def keysV (b : Bool) (ks : List (List Key)) : List (List Key × V) := ks.foldl (fun acc k => putK acc k (.bl b)) []
theorem putK_new {κ : Type} [DecidableEq κ] {acc : List (κ × V)} {k : κ} {v : V} (h : k ∉ acc.map (·.1)) : putK acc k v = acc ++ [(k, v)] := by
  unfold putK
  rw [if_neg]
  intro z
  obtain ⟨p, hp, e⟩ := List.any_eq_true.mp z
  exact h (List.mem_map.mpr ⟨p, hp, of_decide_eq_true e⟩)
theorem keysV_nodup {b : Bool} : ∀ (ks : List (List Key)) (acc : List (List Key × V)), (acc.map (·.1) ++ ks).Nodup → ks.foldl (fun acc k => putK acc k (.bl b)) acc = acc ++ ks.map fun k => (k, .bl b)
  | [], acc, _ => by simp
  | k :: ks, acc, h => by
    rw [List.foldl_cons, putK_new (by
      intro z
      rw [List.nodup_append] at h
      exact h.2.2 _ z _ List.mem_cons_self rfl), keysV_nodup ks]
    · simp
    · simpa using h
theorem keysV_len {b : Bool} {ks : List (List Key)} (h : ks.Nodup) : (keysV b ks).length = ks.length := by
  unfold keysV
  rw [keysV_nodup ks [] (by simpa using h)]
  simp
theorem length_keysV {b : Bool} (ks : List (List Key)) : (keysV b ks).length ≤ ks.length := by
  have : ∀ (ks : List (List Key)) (acc : List (List Key × V)), (ks.foldl (fun acc k => putK acc k (.bl b)) acc).length ≤ acc.length + ks.length := by
    intro ks
    induction ks with
    | nil => intro acc; simp
    | cons k ks ih =>
      intro acc
      rw [List.foldl_cons, List.length_cons]
      have h1 := ih (putK acc k (.bl b))
      have h2 := length_putK acc k (.bl b)
      omega
  have h := this ks []
  rw [List.length_nil, Nat.zero_add] at h
  exact h
theorem keysV_snoc {b : Bool} {ks : List (List Key)} {k : List Key} : keysV b (ks ++ [k]) = putK (keysV b ks) k (.bl b) := by
  unfold keysV
  rw [List.foldl_append]; rfl
/-- keys' trees are keys' values -/
theorem keys_is {A : Addr → Prop} {H : Hp} : ∀ {k : List Key} {vs : List V}, IsAll K A H vs (k.map kD) → vs = k.map kV
  | [], _, h => by cases h; rfl
  | k :: ks, _, h => by
    cases h with
    | cons h1 h2 => rw [keys_is h2, kD_is h1]; rfl
/-- len({key: b for x in tuple}) -/
theorem ee_lenDc {wi : TI} {j : Nat} {ds : List D} {ks : List (List Key)} {b : Bool} {tk : TE} (h : EI K wi env e0 ds) (he : e0[j]? = some .any) (hl : ks.length = ds.length) (hz : ds.length ≤ 1000000)
    (hs : ∀ (i : Nat) (d : D) (k : List Key), ds[i]? = some d → ks[i]? = some k → EF K tk (e0.set j (.d d)) (e0.set j (.d d)) (k.map kD)) :
    EE K (tCB rLenT (tCons (FlDc.tDcT wi (gName j) tYes tk (tC (.bl b)) [j]) tNil)) env e0 (.int (keysV b ks).length) := fun G gh σ H own Q hK I q => by
  have hraw : ∀ a o, Gh.r a o ∈ gh → G.Ar a := fun a o hm => (I.gs _ hm).2
  refine h G gh σ H own _ hK I fun J gi H1 hJ hgi I1 Dl hD => ?_
  have n0 := I1.new_out hD
  refine ⟨fun i n H' => i + n = ds.length ∧ EnvIs (G.pin Dl) (gi ++ (Gh.r Dl (.dT (keysV b (ks.take i))) :: gh)) σ H' own e0, ⟨ds.length, Nat.zero_add _, ?_⟩, ?_⟩
  · have J1 := I1.new (o := .dT []) hD
    refine ⟨J1.len, fun i s e => (J1.slot i s e).mv rfl rfl rfl (fun a u h1 h2 => ⟨h2, h1⟩) (fun _ _ => rfl), J1.out, J1.inj, J1.a0, J1.fr, J1.keep, fun g hg => ?_⟩
    rcases List.mem_append.mp hg with hg | hg
    · have z := J1.gs g (List.mem_append_left _ hg)
      cases g with
      | t v d => exact z
      | r a o => exact ⟨z.1, Or.inl z.2⟩
    · rcases List.mem_cons.mp hg with rfl | hg
      · exact ⟨upd_same, Or.inr rfl⟩
      · have z := J1.gs g (List.mem_append_right _ hg)
        cases g with
        | t v d => exact z
        | r a o => exact ⟨z.1, Or.inl z.2⟩
  rintro i n H2 ⟨hin, I2⟩
  have hown := I2.slot j _ he
  by_cases hi : i < ds.length
  · refine .inr ⟨hJ.go (G.pin Dl) _ σ H2 own _ i hK I2 hi, fun H' => EnvIs (G.pin Dl) (gi ++ (Gh.r Dl (.dT (keysV b (ks.take (i + 1)))) :: gh)) σ H' own e0, fun H' hh => ⟨n - 1, by omega, by omega, hh⟩, fun v H4 hy => ?_⟩
    have hd := List.getElem?_eq_getElem hi
    obtain ⟨I5, i5⟩ := hJ.yld (G.pin Dl) _ σ H2 own _ i _ v H4 hK I2 hd hy
    have hki : i < ks.length := by rw [hl]; exact hi
    have hk := List.getElem?_eq_getElem hki
    have I6 : EnvIs (G.pin Dl) _ (wipe σ [j]) H4 own e0 := I5.reslot (vs := [j]) (wipe_length _ _) rfl (fun j hj => wipe_at hj) (fun j hj => rfl) fun j' hj hl => by
      have e : j' = j := by simpa using hj
      subst e
      exact ⟨he, hown⟩
    have I7 := I6.set he rfl (hK.symm ▸ i5 : Is (G.pin Dl).K _ _ _ _)
    have ho7 : drop own j = own := by
      funext j'
      by_cases e : j' = j
      · subst e; rw [drop_self]; exact hown.1.symm
      · exact drop_ne own e
    rw [ho7] at I7
    have hw : wipe ((wipe σ [j]).set j (some v)) [j] = wipe σ [j] := by
      have g1 : wipe ((wipe σ [j]).set j (some v)) [j] = wipe (wipe σ [j]) [j] := wipe_eq List.length_set fun j' hj => List.getElem?_set_ne fun z => hj (by rw [z]; simp)
      exact g1.trans (wipe_eq (wipe_length _ _) fun j hj => wipe_at hj)
    refine ⟨hw, ?_⟩
    unfold tYes
    dsimp only
    rw [if_pos rfl]
    refine hs i _ _ hd hk (G.pin Dl) _ _ H4 own _ hK I7 fun p vs H8 I8 hp i8 => ?_
    have hraw9 : GhOk (G.pin Dl) own H8 (.r Dl (.dT (keysV b (ks.take i)))) := I8.gs _ (List.mem_append_right _ List.mem_cons_self)
    rw [keys_is i8] at hp
    have hzz : (keysV b (ks.take i)).length ≤ 1000000 := by
      have := length_keysV (b := b) (ks.take i)
      have h2 := List.length_take_le i ks
      omega
    refine ⟨_, ks[i], p, rfl, hp, hraw9.1, szLt hzz, ?_⟩
    show EnvIs _ _ _ (upd H8 Dl (.dT (putK (keysV b (ks.take i)) ks[i] (.bl b)))) _ _
    have etk : ks.take (i + 1) = ks.take i ++ [ks[i]] := by
      rw [List.take_add_one, hk]; rfl
    rw [etk, keysV_snoc]
    have hr : ∀ a u, ¬ avd (G.pin Dl) own a → Rd H8 a u → Rd (upd H8 Dl (.dT (putK (keysV b (ks.take i)) ks[i] (.bl b)))) a u ∧ ¬ avd (G.pin Dl) own a := fun a u h1 h2 => ⟨rd_ne (fun z => h1 (Or.inl (Or.inr z))) h2, h1⟩
    have J9 : EnvIs (G.pin Dl) (gi ++ (Gh.r Dl (.dT (keysV b (ks.take i))) :: gh)) σ H8 own e0 := by
      refine I8.reslot (vs := [j]) (by rw [List.length_set, wipe_length]) (by rw [List.length_set]) (fun j' hj => ?_) (fun j' hj => ?_) fun j' hj hl => ?_
      · have e : j ≠ j' := fun z => hj (by rw [z]; simp)
        rw [List.getElem?_set_ne e, wipe_at hj]
      · have e : j ≠ j' := fun z => hj (by rw [z]; simp)
        rw [List.getElem?_set_ne e]
      · have e : j' = j := by simpa using hj
        subst e
        exact ⟨he, hown⟩
    refine ⟨J9.len, fun j s e => (J9.slot j s e).mv rfl rfl rfl hr fun q hq => upd_ne fun z => (J9.fr j q hq).1 (Or.inr z), J9.out, J9.inj, fun a ha => ?_, J9.fr, fun a o ho hn => ?_, fun g hg => ?_⟩
    · by_cases e : a = Dl
      · rw [e, upd_same]; simp
      · rw [upd_ne e]; exact J9.a0 a ha
    · have e : a ≠ Dl := fun z => by
        have ho' : G.B a = some o := ho
        rw [z, n0.2.2.1] at ho'
        cases ho'
      rw [upd_ne e]
      exact J9.keep a o ho hn
    · rcases List.mem_append.mp hg with hg | hg
      · have z := J9.gs g (List.mem_append_left _ hg)
        cases g with
        | t v d => exact Is.move hr _ _ z
        | r a o => exact absurd hg (hgi a o)
      · rcases List.mem_cons.mp hg with rfl | hg
        · exact ⟨upd_same, Or.inr rfl⟩
        · have z := J9.gs g (List.mem_append_right _ (List.mem_cons_of_mem _ hg))
          cases g with
          | t v d => exact Is.move hr _ _ z
          | r a o =>
            refine ⟨?_, z.2⟩
            have e : a ≠ Dl := fun z2 => n0.1 (G.har _ (z2 ▸ hraw a o hg))
            rw [upd_ne e]
            exact z.1
  · have e : i = ds.length := by omega
    subst e
    refine .inl ⟨hJ.stop (G.pin Dl) _ σ H2 own _ hK I2, ?_⟩
    have hraw9 : GhOk (G.pin Dl) own H2 (.r Dl (.dT (keysV b (ks.take ds.length)))) := I2.gs _ (List.mem_append_right _ List.mem_cons_self)
    rw [← hl, List.take_length] at hraw9
    have J := raw_less (gs := gi ++ [Gh.r Dl (.dT (keysV b (ks.take ds.length)))]) (gh := gh) (by simpa using I2) hraw
    exact ⟨Dl, _, rfl, hraw9.1, q _ _ J.unav (.int _)⟩
end
end Fl
set_option autoImplicit false
set_option Elab.async false
set_option linter.all false
set_option maxRecDepth 100000
set_option maxHeartbeats 2000000
namespace FlIdx
open PySem PySem.Spec PyProof.Rows L2
section
variable {X : Cx}
/-- t.index(x): the first place of an equal one in a tuple -/
def rIndexT (K : PySem.W.Frag) : V → List V → Hp → VK → Prop := fun x xs H Q => ∃ (a : Addr) (y : V) (d : PyData) (ds : List PyData) (j : Nat) (z : PyData), x = V.ref a ∧ xs = [y] ∧ Dp K H (V.ref a) (.tuple ds) ∧ Dp K H y d ∧
  SeqAt.shaped (.tuple ds) = true ∧ SeqAt.shaped d = true ∧ ds[j]? = some z ∧ PyData.eqv z d = true ∧ (∀ (m : Nat) (z' : PyData), m < j → ds[m]? = some z' → PyData.eqv z' d = false) ∧ Q (.int (j : Nat)) H
theorem mt_indexT (hu : X.A.units + 65 < cLine) : MtR X "tuple.index" (rIndexT X.K) := by
  intro pins s σ H x xs v us Q I rx rxs h
  obtain ⟨a, y, d, ds, j, z, rfl, rfl, hl, hy, sl, sd, hz, hzj, hno, q⟩ := h
  cases rx
  cases rxs with
  | cons ry rt =>
    rename_i uy ut
    cases rt
    obtain ⟨bs, r1⟩ := Dp.reads I d y uy hy ry
    have hxs : PyData.canLayAll0 ds = true := SeqAt.canLay_of_shaped sl
    have hroom : X.A.units + 1 + min (PyData.depthAll ds) d.depth < cLine := room_in_shaped sd hu
    cases hl with
    | tup hs ha =>
      obtain ⟨its, rv, ⟨⟨cls, dd, data, sls⟩, ho, hc, n, hdt⟩, hlen⟩ := I.tuple hs
      simp only at hc hdt
      subst hc hdt
      obtain ⟨as, h4⟩ := Dp.readsAll I ds _ its ha rv
      have hn : its.length = ds.length := SeqAt.ReadsAll.length ds its as h4
      have hmap : its.map (SeqAt.readOf s.heap) = ds := SeqAt.readsAll_map ds its as hxs h4
      obtain ⟨hjd, _⟩ := List.getElem?_eq_some_iff.mp hz
      have hjl : j < its.length := by omega
      have hj : j < its.toArray.size := by simpa using hjl
      have at_ : ∀ (m : Nat) (hm : m < its.toArray.size) (z' : PyData), ds[m]? = some z' → SeqAt.readOf s.heap its.toArray[m] = z' := by
        intro m hm z' hz'
        have hml : m < its.length := by simpa using hm
        rw [← hmap, List.getElem?_map, List.getElem?_eq_getElem hml] at hz'
        have e1 : SeqAt.readOf s.heap its[m] = z' := Option.some.inj (show some (SeqAt.readOf s.heap its[m]) = some z' from hz')
        simpa using e1
      have hEq := SeqAt.items_eqAt (A := X.A) (vs := its.toArray) (show ReadsAll s.heap its.toArray.toList ds as from h4) r1 hxs (SeqAt.canLay_of_shaped sd) hroom
      refine call_meets PySem.F.slot_tuple_index ⟨_, ho, rfl⟩ PySem.F.entry_tuple_index (PySem.F.args_tuple_index_2 _ _)
        (SeqAt.tuple_index2_found a its.toArray n dd sls uy (fun m => if hm : m < its.toArray.size then PyData.eqv (SeqAt.readOf s.heap its.toArray[m]) d else false) j hj (Nat.zero_le _) hj ?_ ?_) ⟨ho, fun m hm => ?_, ?_⟩
      · rw [dif_pos hj, at_ j hj z hz]
        exact hzj
      · intro m hm _ hmj
        have hmd : m < ds.length := by omega
        have hz' : ds[m]? = some ds[m] := List.getElem?_eq_getElem hmd
        rw [dif_pos hm, at_ m hm _ hz']
        exact hno m _ hmj hz'
      · rw [dif_pos hm]
        exact hEq _ (Array.getElem_mem hm)
      · exact ⟨.int (j : Nat), H, I.tok _, ⟨_, rfl⟩, q⟩
end
end FlIdx
set_option autoImplicit false
set_option Elab.async false
set_option linter.all false
set_option maxRecDepth 100000
set_option maxHeartbeats 2000000
namespace Fl
open PySem PySem.Spec PyProof.Rows L2
section
variable {K : PySem.W.Frag} {env e0 e1 e2 e3 : Env} {x y z d : D} {ta tb te : TE} {tr : TA} {tt : TT} {t u : TS} {a b : Bool} {out : Out}

/-! ### loops by an invariant that is any property of the slots -/
theorem chain {α : Type} {P : Nat → α → Prop} {R : Nat → α → α → Prop} (n : Nat) {a0 : α} (h0 : P 0 a0) (hs : ∀ i a, i < n → P i a → ∃ a', R i a a' ∧ P (i + 1) a') : ∃ f : Nat → α, f 0 = a0 ∧ (∀ i, i ≤ n → P i (f i)) ∧ ∀ i, i < n → R i (f i) (f (i + 1)) := by
  induction n with
  | zero => exact ⟨fun _ => a0, rfl, fun i hi => by rw [Nat.le_zero.mp hi]; exact h0, fun i hi => absurd hi (Nat.not_lt_zero _)⟩
  | succ n ih =>
    obtain ⟨f, f0, f1, f2⟩ := ih fun i a hi => hs i a (by omega)
    obtain ⟨a', r, p⟩ := hs n (f n) (by omega) (f1 n (Nat.le_refl _))
    refine ⟨fun i => if i ≤ n then f i else a', ?_, fun i hi => ?_, fun i hi => ?_⟩
    · show (if 0 ≤ n then f 0 else a') = a0
      rw [if_pos (Nat.zero_le _), f0]
    · by_cases e : i ≤ n
      · show P i (if i ≤ n then f i else a')
        rw [if_pos e]; exact f1 i e
      · have e2 : i = n + 1 := by omega
        subst e2
        show P (n + 1) (if n + 1 ≤ n then f (n + 1) else a')
        rw [if_neg e]; exact p
    · show R i (if i ≤ n then f i else a') (if i + 1 ≤ n then f (i + 1) else a')
      rw [if_pos (by omega : i ≤ n)]
      by_cases e : i + 1 ≤ n
      · rw [if_pos e]; exact f2 i (by omega)
      · have e2 : i = n := by omega
        subst e2
        rw [if_neg e]; exact r
theorem ss_forP {wi : TI} {g : TG} {ds : List D} (h : EI K wi env e0 ds) (P : Nat → Env → Prop) (h0 : P 0 e0) (hs : ∀ i d e, ds[i]? = some d → P i e → ∃ ts e1 e2, GG K g d ts e e1 ∧ LB K t e1 e2 ∧ P (i + 1) e2) : ∃ e, P ds.length e ∧ SS K (tFor wi g t) env (.next e) := by
  obtain ⟨f, f0, f1, f2⟩ := chain (P := P) (R := fun i e e' => ∀ d, ds[i]? = some d → ∃ ts e1, GG K g d ts e e1 ∧ LB K t e1 e') ds.length h0 fun i e hi hp => by
    obtain ⟨ts, e1, e2, h1, h2, h3⟩ := hs i _ e (List.getElem?_eq_getElem hi) hp
    refine ⟨e2, fun d hd => ?_, h3⟩
    rw [List.getElem?_eq_getElem hi] at hd
    cases hd
    exact ⟨ts, e1, h1, h2⟩
  exact ⟨f ds.length, f1 _ (Nat.le_refl _), ss_for h f (f0 ▸ Sub.refl) fun i d hd => f2 i (List.getElem?_eq_some_iff.mp hd).1 d hd⟩
theorem ss_whileP {tc : TT} (P : Nat → Env → Prop) (n : Nat) (h0 : P 0 env) (hs : ∀ i e, i < n → P i e → ∃ e1 e2, ET K tc e e1 true ∧ LB K t e1 e2 ∧ P (i + 1) e2) (he : ∀ e, P n e → ∃ e1, ET K tc e e1 false) : ∃ e e1, P n e ∧ ET K tc e e1 false ∧ SS K (tWhile tc t) env (.next e1) := by
  obtain ⟨f, f0, f1, f2⟩ := chain (P := P) (R := fun i e e' => ∃ e1, ET K tc e e1 true ∧ LB K t e1 e') n h0 fun i e hi hp => by
    obtain ⟨e1, e2, h1, h2, h3⟩ := hs i e hi hp
    exact ⟨e2, ⟨e1, h1, h2⟩, h3⟩
  obtain ⟨e1, h1⟩ := he _ (f1 n (Nat.le_refl _))
  exact ⟨f n, e1, f1 _ (Nat.le_refl _), h1, ss_while f n (f0 ▸ Sub.refl) (fun i hi => f2 i hi) h1⟩
/-- a comprehension by such an invariant -/
def Pure (e : Env) (vs : List Nat) : Prop := ∀ j s, j ∈ vs → e[j]? = some s → (∃ d, s = .d d) ∨ s = .any
theorem en_lcP {wi : TI} {g : TG} {vs : List Nat} {ds : List D} (h : EI K wi env e0 ds) (P : Nat → Env → List D → Prop) (h0 : P 0 e0 []) (hz : ds.length ≤ 1000000) (hv : ∀ j, j ∈ vs → j < e0.length → e0[j]? = some .any)
    (hs : ∀ i d e acc, ds[i]? = some d → P i e acc → acc.length = i → ∃ ts e1 e2 e3 y, GG K g d ts e e1 ∧ (∀ j, j ∈ ts → j ∈ vs) ∧ (∀ j, j ∈ ts → ∃ d, e1[j]? = some (.d d)) ∧ ET K tt e1 e2 true ∧ EE K te e2 e3 y ∧ Pure e3 vs ∧ P (i + 1) (wipeE e3 vs) (acc ++ [y])) :
    ∃ e ys, ys.length = ds.length ∧ P ds.length e ys ∧ EN K (tLc wi g tt te vs) env e (.lst ys) := by
  obtain ⟨f, f0, f1, f2⟩ := chain (α := Env × List D) (P := fun i p => P i p.1 p.2 ∧ p.2.length = i ∧ (∀ j, j ∈ vs → j < p.1.length → p.1[j]? = some .any))
    (R := fun i p p' => ∀ d, ds[i]? = some d → ∃ ts e1 e2 e3 y, GG K g d ts p.1 e1 ∧ (∀ j, j ∈ ts → j ∈ vs) ∧ (∀ j, j ∈ ts → ∃ d, e1[j]? = some (.d d)) ∧ ET K tt e1 e2 true ∧ EE K te e2 e3 y ∧ Pure e3 vs ∧ p'.1 = wipeE e3 vs ∧ p'.2 = p.2 ++ [y]) ds.length (a0 := (e0, [])) ⟨h0, rfl, hv⟩ fun i p hi hp => by
    obtain ⟨ts, e1, e2, e3, y, h1, h2, h3, h4, h5, h6, h7⟩ := hs i _ p.1 p.2 (List.getElem?_eq_getElem hi) hp.1 hp.2.1
    refine ⟨(wipeE e3 vs, p.2 ++ [y]), fun d hd => ?_, h7, by simp [hp.2.1], fun j hj hl => wipeE_in hj (by rw [wipeE_length] at hl; exact hl)⟩
    rw [List.getElem?_eq_getElem hi] at hd
    cases hd
    exact ⟨ts, e1, e2, e3, y, h1, h2, h3, h4, h5, h6, rfl, rfl⟩
  refine ⟨(f ds.length).1, (f ds.length).2, (f1 _ (Nat.le_refl _)).2.1, (f1 _ (Nat.le_refl _)).1, ?_⟩
  -- behind the last turn nothing is asked of the sequence: it may stay
  have key := en_lc (tt := tt) (te := te) (g := g) (vs := vs) h (fun i => if i ≤ ds.length then (f i).1 else (f ds.length).1) (fun i => if i ≤ ds.length then (f i).2 else (f ds.length).2) (by simp [f0]) (by simp [f0]) (fun i hi => by
    simp only [if_pos hi]
    rw [(f1 i hi).2.1]; omega) (fun i j hj hl => by
    by_cases hi : i ≤ ds.length
    · rw [if_pos hi] at hl ⊢
      exact (f1 i hi).2.2 j hj hl
    · rw [if_neg hi] at hl ⊢
      exact (f1 _ (Nat.le_refl _)).2.2 j hj hl) (fun i d hd => by
    have hi := (List.getElem?_eq_some_iff.mp hd).1
    obtain ⟨ts, e1, e2, e3, y, h1, h2, h3, h4, h5, h6, h7, h8⟩ := f2 i hi d hd
    simp only [if_pos (Nat.le_of_lt hi), if_pos (Nat.succ_le_of_lt hi)]
    exact ⟨ts, e1, e2, true, h1, h2, h3, h4, fun _ => ⟨e3, y, h5, h6, h7, h8⟩, fun z => nomatch z⟩)
  rw [if_pos (Nat.le_refl _), if_pos (Nat.le_refl _)] at key
  exact key
/-- .. that changes no slot: the turns' trees by f -/
theorem en_lcS {wi : TI} {g : TG} {vs : List Nat} {ds ys : List D} (h : EI K wi env e0 ds) (hl : ys.length = ds.length) (hz : ds.length ≤ 1000000) (hv : ∀ j, j ∈ vs → j < e0.length → e0[j]? = some .any)
    (hs : ∀ (i : Nat) (d y : D), ds[i]? = some d → ys[i]? = some y → ∃ ts e1, GG K g d ts e0 e1 ∧ (∀ j, j ∈ ts → j ∈ vs) ∧ (∀ j, j ∈ ts → ∃ d, e1[j]? = some (.d d)) ∧ ET K tt e1 e1 true ∧ EE K te e1 e1 y ∧ Pure e1 vs ∧ wipeE e1 vs = e0) :
    EN K (tLc wi g tt te vs) env e0 (.lst ys) := by
  obtain ⟨e, ys', h1, ⟨rfl, h2⟩, h3⟩ := en_lcP (tt := tt) (te := te) (g := g) h (fun i e acc => e = e0 ∧ acc = ys.take i) ⟨rfl, by simp⟩ hz hv fun i d e acc hd ⟨he, ha⟩ hi => by
    have hly : i < ys.length := by rw [hl]; exact (List.getElem?_eq_some_iff.mp hd).1
    have hy := List.getElem?_eq_getElem hly
    subst he
    obtain ⟨ts, e1, g1, g2, g3, g4, g5, g6, g7⟩ := hs i d _ hd hy
    refine ⟨ts, e1, e1, e1, _, g1, g2, g3, g4, g5, g6, g7, ?_⟩
    rw [ha, List.take_add_one, hy]; rfl
  rw [← hl, List.take_length] at h2
  rw [← h2]; exact h3

/-! ### several values at once, new objects among them -/
inductive Ar where
  | t (d : D)
  | n (c : Ct)
def Ar.s : Ar → S
  | .t d => .d d
  | .n c => .o false c
/-- a new object's content beside the slots -/
def ctGh (p : Addr) : HO → Ct → List Gh
  | .lst vs, .lst ds => (vs.zip ds).map (fun q => Gh.t q.1 q.2) ++ [.r p (.lst vs)]
  | .dK kvs, .dk kds => (kvs.zip kds).map (fun q => Gh.t q.1.2 q.2.2) ++ [.r p (.dK kvs)]
  | ho, _ => [.r p ho]
def CtSh : HO → Ct → Prop
  | .lst vs, .lst ds => vs.length = ds.length
  | .dK kvs, .dk kds => kvs.map (·.1) = kds.map (·.1)
  | _, _ => False
theorem kv_sh {κ : Type} {A : Addr → Prop} {H : Hp} : ∀ {vs : List (κ × V)} {ds : List (κ × D)}, KvIs K A H vs ds → vs.map (·.1) = ds.map (·.1)
  | _, _, .nil => rfl
  | _, _, .cons h1 h2 => by rw [List.map_cons, List.map_cons, kv_sh h2]
theorem kv_gh {G : Fr} {gh : List Gh} {σ : L2.St} {H : Hp} {own : Own} {env : Env} {κ : Type} : ∀ {vs : List (κ × V)} {ds : List (κ × D)}, vs.map (·.1) = ds.map (·.1) → EnvIs G ((vs.zip ds).map (fun q => Gh.t q.1.2 q.2.2) ++ gh) σ H own env → KvIs G.K (avd G own) H vs ds
  | [], [], _, _ => .nil
  | [], _ :: _, h, _ => by cases h
  | _ :: _, [], h, _ => by cases h
  | (k, v) :: vs, (k', d) :: ds, h, I => by
    rw [List.map_cons, List.map_cons] at h
    injection h with h1 h2
    cases h1
    exact .cons (I.gs (.t v d) List.mem_cons_self) (kv_gh h2 I.tl)
theorem gh_kv {G : Fr} {gh : List Gh} {σ : L2.St} {H : Hp} {own : Own} {env : Env} {κ : Type} (I : EnvIs G gh σ H own env) : ∀ {vs : List (κ × V)} {ds : List (κ × D)}, KvIs G.K (avd G own) H vs ds → EnvIs G ((vs.zip ds).map (fun q => Gh.t q.1.2 q.2.2) ++ gh) σ H own env
  | _, _, .nil => I
  | _, _, .cons h1 h2 => (gh_kv I h2).more h1
/-- avoided becomes pinned -/
theorem pin_of {G : Fr} {gh : List Gh} {σ : L2.St} {H : Hp} {own : Own} {env : Env} {p : Addr} {ho : HO} (I : EnvIs (G.av p) gh σ H own env) (hp : H p = some ho) : EnvIs (G.pin p) (.r p ho :: gh) σ H own env := by
  refine ⟨I.len, fun i s e => (I.slot i s e).mv rfl rfl rfl (fun a u h1 h2 => ⟨h2, h1⟩) (fun _ _ => rfl), I.out, I.inj, I.a0, I.fr, I.keep, fun g hg => ?_⟩
  rcases List.mem_cons.mp hg with rfl | hg
  · exact ⟨hp, Or.inr rfl⟩
  · have z := I.gs g hg
    cases g with
    | t v d => exact z
    | r a o => exact ⟨z.1, Or.inl z.2⟩
theorem ct_in {G : Fr} {gh : List Gh} {σ : L2.St} {H : Hp} {own : Own} {env : Env} {p : Addr} {ho : HO} {c : Ct} (I : EnvIs (G.av p) gh σ H own env) (hp : H p = some ho) (hc : CtIs G.K (avd (G.av p) own) H ho c) (hd : ∀ kds, c ≠ .dt kds) : EnvIs (G.pin p) (ctGh p ho c ++ gh) σ H own env ∧ CtSh ho c := by
  have J := pin_of I hp
  cases c with
  | lst ds =>
    obtain ⟨vs, rfl, h1⟩ := hc.lst_inv
    refine ⟨?_, h1.len⟩
    have := ghosts J (ds := ds) (vs := vs) h1
    simpa [ctGh] using this
  | dk kds =>
    obtain ⟨vs, rfl, h1⟩ := hc.dk_inv
    refine ⟨?_, kv_sh h1⟩
    have := gh_kv J (vs := vs) (ds := kds) h1
    simpa [ctGh] using this
  | dt kds => exact absurd rfl (hd kds)
theorem ct_out {G : Fr} {gh : List Gh} {σ : L2.St} {H : Hp} {own : Own} {env : Env} {p : Addr} {ho : HO} {c : Ct} (I : EnvIs (G.pin p) (ctGh p ho c ++ gh) σ H own env) (hs : CtSh ho c) (hr : ∀ a o, Gh.r a o ∈ gh → G.Ar a) : EnvIs (G.av p) gh σ H own env ∧ H p = some ho ∧ CtIs G.K (avd (G.av p) own) H ho c := by
  refine ⟨raw_less I hr, ?_⟩
  cases ho <;> cases c <;> first | exact hs.elim | skip
  · rename_i vs ds
    have z := I.gs (.r p (.lst vs)) (by simp [ctGh])
    refine ⟨z.1, ?_⟩
    have I' : EnvIs (G.pin p) ((vs.zip ds).map (fun q => Gh.t q.1 q.2) ++ (.r p (.lst vs) :: gh)) σ H own env := by simpa [ctGh] using I
    exact unghosts (G := G.pin p) hs I'
  · rename_i vs ds
    have z := I.gs (.r p (.dK vs)) (by simp [ctGh])
    refine ⟨z.1, ?_⟩
    have I' : EnvIs (G.pin p) ((vs.zip ds).map (fun q => Gh.t q.1.2 q.2.2) ++ (.r p (.dK vs) :: gh)) σ H own env := by simpa [ctGh] using I
    exact kv_gh (G := G.pin p) hs I'
def Got (σ : L2.St) (H : Hp) (own : Own) (env : Env) : Fr → List Gh → List V → List Ar → Prop
  | G, gh, [], [] => EnvIs G gh σ H own env
  | G, gh, v :: vs, .t d :: as => Got σ H own env G (.t v d :: gh) vs as
  | G, gh, v :: vs, .n c :: as => ∃ p ho, v = .ref p ∧ ¬ G.A0 p ∧ G.B p = none ∧ CtSh ho c ∧ (∀ a o, Gh.r a o ∈ gh → G.Ar a) ∧ Got σ H own env (G.pin p) (ctGh p ho c ++ gh) vs as
  | _, _, _, _ => False
def EX (K : PySem.W.Frag) (ta : TA) (env env' : Env) (as : List Ar) : Prop := ∀ (G : Fr) (gh : List Gh) (σ : L2.St) (H : Hp) (own : Own) (Q : List V → Hp → Prop), G.K = K → EnvIs G gh σ H own env →
  (∀ vs H', Got σ H' own env' G gh vs as → Q vs H') → ta σ H Q
theorem ex_nil : EX K tNil env env [] := fun G gh σ H own Q hK I q => q [] H I
theorem ex_t {as : List Ar} (h : EE K te env e1 d) (hr : EX K tr e1 e2 as) : EX K (tCons te tr) env e2 (.t d :: as) := fun G gh σ H own Q hK I q => by
  refine h G gh σ H own _ hK I fun v H1 I1 i1 => ?_
  exact hr G (.t v d :: gh) σ H1 own _ hK (I1.tree (hK ▸ i1)) fun vs H2 g => q (v :: vs) H2 g
theorem ex_n {as : List Ar} {c : Ct} (h : EN K te env e1 c) (hd : ∀ kds, c ≠ .dt kds) (hr : EX K tr e1 e2 as) : EX K (tCons te tr) env e2 (.n c :: as) := fun G gh σ H own Q hK I q => by
  refine h G gh σ H own _ hK I fun p ho H1 I1 n1 n2 hp hc => ?_
  obtain ⟨J, s1⟩ := ct_in I1 hp (hK ▸ hc) hd
  refine hr (G.pin p) _ σ H1 own _ hK J fun vs H2 g => q (.ref p :: vs) H2 ⟨p, ho, rfl, n1, n2, s1, fun a o hm => (I.gs _ hm).2, g⟩
def setAll (σ : L2.St) : List Nat → List V → L2.St
  | i :: is, v :: vs => (setAll σ is vs).set i (some v)
  | _, _ => σ
def setAllE (env : Env) : List Nat → List Ar → Env
  | i :: is, a :: as => (setAllE env is as).set i a.s
  | _, _ => env
theorem setAllE_at {i : Nat} : ∀ {is : List Nat} {as : List Ar}, i ∉ is → (setAllE env is as)[i]? = env[i]?
  | [], _, _ => by unfold setAllE; rfl
  | _ :: _, [], _ => by unfold setAllE; rfl
  | j :: is, a :: as, h => by
    unfold setAllE
    rw [List.getElem?_set_ne fun z => h (by rw [z]; exact List.mem_cons_self), setAllE_at fun z => h (List.mem_cons_of_mem _ z)]
theorem got_set {σ : L2.St} {H : Hp} : ∀ {as : List Ar} {is : List Nat} {vs : List V} {G : Fr} {gh : List Gh} {own : Own}, Got σ H own env G gh vs as → is.length = as.length → is.Nodup → (∀ i, i ∈ is → ∃ s, env[i]? = some s ∧ s.isPm = false) →
    ∃ own', EnvIs G gh (setAll σ is vs) H own' (setAllE env is as)
  | [], [], [], G, gh, own, g, _, _, _ => ⟨own, g⟩
  | [], [], _ :: _, G, gh, own, g, _, _, _ => g.elim
  | [], _ :: _, _, _, _, _, _, h, _, _ => by cases h
  | _ :: _, [], _, _, _, _, _, h, _, _ => by cases h
  | .t d :: as, i :: is, [], G, gh, own, g, _, _, _ => by cases g
  | .n c :: as, i :: is, [], G, gh, own, g, _, _, _ => by cases g
  | .t d :: as, i :: is, v :: vs, G, gh, own, g, h1, h2, h3 => by
    obtain ⟨own', I⟩ := got_set (is := is) (vs := vs) g (by simpa using h1) (List.nodup_cons.mp h2).2 fun j hj => h3 j (List.mem_cons_of_mem _ hj)
    obtain ⟨s, e1, e2⟩ := h3 i List.mem_cons_self
    have e3 : (setAllE env is as)[i]? = some s := by rw [setAllE_at (List.nodup_cons.mp h2).1]; exact e1
    exact ⟨_, I.tl.set e3 e2 I.hd⟩
  | .n c :: as, i :: is, v :: vs, G, gh, own, g, h1, h2, h3 => by
    obtain ⟨p, ho, rfl, n1, n2, sh, hr, g⟩ := g
    obtain ⟨own', I⟩ := got_set (is := is) (vs := vs) g (by simpa using h1) (List.nodup_cons.mp h2).2 fun j hj => h3 j (List.mem_cons_of_mem _ hj)
    obtain ⟨s, e1, e2⟩ := h3 i List.mem_cons_self
    have e3 : (setAllE env is as)[i]? = some s := by rw [setAllE_at (List.nodup_cons.mp h2).1]; exact e1
    obtain ⟨J, hp, hc⟩ := ct_out I sh hr
    exact ⟨_, J.take n1 n2 e3 e2 hp hc⟩
theorem got_len {σ : L2.St} {H : Hp} {own : Own} : ∀ {as : List Ar} {vs : List V} {G : Fr} {gh : List Gh}, Got σ H own env G gh vs as → vs.length = as.length
  | [], [], _, _, _ => rfl
  | [], _ :: _, _, _, g => g.elim
  | .t d :: as, [], _, _, g => by cases g
  | .n c :: as, [], _, _, g => by cases g
  | .t d :: as, v :: vs, _, gh, g => by
    have h := got_len (gh := .t v d :: gh) g
    simp [h]
  | .n c :: as, v :: vs, _, _, g => by
    obtain ⟨p, ho, _, _, _, _, _, g⟩ := g
    have h := got_len g
    simp [h]
/-- x, y = .., .. -/
theorem ss_parX {i j : Nat} {s s' : S} {p q : Ar} (h : EX K tr env e1 [p, q]) (hij : i ≠ j) (he : e1[i]? = some s) (hs : s.isPm = false) (he' : e1[j]? = some s') (hs' : s'.isPm = false) : SS K (tPar i j tr) env (.next ((e1.set j q.s).set i p.s)) := fun G gh σ H own Dn hK I k =>
  h G gh σ H own _ hK I fun vs H' g => by
    have hl := got_len g
    match vs, hl with
    | [v, w], _ =>
      refine ⟨v, w, rfl, ?_⟩
      obtain ⟨own', J⟩ := got_set (is := [i, j]) g rfl (by simp [hij]) (by
        intro m hm
        rcases List.mem_cons.mp hm with rfl | hm
        · exact ⟨s, he, hs⟩
        · have : m = j := by simpa using hm
          subst this
          exact ⟨s', he', hs'⟩)
      rw [List.set_comm _ _ hij]
      exact k _ _ _ J
/-- x, y, z = .., .., .. -/
theorem ss_par3X {i j l : Nat} {s s' s'' : S} {p q r : Ar} (h : EX K tr env e1 [p, q, r]) (hij : i ≠ j) (hil : i ≠ l) (hjl : j ≠ l) (he : e1[i]? = some s) (hs : s.isPm = false) (he' : e1[j]? = some s') (hs' : s'.isPm = false) (he'' : e1[l]? = some s'') (hs'' : s''.isPm = false) :
    SS K (tPar3 i j l tr) env (.next (((e1.set l r.s).set j q.s).set i p.s)) := fun G gh σ H own Dn hK I k =>
  h G gh σ H own _ hK I fun vs H' g => by
    have hl := got_len g
    match vs, hl with
    | [v, w, x], _ =>
      refine ⟨v, w, x, rfl, ?_⟩
      obtain ⟨own', J⟩ := got_set (is := [i, j, l]) g rfl (by simp [hij, hil, hjl]) (by
        intro m hm
        rcases List.mem_cons.mp hm with rfl | hm
        · exact ⟨s, he, hs⟩
        · rcases List.mem_cons.mp hm with rfl | hm
          · exact ⟨s', he', hs'⟩
          · have : m = l := by simpa using hm
            subst this
            exact ⟨s'', he'', hs''⟩)
      have e : ((σ.set i (some v)).set j (some w)).set l (some x) = ((σ.set l (some x)).set j (some w)).set i (some v) := by
        rw [List.set_comm (some v) (some w) hij, List.set_comm (some v) (some x) hil, List.set_comm (some w) (some x) hjl]
      rw [e]
      exact k _ _ _ J
end
end Fl
set_option autoImplicit false
set_option Elab.async false
set_option linter.all false
set_option maxRecDepth 100000
set_option maxHeartbeats 2000000
namespace FlTup
open PySem PySem.Spec PyProof.Rows L2
/-- a tuple without a dict of its own -/
def PlainT (o : Obj) : Prop := o.cls = .type "tuple" ∧ o.dict = none
section
variable {X : Cx}
/-- tuple(list), the new tuple's object known -/
def rTupF (K : PySem.W.Frag) : List V → Hp → VK → Prop := fun xs H Q => ∃ p ys, xs = [.ref p] ∧ SqL K H p ys ∧ ∀ l o, H l = none → PlainT o → Q (.ref l) (upd H l (.frz o (.tup ys)))
theorem call_tupF : CallR X (.type "tuple") (rTupF X.K) := by
  intro pins s σ H xs us Q I r h
  obtain ⟨p, ys, rfl, hq, q⟩ := h
  obtain ⟨u, rfl, rx⟩ := vals1 r
  cases rx
  obtain ⟨its, r', pl, hz⟩ := I.list hq
  have hlen := r'.length
  refine call_tuple_list pl.isList (fun h' kp => ?_) (by simp only [List.size_toArray] <;> omega)
  have I1 : Inv X pins σ H { s with heap := h' } := I.kept (t' := s.toks) kp
  have I2 : Inv X pins σ (upd H h'.objs.size (.frz { cls := .type "tuple", data := .seq its.toArray } (.tup ys))) { s with heap := h'.push { cls := .type "tuple", data := .seq its.toArray } } :=
    I1.laid (t' := s.toks) (fun b o e => Heap.get?_push_of_some _ e) (Nat.le_refl _) (show ObjOk X.prog X.w _ _ _ (.frz { cls := .type "tuple", data := .seq its.toArray } (.tup ys)) from ⟨Heap.get?_push_size _ rfl, hz, its, r', IsTup.new _ _⟩)
  exact ⟨.ref h'.objs.size, _, I2, rfl, q _ _ (I1.hok.fresh (Nat.le_refl _)) ⟨rfl, rfl⟩⟩
/-- m(x) of such a tuple -/
def tBMF (r : V → List V → Hp → VK → Prop) (to : TE) (t : TA) : TE := fun σ H Q => to σ H fun x H1 => (∃ p o ys, x = .ref p ∧ H1 p = some (.frz o (.tup ys)) ∧ PlainT o) ∧ t σ H1 fun xs H2 => r x xs H2 Q
variable {o e : Expr} {es : List Expr} {to : TE} {t : TA} {name : Str} {apos cpos : Pos} {id : String} {r : V → List V → Hp → VK → Prop}
theorem pe_bmF (pa : PlainAttrs "tuple") (slot : Slot "tuple" name id) (hty : typeOf (.builtin id) = pure (.type "method_descriptor")) (hm : MtR X id r) (ho : PE X o to) (ha : PA X (e :: es) t)
    (hbase : attributeBase o name X.env (eval o X.env) = eval o X.env := by rfl)
    (hfew : ((backTo cpos (starEach (e :: es) X.env)).all (fun x => !x.1) && (backToKw cpos (keywordEach [] X.env)).all (fun x => x.1.isSome)
      && decide ((e :: es).length + ([] : List Keyword).length + (if ([] : List Keyword).isEmpty then 0 else 1) < 30)) = true := by rfl)
    (hline : (apos.endLine == cpos.line) = true := by rfl) (hs : starEach (e :: es) X.env = (false, eval e X.env) :: starEach es X.env := by rfl) (hplain : (backTo cpos (starEach es X.env)).any (·.1) = false := by rfl) :
    PE X (.Call (.Attribute o name apos) (e :: es) [] cpos) (tBMF r to t) := by
  refine ⟨fun pins s σ H Q I h => ?_⟩
  refine wpAny_Call_method_late hbase hfew hline rfl (thn (ho.run pins s σ H _ I h) fun v s1 ⟨x, H1, I1, r1, ty, q1⟩ => ?_)
  obtain ⟨p, ob, ys, rfl, hp, hc, hd⟩ := ty
  cases r1
  have hob : s1.heap.get? p = some ob := (I1.hok p _ hp).1
  refine ⟨"tuple", id, pa, slot, hty, ⟨ob, hob, hc⟩, fun a e => ?_, ?_⟩
  · cases e
    exact ⟨ob, hob, hd⟩
  have hA := ha.run cpos pins s1 σ H1 _ I1 q1
  rw [hs] at hA ⊢
  refine Calls.callWith_builtin (by show (false || (backTo cpos (starEach es X.env)).any (·.1)) = false; rw [hplain] <;> rfl) (Calls.evalArgs_plain ?_)
  exact thn hA fun us s2 ⟨vs, H2, I2, r2, q2⟩ => hm pins s2 σ H2 (.ref p) vs (.ref p) us Q I2 rfl r2 q2
end
end FlTup
namespace Fl
open PySem PySem.Spec PyProof.Rows L2
section
variable {K : PySem.W.Frag} {env e0 e1 e2 e3 : Env} {x y z d : D} {ta tb te to : TE} {tr : TA} {rs ds : List D}
def EZ (K : PySem.W.Frag) (te : TE) (env env' : Env) (ds : List D) : Prop := ∀ (G : Fr) (gh : List Gh) (σ : L2.St) (H : Hp) (own : Own) (Q : VK), G.K = K → EnvIs G gh σ H own env →
  (∀ p o xs H', EnvIs G gh σ H' own env' → H' p = some (.frz o (.tup xs)) → FlTup.PlainT o → ¬ avd G own p → IsAll K (avd G own) H' xs ds → Q (.ref p) H') → te σ H Q
theorem ez_tup (h : EN K te env e1 (.lst ds)) : EZ K (tCB (FlTup.rTupF K) (tCons te tNil)) env e1 ds := fun G gh σ H own Q hK I q => by
  refine h G gh σ H own _ hK I fun p ho H1 I1 n1 n2 hp hc => ?_
  obtain ⟨vs, rfl, i1⟩ := hc.lst_inv
  have I2 := I1.unav
  have i2 : IsAll K (avd G own) H1 vs ds := IsAll.move (fun a u h1 h2 => ⟨h2, fun z => h1 (avd_av z)⟩) _ _ i1
  refine ⟨p, vs, rfl, SqL.of hp, fun l o hl ho => ?_⟩
  have n3 : ¬ avd G own l := not_avd (I2.new (o := .frz o (.tup vs)) hl) (I2.new_out hl).1
  exact q l o vs _ (I2.new hl).unav upd_same ho n3 (IsAll.move (fun a u h1 h2 => ⟨(rd_new hl h2).1, h1⟩) _ _ i2)
def spF (K : PySem.W.Frag) (f : List D → List D → Prop) : Sp := fun vs H Q _ => ∃ (A0 : Addr → Prop) (ds rs : List D), IsAll K A0 H vs ds ∧ (∀ a, A0 a → H a ≠ none) ∧ f ds rs ∧
  ∀ p o xs H', (∀ a o, H a = some o → H' a = some o) → H' p = some (.frz o (.tup xs)) → FlTup.PlainT o → ¬ A0 p → IsAll K A0 H' xs rs → Q (.ref p) H'
theorem ez_call {f : List D → List D → Prop} {E : XK} (h : EA K tr env e1 ds) (hf : f ds rs) : EZ K (tCall (spF K f) [] E tr) env e1 rs := fun G gh σ H own Q hK I q => by
  refine h G gh σ H own _ hK I fun vs H1 I1 i1 => ?_
  rw [List.append_nil]
  refine ⟨avd G own, ds, rs, i1, fun a ha => ?_, hf, fun p o xs H' hx hp ho n i2 => q p o xs H' (I1.ext hx) hp ho n i2⟩
  rcases ha with ha | ⟨i, ha⟩
  · exact I1.a0 a ha
  · obtain ⟨_, _, _, _, _, _, h4, _⟩ := I1.own_known ha
    rw [h4]; simp
theorem ee_idxT {j : Nat} (h : EZ K to env e1 ds) (hb : EE K te e1 e2 d) (sl : SeqAt.shaped (.tuple ds) = true) (sd : SeqAt.shaped d = true) (hz : ds[j]? = some z) (hzj : PyData.eqv z d = true) (hno : ∀ (m : Nat) (z' : PyData), m < j → ds[m]? = some z' → PyData.eqv z' d = false) :
    EE K (FlTup.tBMF (FlIdx.rIndexT K) to (tCons te tNil)) env e2 (.int (j : Nat)) := fun G gh σ H own Q hK I q => by
  refine h G gh σ H own _ hK I fun p o xs H1 I1 hp ho n i1 => ⟨⟨p, o, xs, rfl, hp, ho⟩, ?_⟩
  have it : Is K (avd G own) H1 (.ref p) (.tuple ds) := .tup (Or.inr ⟨o, hp⟩) n i1
  refine hb G _ σ H1 own _ hK (I1.tree (hK ▸ it)) fun v H2 I2 i2 => ?_
  exact ⟨p, v, d, ds, j, z, rfl, rfl, Is.dp _ _ (hK ▸ I2.hd), Is.dp _ _ i2, sl, sd, hz, hzj, hno, q _ _ I2.tl (.int _)⟩
/-- a def's end by such a tuple -/
def SZ (K : PySem.W.Frag) (t : TS) (env : Env) (rs : List D) : Prop := ∀ (G : Fr) (gh : List Gh) (σ : L2.St) (H : Hp) (own : Own) (Dn : Ends), G.K = K → EnvIs G gh σ H own env →
  (∀ σ' own' env' p o xs H', EnvIs G gh σ' H' own' env' → H' p = some (.frz o (.tup xs)) → FlTup.PlainT o → ¬ avd G own' p → IsAll K (avd G own') H' xs rs → Dn.rt (.ref p) H') → t Dn σ H
theorem sz_ret (h : EZ K te env e1 rs) : SZ K (tRet te) env rs := fun G gh σ H own Dn hK I q => h G gh σ H own _ hK I fun p o xs H' I' hp ho n i => q σ own e1 p o xs H' I' hp ho n i
theorem fn_tupF {P : Program} {w : World} {mg : Str → Option Value} {base : Heap} {xn qual : Str} {params : Arguments} {body : List Stmt} {scope : Scope} {dvs : List V} {kws : List (Str × V)} {fa : Addr} {fd : FuncData} {N ps : List Str} {k : Nat} {f : List D → List D → Prop}
    (Fd : FunD K xn qual params body scope dvs kws fa fd) (Sc : FnScope N ps scope) (hlen : ∀ ds d, f ds d → ds.length = ps.length)
    (hbody : ∀ (cdv : Value) (A : Around) (outer : List PySem.Env) (s : Shared) (H : Hp) (E : XK), Room k (A.deeper (envOfC qual scope s.heap.objs.size fa cdv)) →
      ∃ t, PSs (cxOf CX0 P w K mg base N qual scope fa cdv A outer s H E).nox body t ∧ ∀ ds d, f ds d → SZ K t (ds.map S.d ++ List.replicate (N.length - ps.length) .any) d) : FnOk P w K mg base CX0 (k + 1) fa fd ps (spF K f) := by
  refine Fd.ok Sc (fun vs H Q E h => ?_) (fun cdv A outer s H vs Q E hr h => ?_)
  · obtain ⟨A0, ds, d, h1, _, h2, _⟩ := h
    rw [h1.len]
    exact hlen ds d h2
  · obtain ⟨A0, ds, d, h1, h3, h2, q⟩ := h
    obtain ⟨t, ht, hs⟩ := hbody cdv A outer s H E hr
    refine ⟨t, ht.nox, ?_⟩
    have hl := hlen ds d h2
    have I := env_start (n := N.length - ps.length) h1 h3
    have hst : L2.start N vs = vs.map some ++ List.replicate (N.length - ps.length) none := by
      unfold L2.start
      rw [h1.len, hl]
    rw [hst]
    refine hs ds d h2 _ [] _ H noOwn _ rfl I fun σ' own' env' p o xs H' I' hp ho n i' => ?_
    exact q p o xs H' (fun a o ho => I'.keep a o ho fun i z => by cases z) hp ho (fun z => n (Or.inl z)) (IsAll.move (fun a u h1 h2 => ⟨h2, fun z => h1 (Or.inl z)⟩) _ _ i')
end
end Fl
set_option autoImplicit false
set_option Elab.async false
set_option linter.all false
set_option maxRecDepth 100000
set_option maxHeartbeats 2000000
namespace Fl
open PySem PySem.Spec PyProof.Rows L2
section
variable {K : PySem.W.Frag} {env e0 e1 e2 e3 : Env} {x y z d : D} {ta tb te to : TE} {tr : TA} {rs ds es : List D} {b : Bool}
theorem gg_lst {gs : TGs} {ds : List D} {n : Nat} {ts : List Nat} (h : GGs K gs ds ts env e1) (hn : ds.length = n) : GG K (gLst K n gs) (.list ds) ts env e1 := fun G gh σ H own v Q hK I hv q => by
  obtain ⟨a, xs, rfl, h3, h4⟩ := hv.lst_inv
  exact ⟨a, xs, rfl, h3, by rw [h4.len]; exact hn, h G gh σ H own xs Q hK I h4 q⟩
theorem rc_int1 {i : Int} : RC K (fun xs H Q => (∃ i, xs = [.int i] ∧ Q (.int i) H) ∨ ∃ k, xs = [.bl k] ∧ Q (.int (if k then 1 else 0)) H) [.int i] (.int i) := fun G gh σ H own env vs Q hK I h1 q => by
  obtain ⟨v, rfl, h2⟩ := one_inv h1
  cases h2
  exact Or.inl ⟨i, rfl, q _ _ I (.int i)⟩
theorem rc_intB {k : Bool} : RC K (fun xs H Q => (∃ i, xs = [.int i] ∧ Q (.int i) H) ∨ ∃ k, xs = [.bl k] ∧ Q (.int (if k then 1 else 0)) H) [.bool k] (.int (if k then 1 else 0)) := fun G gh σ H own env vs Q hK I h1 q => by
  obtain ⟨v, rfl, h2⟩ := one_inv h1
  cases h2
  exact Or.inr ⟨k, rfl, q _ _ I (.int _)⟩
theorem rc_min2 {i j : Int} : RC K (fun xs H Q => ∃ i j, xs = [.int i, .int j] ∧ Q (.int (if j < i then j else i)) H) [.int i, .int j] (.int (min i j)) := fun G gh σ H own env vs Q hK I h1 q => by
  obtain ⟨v, w, rfl, h2, h3⟩ := two_inv h1
  cases h2
  cases h3
  have e : min i j = if j < i then j else i := by split <;> omega
  exact ⟨i, j, rfl, q _ _ I (by rw [e]; exact .int _)⟩
theorem rc_max2 {i j : Int} : RC K (fun xs H Q => ∃ i j, xs = [.int i, .int j] ∧ Q (.int (if j > i then j else i)) H) [.int i, .int j] (.int (max i j)) := fun G gh σ H own env vs Q hK I h1 q => by
  obtain ⟨v, w, rfl, h2, h3⟩ := two_inv h1
  cases h2
  cases h3
  have e : max i j = if j > i then j else i := by split <;> omega
  exact ⟨i, j, rfl, q _ _ I (by rw [e]; exact .int _)⟩
/-- l.index(x) of an owned list -/
theorem ee_idxO {i j : Nat} {pm : Bool} (h : env[i]? = some (.o pm (.lst ds))) (hb : EE K te env e1 d) (h' : e1[i]? = some (.o pm (.lst ds))) (sl : SeqAt.shaped (.list ds) = true) (sd : SeqAt.shaped d = true) (hz : ds[j]? = some z) (hzj : PyData.eqv z d = true) (hno : ∀ (m : Nat) (z' : PyData), m < j → ds[m]? = some z' → PyData.eqv z' d = false) :
    EE K (tBM K "list" (rIndexD K) (tVar i) (tCons te tNil)) env e1 (.int (j : Nat)) := fun G gh σ H own Q hK I q => by
  obtain ⟨p, ho, h1, h2, h3, h4⟩ := own_var I h
  obtain ⟨vs0, rfl, h5⟩ := h4.lst_inv
  refine ⟨_, h2, Or.inl ⟨rfl, vs0, SqL.of h3⟩, ?_⟩
  refine hb G gh σ H own _ hK I fun v H' I' i1 => ?_
  obtain ⟨ho', h6, h7⟩ := own_same I' h' h1
  obtain ⟨vs, rfl, h8⟩ := h7.lst_inv
  exact ⟨p, v, d, ds, j, z, rfl, rfl, .lst (SqL.of h6) (IsAll.dp _ _ (hK ▸ h8)), Is.dp _ _ i1, sl, sd, hz, hzj, hno, q _ _ I' (.int _)⟩
/-- x in an owned list of flat things -/
theorem ee_inO {i : Nat} {pm : Bool} {neg : Bool} (hb : EE K te env e1 x) (h' : e1[i]? = some (.o pm (.lst ds))) (hx : sca x = true) (hs : ds.all sca = true) (e : (if neg then !inV (dV x) (ds.map dV) else inV (dV x) (ds.map dV)) = b) : EE K (tOp (rIn K neg) te (tVar i)) env e1 (.bool b) := fun G gh σ H own Q hK I q => by
  refine hb G gh σ H own _ hK I fun v H' I' i1 => ?_
  obtain ⟨p, ho, h1, h2, h3, h4⟩ := own_var I' h'
  obtain ⟨vs, rfl, h5⟩ := h4.lst_inv
  obtain ⟨g1, g2⟩ := flats_of h5 hs
  refine ⟨_, h2, p, vs, rfl, Or.inl (SqL.of h3), flat_of i1 hx, g2, ?_⟩
  rw [is_sca i1 hx, g1, e]
  exact q _ _ I' (.bl b)
/-- owned + new -/
theorem en_catO {i : Nat} {pm : Bool} (h : env[i]? = some (.o pm (.lst ds))) (hb : EN K tb env e1 (.lst es)) (h' : e1[i]? = some (.o pm (.lst ds))) (hz : ds.length + es.length ≤ 1000000) : EN K (tOp rCat (tVar i) tb) env e1 (.lst (ds ++ es)) := fun G gh σ H own Q hK I q => by
  obtain ⟨p, ho, h1, h2, h3, h4⟩ := own_var I h
  refine ⟨_, h2, ?_⟩
  refine hb G gh σ H own _ hK I fun b ho H' I' n1 n2 hp hc => ?_
  obtain ⟨vs, rfl, h5⟩ := hc.lst_inv
  have I2 := I'.unav
  obtain ⟨ho', h6, h7⟩ := own_same I2 h' h1
  obtain ⟨us, rfl, h8⟩ := h7.lst_inv
  have h9 : IsAll K (avd G own) H' vs es := IsAll.move (fun a u h1 h2 => ⟨h2, fun z => h1 (avd_av z)⟩) _ _ h5
  refine ⟨p, b, us, vs, rfl, rfl, h6, hp, szOk (by rw [h8.len, h9.len]; exact hz), fun l hl => ?_⟩
  exact en_new hK I2 hl (show CtIs K (avd G own) H' (.lst (us ++ vs)) (.lst (ds ++ es)) from (hK ▸ h8 : IsAll K _ _ _ _).append h9) q
/-- new + new -/
theorem en_catN (ha : EN K ta env e1 (.lst ds)) (hb : EN K tb e1 e2 (.lst es)) (hz : ds.length + es.length ≤ 1000000) : EN K (tOp rCat ta tb) env e2 (.lst (ds ++ es)) := fun G gh σ H own Q hK I q => by
  refine ha G gh σ H own _ hK I fun a ho H1 I1 n1 n2 hp hc => ?_
  obtain ⟨J, s1⟩ := ct_in I1 hp (hK ▸ hc) (fun kds z => by cases z)
  refine hb (G.pin a) _ σ H1 own _ hK J fun b ho2 H2 I2 n3 n4 hp2 hc2 => ?_
  obtain ⟨vs, rfl, h5⟩ := hc2.lst_inv
  have I3 := I2.unav
  have h6 : IsAll K (avd (G.pin a) own) H2 vs es := IsAll.move (fun a u h1 h2 => ⟨h2, fun z => h1 (avd_av z)⟩) _ _ h5
  obtain ⟨I4, hp3, hc3⟩ := ct_out I3 s1 fun a o hm => (I.gs _ hm).2
  obtain ⟨us, rfl, h8⟩ := hc3.lst_inv
  have I5 := I4.unav
  have mv : ∀ {xs : List V} {fs : List D}, IsAll K (avd (G.pin a) own) H2 xs fs → IsAll K (avd G own) H2 xs fs := fun {xs fs} h => IsAll.move (fun a u h1 h2 => ⟨h2, fun z => h1 (avd_av z)⟩) _ _ h
  refine ⟨a, b, us, vs, rfl, rfl, hp3, hp2, szOk (by rw [h8.len, h6.len]; exact hz), fun l hl => ?_⟩
  exact en_new hK I5 hl (show CtIs K (avd G own) H2 (.lst (us ++ vs)) (.lst (ds ++ es)) from (mv (hK ▸ h8)).append (mv h6)) q
/-- list(range(..)) -/
theorem en_lstRg1 {n : Int} (h : EE K te env e1 (.int n)) (hn : RgOk 0 n) : EN K (tLstRg (tRg1 te)) env e1 (.lst (rangeD 0 n.toNat)) := fun G gh σ H own Q hK I q => by
  refine h G gh σ H own _ hK I fun v H' I' i1 => ?_
  cases i1
  refine ⟨n, rfl, hn, fun l hl => en_new hK I' hl (show CtIs K (avd G own) H' (.lst (rgV 0 n)) (.lst (rangeD 0 n.toNat)) from ?_) q⟩
  unfold rgV rangeD
  rw [Int.sub_zero]
  have : ∀ l : List Nat, IsAll K (avd G own) H' (l.map fun i => V.int (0 + (i : Nat))) (l.map fun i => PyData.int (0 + (i : Nat))) := fun l => by
    induction l with
    | nil => exact .nil
    | cons a l ih => exact .cons (.int _) ih
  exact this _
theorem en_lstRg2 {m n : Int} (ha : EE K ta env e1 (.int m)) (hb : EE K tb e1 e2 (.int n)) (hn : RgOk m n) : EN K (tLstRg (tRg2 ta tb)) env e2 (.lst (rangeD m (n - m).toNat)) := fun G gh σ H own Q hK I q => by
  refine ha G gh σ H own _ hK I fun v H' I' i1 => ?_
  cases i1
  refine hb G gh σ H' own _ hK I' fun v H2 I2 i2 => ?_
  cases i2
  refine ⟨m, n, rfl, rfl, hn, fun l hl => en_new hK I2 hl (show CtIs K (avd G own) H2 (.lst (rgV m n)) (.lst (rangeD m (n - m).toNat)) from ?_) q⟩
  unfold rgV rangeD
  have : ∀ l : List Nat, IsAll K (avd G own) H2 (l.map fun i => V.int (m + (i : Nat))) (l.map fun i => PyData.int (m + (i : Nat))) := fun l => by
    induction l with
    | nil => exact .nil
    | cons a l ih => exact .cons (.int _) ih
  exact this _
/-! ### displays of a dict -/
def EPs (K : PySem.W.Frag) (trs : List (TE × TE)) (env env' : Env) (kvs : List (Key × D)) : Prop := ∀ (G : Fr) (gh : List Gh) (σ : L2.St) (H : Hp) (own : Own) (Q : List (V × V) → Hp → Prop), G.K = K → EnvIs G gh σ H own env →
  (∀ vs H', EnvIs G gh σ H' own env' → KvIs K (avd G own) H' vs kvs → Q (vs.map fun kv => (kV kv.1, kv.2)) H') → tPairs trs σ H Q
theorem eps_nil : EPs K [] env env [] := fun G gh σ H own Q hK I q => q [] H I .nil
theorem eps_cons {k : Key} {trs : List (TE × TE)} {kvs : List (Key × D)} (ha : EE K ta env e1 (kD k)) (hb : EE K tb e1 e2 d) (hr : EPs K trs e2 e3 kvs) : EPs K ((ta, tb) :: trs) env e3 ((k, d) :: kvs) := fun G gh σ H own Q hK I q => by
  refine ha G gh σ H own _ hK I fun v H1 I1 i1 => ?_
  have ev := kD_is i1
  subst ev
  refine hb G gh σ H1 own _ hK I1 fun w H2 I2 i2 => ?_
  refine hr G _ σ H2 own _ hK (I2.tree (hK ▸ i2)) fun vs H3 I3 i3 => ?_
  exact q ((k, w) :: vs) H3 I3.tl (.cons (hK ▸ I3.hd) i3)
def mergeD (kvs : List (Key × D)) : List (Key × D) := kvs.foldl (fun acc kv => Fl.put acc kv.1 kv.2) []
theorem kv_merge {A : Addr → Prop} {H : Hp} : ∀ {vs : List (Key × V)} {ds : List (Key × D)}, KvIs K A H vs ds → ∀ {vs0 : List (Key × V)} {ds0 : List (Key × D)}, KvIs K A H vs0 ds0 → KvIs K A H (mergeK vs0 vs) (ds.foldl (fun acc kv => Fl.put acc kv.1 kv.2) ds0)
  | _, _, .nil, _, _, h => h
  | _, _, .cons h1 h2, _, _, h => kv_merge h2 (h.put h1)
theorem en_disp {trs : List (TE × TE)} {kvs : List (Key × D)} (h : EPs K trs env e1 kvs) (hl : kvs.length ≤ 15) : EN K (tDisp trs) env e1 (.dk (mergeD kvs)) := fun G gh σ H own Q hK I q => by
  intro p hp
  obtain ⟨n1, n2, n3, n4⟩ := I.new_out hp
  have J : EnvIs (G.pin p) (.r p (.dK []) :: gh) σ (upd H p (.dK [])) own env := pin_of (I.new hp) upd_same
  refine h (G.pin p) _ σ _ own _ hK J fun vs H2 I2 i2 => ?_
  have hr : H2 p = some (.dK []) := (I2.gs _ List.mem_cons_self).1
  have I3 : EnvIs (G.av p) gh σ H2 own e1 := raw_less (gs := [.r p (.dK [])]) I2 fun a o hm => (I.gs _ hm).2
  have hlv : vs.length ≤ 15 := by rw [i2.len]; exact hl
  refine ⟨hr, vs, rfl, hlv, ?_⟩
  have mv : ∀ a u, ¬ avd (G.av p) own a → Rd H2 a u → Rd (upd H2 p (.dK (mergeK [] vs))) a u ∧ ¬ avd (G.av p) own a := fun a u h1 h2 => ⟨rd_ne (fun z => h1 (Or.inl (Or.inr z))) h2, h1⟩
  have I4 : EnvIs (G.av p) gh σ (upd H2 p (.dK (mergeK [] vs))) own e1 := by
    refine ⟨I3.len, fun j s e => (I3.slot j s e).mv rfl rfl rfl mv fun q hq => upd_ne fun z => (I3.fr j q hq).1 (Or.inr z), I3.out, I3.inj, fun a ha => ?_, I3.fr, fun a o ho hn => ?_, fun g hg => ?_⟩
    · by_cases e : a = p
      · rw [e, upd_same]; simp
      · rw [upd_ne e]; exact I3.a0 a ha
    · have e : a ≠ p := fun z => by
        have ho' : G.B a = some o := ho
        rw [z, n3] at ho'
        cases ho'
      rw [upd_ne e]
      exact I3.keep a o ho hn
    · have z := I3.gs g hg
      cases g with
      | t v d => exact Is.move mv _ _ z
      | r a o =>
        refine ⟨?_, z.2⟩
        have e : a ≠ p := fun z2 => n1 (G.har _ (z2 ▸ z.2))
        rw [upd_ne e]
        exact z.1
  have hc : CtIs K (avd (G.av p) own) H2 (.dK (mergeK [] vs)) (.dk (mergeD kvs)) := kv_merge i2 .nil
  exact q p _ _ I4 n1 n3 upd_same (CtIs.move mv hc)
end

/-! ### calls by keywords alone -/
def pick {α : Type} (d : α) (π : List Nat) (l : List α) : List α := π.map fun i => l.getD i d
/-- a def of the module, called by keywords named ks; π: the parameters' places among them -/
structure HasK (P : Program) (w : World) (K : PySem.W.Frag) (mg : Str → Option Value) (base : Heap) (x : Str) (k : Nat) (ps ks : List Str) (π : List Nat) (sp : Sp) : Prop where
  ex : ∃ (f : Addr) (fd : FuncData), FnOk P w K mg base CX0 k f fd ps sp ∧ mg x = some (.ref f) ∧ PySem.W.keepIn K (.ref f) = true ∧ KBn K fd ps 0 ks (fun _ ws => pick .none π ws) (fun _ zs => pick .non π zs)
theorem vals_getD {zs : List V} {ws : List Value} (h : Vals zs ws) (i : Nat) : RelV (zs.getD i .non) (ws.getD i .none) := by
  rw [List.getD_eq_getElem?_getD, List.getD_eq_getElem?_getD]
  cases e : zs[i]? with
  | none =>
    have : ws[i]? = none := by
      rw [List.getElem?_eq_none_iff] at e ⊢
      rw [← h.length]; exact e
    rw [this]; rfl
  | some v =>
    have hl : i < ws.length := by rw [← h.length]; exact (List.getElem?_eq_some_iff.mp e).1
    obtain ⟨u, hu, ru⟩ := h.get e
    rw [hu]; exact ru
theorem vals_pick {zs : List V} {ws : List Value} (h : Vals zs ws) : ∀ π : List Nat, Vals (pick .non π zs) (pick .none π ws)
  | [] => .nil
  | i :: π => .cons (vals_getD h i) (vals_pick h π)
theorem kbn_of {K : PySem.W.Frag} {x qual : Str} {params : Arguments} {body : List Stmt} {scope : Scope} {kws : List (Str × V)} {f : Addr} {fd : FuncData} {ps ks : List Str} {π : List Nat} (F : FunD K x qual params body scope [] kws f fd)
    (h : ∀ (kV doc pm : Value) (an : Option Addr) (cdv ct : Value) (ws : List Value), ws.length = ks.length → bindArgs (PySem.W.fnOf x qual params body scope .none kV doc pm an cdv ct) ⟨[], ks.zip ws⟩ = pure (ps.zip (pick .none π ws))) :
    KBn K fd ps 0 ks (fun _ ws => pick .none π ws) (fun _ zs => pick .non π zs) := by
  obtain ⟨oc, od, dV, kV, doc, pm, an, cdv, ct, osl, rfl, lk, hcd, hD, hK⟩ := F.ex
  rcases hD with ⟨_, rfl⟩ | ⟨e, _⟩
  · refine ⟨fun s us ws _ h1 h2 => ?_, fun _ r2 => vals_pick r2 π⟩
    cases us with
    | nil => exact .of_eq (h kV doc pm an cdv ct ws h2)
    | cons _ _ => cases h1
  · exact absurd rfl e
section
variable {X : Cx} {x : Str} {j k : Nat} {ps ks : List Str} {π : List Nat} {sp : Sp} {kws : List Keyword} {p pos : Pos} {tk : TA}
def tCallW (π : List Nat) (m : Nat) (sp : Sp) (E : XK) (tk : TA) : TE := fun σ H Q => tk σ H fun zs H2 => zs.length = m ∧ sp (pick .non π zs) H2 Q E
theorem pe_hasK (h : HasK X.prog X.w X.K X.mg X.base x j ps ks π sp) (hr : Room k X.A) (hkw : PK X kws tk) (hj : j ≤ k := by decide) (hg : Gl X x := by rfl) (hall : (backToKw pos (keywordEach kws X.env)).all (·.1.isSome) = true := by rfl) (hks : (backToKw pos (keywordEach kws X.env)).filterMap (·.1) = ks := by rfl)
    (hdb : (x == ("__debug__" : Str)) = false := by decide) (hpl : ((backTo pos (starEach [] X.env)).any (·.1) || (backToKw pos (keywordEach kws X.env)).any (·.1.isNone)) = false := by rfl) :
    PE X (.Call (.Name x p) [] kws pos) (tCallW π ks.length sp E0 tk) := by
  obtain ⟨f, fd, F, hm, hk, hb⟩ := h.ex
  refine ⟨fun pins s σ H Q I h => ?_⟩
  refine wpAny_Call_Name_kw (ld_glob I hg hm ?_ hdb)
  refine PySem.W.callWith_KW0 (h₀ := X.base) I.ok.mod.kin hk hall ?_ hpl
  refine thn (hkw.run pos pins s σ H _ I h) fun ws s2 ⟨zs, H2, I2, rz, l2, q2⟩ => ⟨I2.kIn, ?_⟩
  rw [hks]
  exact run_fnN F (hr.mono hj) hb pass0 I2 .nil rz rfl l2 q2
end
section
variable {K : PySem.W.Frag} {env e1 : Env} {d : D} {tr : TA}
theorem pick_is {A : Addr → Prop} {H : Hp} {vs : List V} {ds : List D} (h : IsAll K A H vs ds) : ∀ {π : List Nat}, (∀ i, i ∈ π → i < ds.length) → IsAll K A H (pick .non π vs) (pick .none π ds)
  | [], _ => .nil
  | i :: π, hp => by
    refine .cons ?_ (pick_is h fun j hj => hp j (List.mem_cons_of_mem _ hj))
    have hi := hp i List.mem_cons_self
    obtain ⟨v, h1, h2⟩ := h.get (List.getElem?_eq_getElem hi)
    show Is K A H (vs.getD i .non) (ds.getD i .none)
    rw [List.getD_eq_getElem?_getD, List.getD_eq_getElem?_getD, h1, List.getElem?_eq_getElem hi]
    exact h2
theorem ee_callW {f : List D → D → Prop} {E : XK} {ds : List D} {π : List Nat} {m : Nat} (h : EA K tr env e1 ds) (hm : ds.length = m) (hp : ∀ i, i ∈ π → i < ds.length) (hf : f (pick .none π ds) d) : EE K (tCallW π m (spP K f) E tr) env e1 d := fun G gh σ H own Q hK I q => by
  refine h G gh σ H own _ hK I fun vs H1 I1 i1 => ?_
  refine ⟨by rw [i1.len]; exact hm, avd G own, _, d, pick_is i1 hp, fun a ha => ?_, hf, fun v H' hx i2 => q v H' (I1.ext hx) i2⟩
  rcases ha with ha | ⟨i, ha⟩
  · exact I1.a0 a ha
  · obtain ⟨_, _, _, _, _, _, h4, _⟩ := I1.own_known ha
    rw [h4]; simp
end
end Fl
set_option autoImplicit false
set_option Elab.async false
set_option linter.all false
set_option maxRecDepth 100000
set_option maxHeartbeats 2000000
namespace Fl
open PySem PySem.Spec PyProof.Rows L2
/-! the rules that speak of the frame's K, K named -/
section
variable {X : Cx} (K : PySem.W.Frag)
theorem ixT (h : X.K = K) : IxR X (rIxT K) := h ▸ ix_tup
theorem ixL (h : X.K = K) : IxR X (rIxL K) := h ▸ ix_list
theorem slT (h : X.K = K) : SlR X (rSlT K) := h ▸ sl_tup
theorem slL (h : X.K = K) : SlR X (rSlL K) := h ▸ sl_list
theorem catT (h : X.K = K) : OpR X (binaryOp .Add) (rCatT K) := h ▸ op_catT
theorem eqD (hu : X.A.units + 64 < cLine) (h : X.K = K) : OpR X (compareOp .Eq) (rEqD K) := h ▸ op_eqD hu
theorem neD (hu : X.A.units + 64 < cLine) (h : X.K = K) : OpR X (compareOp .NotEq) (rNeD K) := h ▸ op_neD hu
theorem inS (h : X.K = K) : OpR X (compareOp .In) (rIn K false) := h ▸ op_in_seq
theorem notInS (h : X.K = K) : OpR X (compareOp .NotIn) (rIn K true) := h ▸ op_notIn_seq
theorem cAll (hc : X.calm = true) (h : X.K = K) : CallR X (.builtin "all") (rAll K) := h ▸ cr_all hc
theorem cAny (hc : X.calm = true) (h : X.K = K) : CallR X (.builtin "any") (rAny K) := h ▸ cr_any hc
theorem cSum (hc : X.calm = true) (h : X.K = K) : CallR X (.builtin "sum") (rSum K) := h ▸ cr_sum hc
theorem cIsi (h : X.K = K) : CallR X (.builtin "isinstance") (rIsi K) := h ▸ call_isi
theorem cLen (h : X.K = K) : CallR X (.builtin "len") (fun xs H Q => ∃ p ys, xs = [.ref p] ∧ (SqL K H p ys ∨ SqT K H p ys) ∧ Q (.int ys.length) H) := h ▸ call_len_seq
theorem cTup (h : X.K = K) : CallR X (.type "tuple") (fun xs H Q => ∃ p ys, xs = [.ref p] ∧ ((SqL K H p ys ∧ ∀ l, H l = none → Q (.ref l) (upd H l (.tup ys))) ∨ (SqT K H p ys ∧ Q (.ref p) H))) := h ▸ call_tuple_of
theorem cTupF (h : X.K = K) : CallR X (.type "tuple") (FlTup.rTupF K) := h ▸ FlTup.call_tupF
theorem cList (h : X.K = K) : CallR X (.type "list") (fun xs H Q => ∃ p ys, xs = [.ref p] ∧ (SqL K H p ys ∨ SqT K H p ys) ∧ ∀ l, H l = none → Q (.ref l) (upd H l (.lst ys))) := h ▸ call_list_of
theorem mIdx (hu : X.A.units + 65 < cLine) (h : X.K = K) : MtR X "list.index" (rIndexD K) := h ▸ mt_indexD hu
theorem mIdxT (hu : X.A.units + 65 < cLine) (h : X.K = K) : MtR X "tuple.index" (FlIdx.rIndexT K) := h ▸ FlIdx.mt_indexT hu
theorem revT (h : X.K = K) {e : Expr} {te : TE} {k : Nat} {p1 p2 p3 pos : Pos} (he : PE X e te) : PE X (.Subscript e (.Slice none none (some (.UnaryOp .USub (.Constant (.int 1) k p1) p2)) p3) pos) (FlRev.tRevT K te) := h ▸ FlRev.pe_revT he
theorem revL (h : X.K = K) {e : Expr} {te : TE} {k : Nat} {p1 p2 p3 pos : Pos} (he : PE X e te) : PE X (.Subscript e (.Slice none none (some (.UnaryOp .USub (.Constant (.int 1) k p1) p2)) p3) pos) (tRevL K te) := h ▸ pe_revL he
theorem pgT (h : X.K = K) {es : List Expr} {k : Nat} {t : TGs} {n : Nat} {pos : Pos} (hc : X.calm = true) (hp : PGs X es t)
    (hn : (assignEach es X.env).length = n := by rfl) (hst : (assignEach es X.env).findIdx? (·.1) = none := by rfl) : PG X (.Tuple es k pos) (gTup K n t) := h ▸ pg_tup hc hp hn hst
theorem pgL (h : X.K = K) {es : List Expr} {k : Nat} {t : TGs} {n : Nat} {pos : Pos} (hc : X.calm = true) (hp : PGs X es t)
    (hn : (assignEach es X.env).length = n := by rfl) (hst : (assignEach es X.env).findIdx? (·.1) = none := by rfl) : PG X (.Tuple es k pos) (gLst K n t) := h ▸ pg_lst hc hp hn hst
theorem piT (h : X.K = K) {tg l : Expr} {tl : TE} (hl : PE X l tl) : PI X tg l (iTup K tl) := h ▸ pi_tup hl
theorem piL (h : X.K = K) {tg l : Expr} {tl : TE} (hl : PE X l tl) : PI X tg l (iList K tl) := h ▸ pi_list hl
variable {o e : Expr} {es : List Expr} {to : TE} {t : TA} {name : Str} {apos cpos : Pos} {T id : String} {r : V → List V → Hp → VK → Prop}
theorem bM (h : X.K = K) (pa : PlainAttrs T) (slot : Slot T name id) (hty : typeOf (.builtin id) = pure (.type "method_descriptor")) (hm : MtR X id r) (ho : PE X o to) (ha : PA X (e :: es) t)
    (hbase : attributeBase o name X.env (eval o X.env) = eval o X.env := by rfl)
    (hfew : ((backTo cpos (starEach (e :: es) X.env)).all (fun x => !x.1) && (backToKw cpos (keywordEach [] X.env)).all (fun x => x.1.isSome)
      && decide ((e :: es).length + ([] : List Keyword).length + (if ([] : List Keyword).isEmpty then 0 else 1) < 30)) = true := by rfl)
    (hline : (apos.endLine == cpos.line) = true := by rfl) (hs : starEach (e :: es) X.env = (false, eval e X.env) :: starEach es X.env := by rfl) (hplain : (backTo cpos (starEach es X.env)).any (·.1) = false := by rfl) :
    PE X (.Call (.Attribute o name apos) (e :: es) [] cpos) (tBM K T r to t) := h ▸ pe_bm pa slot hty hm ho ha hbase hfew hline hs hplain
theorem pcDin (hu : X.A.units + 1 < cLine) {o i : Expr} {ty td : TE} (hi : PE X i ty) (ho : PE X o td) : PC X .In i o (tDIn ty td) := pc_din hu hi ho
end
end Fl
set_option autoImplicit false
set_option Elab.async false
set_option linter.all false
set_option maxRecDepth 100000
set_option maxHeartbeats 2000000
namespace Fl
open PySem PySem.Spec PyProof.Rows L2
section
variable {K : PySem.W.Frag} {env e0 e1 e2 e3 : Env} {x y z d : D} {ta tb te to : TE} {tr : TA} {rs ds es : List D} {b : Bool}
theorem got_new {σ : L2.St} {H : Hp} {own : Own} {p : Addr} {o : HO} (hp : H p = none) : ∀ {as : List Ar} {vs : List V} {G : Fr} {gh : List Gh}, Got σ H own env G gh vs as → Got σ (upd H p o) own env G gh vs as
  | [], [], _, _, g => (show EnvIs _ _ _ _ _ _ from (EnvIs.new g hp).unav)
  | [], _ :: _, _, _, g => g.elim
  | .t d :: as, [], _, _, g => by cases g
  | .n c :: as, [], _, _, g => by cases g
  | .t d :: as, v :: vs, G, gh, g => got_new hp (as := as) (vs := vs) (G := G) (gh := .t v d :: gh) g
  | .n c :: as, v :: vs, G, gh, g => by
    obtain ⟨q, ho, h1, h2, h3, h4, h5, g⟩ := g
    exact ⟨q, ho, h1, h2, h3, h4, h5, got_new hp g⟩
/-- x, y = .., .. by a tuple (a target that a block reads, too) -/
theorem ss_tupX {i j : Nat} {s s' : S} {p q : Ar} (h : EX K tr env e1 [p, q]) (hij : i ≠ j) (he : e1[i]? = some s) (hs : s.isPm = false) (he' : e1[j]? = some s') (hs' : s'.isPm = false) : SS K (tAsg (tTup tr) (gTup K 2 (gCons (gName i) (gCons (gName j) gNil)))) env (.next ((e1.set j q.s).set i p.s)) := fun G gh σ H own Dn hK I k =>
  h G gh σ H own _ hK I fun vs H' g => by
    have hl := got_len g
    match vs, hl with
    | [v, w], _ =>
      refine ⟨szOk (show 2 ≤ 1000000 by decide), fun l hl => ?_⟩
      refine ⟨l, [v, w], rfl, SqT.of upd_same, rfl, v, [w], rfl, w, [], rfl, rfl, ?_⟩
      obtain ⟨own', J⟩ := got_set (is := [i, j]) (got_new (o := .tup [v, w]) hl g) rfl (by simp [hij]) (by
        intro m hm
        rcases List.mem_cons.mp hm with rfl | hm
        · exact ⟨s, he, hs⟩
        · have : m = j := by simpa using hm
          subst this
          exact ⟨s', he', hs'⟩)
      have e : (σ.set i (some v)).set j (some w) = (σ.set j (some w)).set i (some v) := List.set_comm _ _ hij
      rw [e]
      exact k _ _ _ J
theorem ss_tup3X {i j l : Nat} {s s' s'' : S} {p q r : Ar} (h : EX K tr env e1 [p, q, r]) (hij : i ≠ j) (hil : i ≠ l) (hjl : j ≠ l) (he : e1[i]? = some s) (hs : s.isPm = false) (he' : e1[j]? = some s') (hs' : s'.isPm = false) (he'' : e1[l]? = some s'') (hs'' : s''.isPm = false) :
    SS K (tAsg (tTup tr) (gTup K 3 (gCons (gName i) (gCons (gName j) (gCons (gName l) gNil))))) env (.next (((e1.set l r.s).set j q.s).set i p.s)) := fun G gh σ H own Dn hK I k =>
  h G gh σ H own _ hK I fun vs H' g => by
    have hl := got_len g
    match vs, hl with
    | [v, w, x], _ =>
      refine ⟨szOk (show 3 ≤ 1000000 by decide), fun m hm => ?_⟩
      refine ⟨m, [v, w, x], rfl, SqT.of upd_same, rfl, v, [w, x], rfl, w, [x], rfl, x, [], rfl, rfl, ?_⟩
      obtain ⟨own', J⟩ := got_set (is := [i, j, l]) (got_new (o := .tup [v, w, x]) hm g) rfl (by simp [hij, hil, hjl]) (by
        intro m hm
        rcases List.mem_cons.mp hm with rfl | hm
        · exact ⟨s, he, hs⟩
        · rcases List.mem_cons.mp hm with rfl | hm
          · exact ⟨s', he', hs'⟩
          · have : m = l := by simpa using hm
            subst this
            exact ⟨s'', he'', hs''⟩)
      have e : ((σ.set i (some v)).set j (some w)).set l (some x) = ((σ.set l (some x)).set j (some w)).set i (some v) := by
        rw [List.set_comm (some v) (some w) hij, List.set_comm (some v) (some x) hil, List.set_comm (some w) (some x) hjl]
      rw [e]
      exact k _ _ _ J
end
end Fl
set_option autoImplicit false
set_option Elab.async false
set_option linter.all false
set_option maxRecDepth 100000
set_option maxHeartbeats 2000000
namespace Fl
open PySem PySem.Spec PyProof.Rows L2
section
variable {K : PySem.W.Frag} {env e0 e1 e2 e3 : Env} {x y z d : D} {ta tb te to : TE} {tr : TA} {tt tt' : TT} {t u : TS} {rs ds es : List D} {a b : Bool} {out : Out}
/-! ### what may come out -/
/-- a statement ends in one of P -/
def SD (K : PySem.W.Frag) (t : TS) (env : Env) (P : Out → Prop) : Prop := ∀ (G : Fr) (gh : List Gh) (σ : L2.St) (H : Hp) (own : Own) (Dn : Ends), G.K = K → EnvIs G gh σ H own env → (∀ out, P out → OutOk G gh Dn out) → t Dn σ H
def ED (K : PySem.W.Frag) (te : TE) (env : Env) (P : Env → D → Prop) : Prop := ∀ (G : Fr) (gh : List Gh) (σ : L2.St) (H : Hp) (own : Own) (Q : VK), G.K = K → EnvIs G gh σ H own env →
  (∀ e d v H', P e d → EnvIs G gh σ H' own e → Is K (avd G own) H' v d → Q v H') → te σ H Q
def TD (K : PySem.W.Frag) (tt : TT) (env : Env) (P : Env → Bool → Prop) : Prop := ∀ (G : Fr) (gh : List Gh) (σ : L2.St) (H : Hp) (own : Own) (Q : Bool → Hp → Prop), G.K = K → EnvIs G gh σ H own env →
  (∀ e b H', P e b → EnvIs G gh σ H' own e → Q b H') → tt σ H Q
variable {P : Out → Prop} {PE' : Env → D → Prop} {PT : Env → Bool → Prop}
theorem sd_of (h : SS K t env out) (hp : P out) : SD K t env P := fun G gh σ H own Dn hK I q => h G gh σ H own Dn hK I (q _ hp)
theorem ed_of (h : EE K te env e1 d) (hp : PE' e1 d) : ED K te env PE' := fun G gh σ H own Q hK I q => h G gh σ H own Q hK I fun v H' I' i => q _ _ v H' hp I' i
theorem td_of (h : ET K tt env e1 b) (hp : PT e1 b) : TD K tt env PT := fun G gh σ H own Q hK I q => h G gh σ H own Q hK I fun H' I' => q _ _ H' hp I'
/-- what the first one's end asks of the second one -/
def Then (K : PySem.W.Frag) (u : TS) (P : Out → Prop) : Out → Prop
  | .next e => SD K u e P
  | .ret e d => P (.ret e d)
  | .brk e => P (.brk e)
  | .cont e => P (.cont e)
theorem sd_seq (h : SD K t env (Then K u P)) : SD K (tSeq t u) env P := fun G gh σ H own Dn hK I q => by
  refine h G gh σ H own _ hK I fun out ho => ?_
  cases out with
  | next e => exact fun σ' H' own' I' => ho G gh σ' H' own' Dn hK I' q
  | ret e d => exact q _ ho
  | brk e => exact q _ ho
  | cont e => exact q _ ho
theorem sd_next (hp : P (.next env)) : SD K tNext env P := sd_of ss_next hp
theorem sd_ret (h : ED K te env fun e d => P (.ret e d)) : SD K (tRet te) env P := fun G gh σ H own Dn hK I q =>
  h G gh σ H own _ hK I fun e d v H' hp I' i => q _ hp σ H' own v I' (hK ▸ i)
theorem sd_asg {i : Nat} (h : ED K te env fun e d => (∃ s, e[i]? = some s ∧ s.isPm = false) ∧ P (.next (e.set i (.d d)))) : SD K (tAsg te (gName i)) env P := fun G gh σ H own Dn hK I q =>
  h G gh σ H own _ hK I fun e d v H' hp I' i1 => by
    obtain ⟨⟨s, h1, h2⟩, hp⟩ := hp
    exact q _ hp _ _ _ (I'.set h1 h2 (hK ▸ i1))
theorem sd_drop (h : ED K te env fun e _ => P (.next e)) : SD K (tDrop te) env P := fun G gh σ H own Dn hK I q =>
  h G gh σ H own _ hK I fun e d v H' hp I' i => q _ hp σ H' own I'
theorem sd_if (h : TD K tt env fun e b => if b = true then SD K t e P else SD K u e P) : SD K (tIfS tt t u) env P := fun G gh σ H own Dn hK I q =>
  h G gh σ H own _ hK I fun e b H' hp I' => by
    cases b with
    | true => exact hp G gh σ H' own Dn hK I' q
    | false => exact hp G gh σ H' own Dn hK I' q
theorem sd_pre (h : Sub env e1) (h1 : SD K t e1 P) : SD K t env P := fun G gh σ H own Dn hK I q => by
  obtain ⟨o, J⟩ := h G gh σ H own I
  exact h1 G gh σ H o Dn hK J q
theorem td_test (h : ED K te env fun e d => ∃ b, d = .bool b ∧ PT e b) : TD K (tTest te) env PT := fun G gh σ H own Q hK I q =>
  h G gh σ H own _ hK I fun e d v H' hp I' i => by
    obtain ⟨b, rfl, hp⟩ := hp
    cases i
    exact ⟨b, rfl, q _ _ _ hp I'⟩
theorem td_not (h : TD K tt env fun e b => PT e (!b)) : TD K (tNot tt) env PT := fun G gh σ H own Q hK I q =>
  h G gh σ H own _ hK I fun e b H' hp I' => q _ _ _ hp I'
theorem td_or (h : TD K tt env fun e b => if b = true then PT e true else TD K tt' e PT) : TD K (tOr tt tt') env PT := fun G gh σ H own Q hK I q =>
  h G gh σ H own _ hK I fun e b H' hp I' => by
    cases b with
    | true => exact q _ _ _ hp I'
    | false => exact hp G gh σ H' own Q hK I' q
theorem td_and (h : TD K tt env fun e b => if b = true then TD K tt' e PT else PT e false) : TD K (tAnd tt tt') env PT := fun G gh σ H own Q hK I q =>
  h G gh σ H own _ hK I fun e b H' hp I' => by
    cases b with
    | true => exact hp G gh σ H' own Q hK I' q
    | false => exact q _ _ _ hp I'
/-- a loop's body: on to the next turn, or out -/
def Go (Inv : Env → Prop) (P : Out → Prop) : Out → Prop
  | .next e => Inv e
  | .cont e => Inv e
  | .brk e => P (.next e)
  | .ret e d => P (.ret e d)
theorem sd_for {wi : TI} {g : TG} {ds : List D} (h : EI K wi env e0 ds) (Inv : Nat → Env → Prop) (h0 : Inv 0 e0) (hs : ∀ i d e, ds[i]? = some d → Inv i e → ∃ ts e1, GG K g d ts e e1 ∧ SD K t e1 (Go (Inv (i + 1)) P)) (he : ∀ e, Inv ds.length e → P (.next e)) : SD K (tFor wi g t) env P := fun G gh σ H own Dn hK I q => by
  refine h G gh σ H own _ hK I fun J gi H1 hJ hgi I1 => ?_
  refine ⟨fun i n σ' H' => i + n = ds.length ∧ ∃ e own', Inv i e ∧ EnvIs G (gi ++ gh) σ' H' own' e, ⟨ds.length, Nat.zero_add _, e0, own, h0, I1⟩, ?_⟩
  rintro i n σ' H' ⟨hin, e, own', hi0, I3⟩
  by_cases hi : i < ds.length
  · refine .inr ⟨hJ.go G gh σ' H' own' _ i hK I3 hi, fun σ2 H2 => ∃ e own2, Inv (i + 1) e ∧ EnvIs G (gi ++ gh) σ2 H2 own2 e, fun σ2 H2 ⟨e, own2, h4, I4⟩ => ⟨n - 1, by omega, by omega, e, own2, h4, I4⟩, fun v H4 hy => ?_⟩
    have hd := List.getElem?_eq_getElem hi
    obtain ⟨I5, i5⟩ := hJ.yld G gh σ' H' own' _ i _ v H4 hK I3 hd hy
    obtain ⟨ts, e1, hg, hb⟩ := hs i _ e hd hi0
    refine hg G _ σ' H4 own' v _ hK I5 i5 fun σ6 own6 I6 _ => ?_
    refine hb G _ σ6 H4 own6 _ hK I6 fun out ho => ?_
    cases out with
    | next e2 => exact fun σ7 H7 own7 I7 => ⟨e2, own7, ho, I7⟩
    | cont e2 => exact fun σ7 H7 own7 I7 => ⟨e2, own7, ho, I7⟩
    | brk e2 => exact fun σ7 H7 own7 I7 => q _ ho σ7 H7 own7 (gh_drop I7)
    | ret e2 d => exact fun σ7 H7 own7 v7 I7 i7 => q _ ho σ7 H7 own7 v7 (gh_drop I7) i7
  · have e2 : i = ds.length := by omega
    subst e2
    exact .inl ⟨hJ.stop G gh σ' H' own' _ hK I3, q _ (he _ hi0) σ' H' own' (gh_drop I3)⟩
/-- while: m bounds the turns that are left -/
theorem sd_while {tc : TT} (Inv : Nat → Env → Prop) (n : Nat) (h0 : Inv n env) (hs : ∀ m e, Inv m e → TD K tc e fun e1 b => if b = true then 0 < m ∧ SD K t e1 (Go (Inv (m - 1)) P) else P (.next e1)) : SD K (tWhile tc t) env P := fun G gh σ H own Dn hK I q => by
  refine ⟨fun m σ' H' => ∃ e own', Inv m e ∧ EnvIs G gh σ' H' own' e, ⟨n, env, own, h0, I⟩, ?_⟩
  rintro m σ' H' ⟨e, own', hi, I3⟩
  refine hs m e hi G gh σ' H' own' _ hK I3 fun e1 b H4 hp I4 => ?_
  cases b with
  | true =>
    have hp : 0 < m ∧ SD K t e1 (Go (Inv (m - 1)) P) := hp
    show if true = true then _ else _
    rw [if_pos rfl]
    refine ⟨fun σ2 H2 => ∃ e own2, Inv (m - 1) e ∧ EnvIs G gh σ2 H2 own2 e, fun σ2 H2 hh => ⟨m - 1, by omega, hh⟩, ?_⟩
    refine hp.2 G gh σ' H4 own' _ hK I4 fun out ho => ?_
    cases out with
    | next e2 => exact fun σ7 H7 own7 I7 => ⟨e2, own7, ho, I7⟩
    | cont e2 => exact fun σ7 H7 own7 I7 => ⟨e2, own7, ho, I7⟩
    | brk e2 => exact fun σ7 H7 own7 I7 => q _ ho σ7 H7 own7 I7
    | ret e2 d => exact fun σ7 H7 own7 v7 I7 i7 => q _ ho σ7 H7 own7 v7 I7 i7
  | false =>
    have hp : P (.next e1) := hp
    show if false = true then _ else _
    rw [if_neg Bool.false_ne_true]
    exact q _ hp σ' H4 own' I4
/-! ### defs -/
def Fin (d : D) : Out → Prop
  | .ret _ d' => d' = d
  | .next _ => d = .none
  | _ => False
def FinO (Po : Ct → D → Prop) : Out → Prop
  | .ret e d => ∃ c', e[0]? = some (.o true c') ∧ Po c' d
  | .next e => ∃ c', e[0]? = some (.o true c') ∧ Po c' .none
  | _ => False
theorem fn_D {Pg : Program} {w : World} {mg : Str → Option Value} {base : Heap} {xn qual : Str} {params : Arguments} {body : List Stmt} {scope : Scope} {dvs : List V} {kws : List (Str × V)} {fa : Addr} {fd : FuncData} {N ps : List Str} {k : Nat} {f : List D → D → Prop}
    (Fd : FunD K xn qual params body scope dvs kws fa fd) (Sc : FnScope N ps scope) (hlen : ∀ ds d, f ds d → ds.length = ps.length)
    (hbody : ∀ (cdv : Value) (A : Around) (outer : List PySem.Env) (s : Shared) (H : Hp) (E : XK), Room k (A.deeper (envOfC qual scope s.heap.objs.size fa cdv)) →
      ∃ t, PSs (cxOf CX0 Pg w K mg base N qual scope fa cdv A outer s H E).nox body t ∧ ∀ ds d, f ds d → SD K t (ds.map S.d ++ List.replicate (N.length - ps.length) .any) (Fin d)) : FnOk Pg w K mg base CX0 (k + 1) fa fd ps (spP K f) := by
  refine Fd.ok Sc (fun vs H Q E h => ?_) (fun cdv A outer s H vs Q E hr h => ?_)
  · obtain ⟨A0, ds, d, h1, _, h2, _⟩ := h
    rw [h1.len]
    exact hlen ds d h2
  · obtain ⟨A0, ds, d, h1, h3, h2, q⟩ := h
    obtain ⟨t, ht, hs⟩ := hbody cdv A outer s H E hr
    refine ⟨t, ht.nox, ?_⟩
    have hl := hlen ds d h2
    have I := env_start (n := N.length - ps.length) h1 h3
    have hst : L2.start N vs = vs.map some ++ List.replicate (N.length - ps.length) none := by
      unfold L2.start
      rw [h1.len, hl]
    rw [hst]
    have hend : ∀ (σ : L2.St) (H' : Hp) (own : Own) (e : Env) (v : V), EnvIs ⟨K, A0, fun _ => False, H, noOwn, fun _ h => h.elim⟩ [] σ H' own e → Is K (avd (⟨K, A0, fun _ => False, H, noOwn, fun _ h => h.elim⟩ : Fr) own) H' v d → Q v H' := fun σ H' own e v I' i' =>
      q v H' (fun a o ho => I'.keep a o ho fun i z => by cases z) (Is.move (fun a u h1 h2 => ⟨h2, fun z => h1 (Or.inl z)⟩) _ _ i')
    refine hs ds d h2 _ [] _ H noOwn _ rfl I fun out ho => ?_
    cases out with
    | ret e d' =>
      cases (show d' = d from ho)
      exact fun σ H' own v I' i' => hend σ H' own e v I' i'
    | next e =>
      have ho : d = .none := ho
      subst ho
      exact fun σ H' own I' => hend σ H' own e .non I' .non
    | brk e => exact ho.elim
    | cont e => exact ho.elim
/-- the first argument is an object that the def changes: Pre its content and the arguments, Post its content behind and the result -/
def spN (K : PySem.W.Frag) (Pre : Ct → List D → Prop) (Post : Ct → List D → Ct → D → Prop) : Sp := fun vs H Q _ => ∃ (A0 : Addr → Prop) (p : Addr) (ho : HO) (c : Ct) (ws : List V) (ds : List D), vs = .ref p :: ws ∧ H p = some ho ∧ CtIs K A0 H ho c ∧ A0 p ∧ IsAll K A0 H ws ds ∧ (∀ a, A0 a → H a ≠ none) ∧ Pre c ds ∧
  ∀ c' d v H' ho', Post c ds c' d → (∀ a o, a ≠ p → H a = some o → H' a = some o) → H' p = some ho' → CtIs K A0 H' ho' c' → Is K A0 H' v d → Q v H'
theorem ed_callN {Pre : Ct → List D → Prop} {Post : Ct → List D → Ct → D → Prop} {E : XK} {ds : List D} {i : Nat} {pm pm0 : Bool} {c0 c : Ct} (h0 : env[i]? = some (.o pm0 c0)) (h : EA K tr env e1 ds) (h1 : e1[i]? = some (.o pm c)) (hf : Pre c ds) (hp : ∀ c' d, Post c ds c' d → PE' (e1.set i (.o pm c')) d) :
    ED K (tCall (spN K Pre Post) [] E (tCons (tVar i) tr)) env PE' := fun G gh σ H own Q hK I q => by
  obtain ⟨p, ho, g1, g2, _, _⟩ := own_var I h0
  refine ⟨_, g2, ?_⟩
  refine h G gh σ H own _ hK I fun vs H1 I1 i1 => ?_
  obtain ⟨ho', g5, g6⟩ := own_same I1 h1 g1
  show spN K Pre Post ((.ref p :: vs) ++ []) H1 Q E
  rw [List.append_nil]
  refine ⟨avd G own, p, ho', c, vs, ds, rfl, g5, hK ▸ g6, Or.inr ⟨i, g1⟩, i1, fun a ha => ?_, hf, fun c' d v H' ho2 hpo hx hpp hc i2 => q _ _ v H' (hp c' d hpo) (I1.changeX h1 g1 hx hpp (hK.symm ▸ hc)) i2⟩
  rcases ha with ha | ⟨i, ha⟩
  · exact I1.a0 a ha
  · obtain ⟨_, _, _, _, _, _, h4, _⟩ := I1.own_known ha
    rw [h4]; simp
theorem fn_N {Pg : Program} {w : World} {mg : Str → Option Value} {base : Heap} {xn qual : Str} {params : Arguments} {body : List Stmt} {scope : Scope} {dvs : List V} {kws : List (Str × V)} {fa : Addr} {fd : FuncData} {N ps : List Str} {k : Nat} {Pre : Ct → List D → Prop} {Post : Ct → List D → Ct → D → Prop}
    (Fd : FunD K xn qual params body scope dvs kws fa fd) (Sc : FnScope N ps scope) (hlen : ∀ c ds, Pre c ds → ds.length + 1 = ps.length)
    (hbody : ∀ (cdv : Value) (A : Around) (outer : List PySem.Env) (s : Shared) (H : Hp) (E : XK), Room k (A.deeper (envOfC qual scope s.heap.objs.size fa cdv)) →
      ∃ t, PSs (cxOf CX0 Pg w K mg base N qual scope fa cdv A outer s H E).nox body t ∧ ∀ c ds, Pre c ds → SD K t ((.o true c :: ds.map S.d) ++ List.replicate (N.length - ps.length) .any) (FinO (Post c ds))) : FnOk Pg w K mg base CX0 (k + 1) fa fd ps (spN K Pre Post) := by
  refine Fd.ok Sc (fun vs H Q E h => ?_) (fun cdv A outer s H vs Q E hr h => ?_)
  · obtain ⟨A0, p, ho, c, ws, ds, rfl, _, _, _, h1, _, h2, _⟩ := h
    rw [List.length_cons, h1.len]
    exact hlen c ds h2
  · obtain ⟨A0, p, ho, c, ws, ds, rfl, g1, g2, g3, h1, h3, h2, q⟩ := h
    obtain ⟨t, ht, hs⟩ := hbody cdv A outer s H E hr
    refine ⟨t, ht.nox, ?_⟩
    have hl := hlen c ds h2
    have I := env_startO (n := N.length - ps.length) g1 g2 g3 h1 h3
    have hst : L2.start N (V.ref p :: ws) = (V.ref p :: ws).map some ++ List.replicate (N.length - ps.length) none := by
      unfold L2.start
      rw [List.length_cons, h1.len, hl]
    rw [hst]
    have hend : ∀ (c' : Ct) (d : D) (σ : L2.St) (H' : Hp) (own : Own) (e : Env) (v : V), Post c ds c' d → EnvIs (fr1 K A0 H p) [] σ H' own e → e[0]? = some (.o true c') → Is K (avd (fr1 K A0 H p) own) H' v d → Q v H' := fun c' d σ H' own e v hpo I' he i' => by
      obtain ⟨p', ho', k1, k2, k3, k4, k5⟩ := I'.slot 0 _ he
      have e1 : some p = some p' := k2
      cases e1
      have hA : ∀ a u, ¬ avd (fr1 K A0 H p) own a → Rd H' a u → Rd H' a u ∧ ¬ A0 a := fun a u z1 z2 => ⟨z2, fun z => z1 (by
        by_cases ea : a = p
        · exact Or.inr ⟨0, ea ▸ k1⟩
        · exact Or.inl ⟨z, ea⟩)⟩
      refine q c' d v H' ho' hpo (fun a o ha ho => I'.keep a o ho fun i z => ha (own1_some z).2) k4 (CtIs.move hA k5) (Is.move hA _ _ i')
    refine hs c ds h2 _ [] _ H (own1 p) _ rfl I fun out ho => ?_
    cases out with
    | ret e d =>
      obtain ⟨c', he, hpo⟩ := ho
      exact fun σ H' own v I' i' => hend c' d σ H' own e v hpo I' he i'
    | next e =>
      obtain ⟨c', he, hpo⟩ := ho
      exact fun σ H' own I' => hend c' .none σ H' own e .non hpo I' he .non
    | brk e => exact ho.elim
    | cont e => exact ho.elim
end
end Fl
namespace Fl
open PySem PySem.Spec PyProof.Rows L2
section
variable {K : PySem.W.Frag} {env e1 : Env} {d : D} {tr : TA}
/-- a call whose end is one thing -/
theorem ee_callF {Pre : Ct → List D → Prop} {Post : Ct → List D → Ct → D → Prop} {E : XK} {ds : List D} {i : Nat} {pm pm0 : Bool} {c0 c c' : Ct} (h0 : env[i]? = some (.o pm0 c0)) (h : EA K tr env e1 ds) (h1 : e1[i]? = some (.o pm c)) (hf : Pre c ds) (hp : ∀ c2 d2, Post c ds c2 d2 → c2 = c' ∧ d2 = d) :
    EE K (tCall (spN K Pre Post) [] E (tCons (tVar i) tr)) env (e1.set i (.o pm c')) d := fun G gh σ H own Q hK I q =>
  ed_callN (PE' := fun e x => e = e1.set i (.o pm c') ∧ x = d) h0 h h1 hf (fun c2 d2 h => by rw [(hp c2 d2 h).1, (hp c2 d2 h).2]; exact ⟨rfl, rfl⟩) G gh σ H own Q hK I fun e x v H' ⟨h2, h3⟩ I' i' => by
    subst h2; subst h3
    exact q v H' I' i'
end
end Fl
namespace Fl
open PySem PySem.Spec PyProof.Rows L2
section
variable {K : PySem.W.Frag} {env e1 : Env} {d : D} {tt : TT} {t u : TS} {b : Bool} {P : Out → Prop}
theorem sd_ifT (h : ET K tt env e1 b) (hb : b = true) (h1 : SD K t e1 P) : SD K (tIfS tt t u) env P := by
  subst hb
  exact sd_if (td_of h (by rw [if_pos rfl]; exact h1))
theorem sd_ifF (h : ET K tt env e1 b) (hb : b = false) (h1 : SD K u e1 P) : SD K (tIfS tt t u) env P := by
  subst hb
  exact sd_if (td_of h (by rw [if_neg Bool.false_ne_true]; exact h1))
end
end Fl
set_option autoImplicit false
set_option Elab.async false
set_option linter.all false
set_option maxRecDepth 100000
set_option maxHeartbeats 2000000
namespace Fl
open PySem PySem.Spec PyProof.Rows L2
def S.isD : S → Bool
  | .d _ => true
  | _ => false
def S.isFree : S → Bool
  | .o _ _ => false
  | _ => true
/-- a comprehension's own names, by look -/
def cokB (e1 : Env) (ts vs : List Nat) : Bool := (ts.all fun j => vs.contains j) && (ts.all fun j => match e1[j]? with | some s => s.isD | none => false) && (vs.all fun j => match e1[j]? with | some s => s.isFree | none => true)
theorem cok_in {e1 : Env} {ts vs : List Nat} (h : cokB e1 ts vs = true) : (∀ j, j ∈ ts → j ∈ vs) ∧ (∀ j, j ∈ ts → ∃ d, e1[j]? = some (.d d)) ∧ Pure e1 vs := by
  unfold cokB at h
  rw [Bool.and_eq_true, Bool.and_eq_true] at h
  obtain ⟨⟨h1, h2⟩, h3⟩ := h
  rw [List.all_eq_true] at h1 h2 h3
  refine ⟨fun j hj => ?_, fun j hj => ?_, fun j s hj hs => ?_⟩
  · exact List.contains_iff_mem.mp (h1 j hj)
  · have := h2 j hj
    cases e : e1[j]? with
    | none => rw [e] at this; cases this
    | some s =>
      rw [e] at this
      cases s with
      | d x => exact ⟨x, rfl⟩
      | any => cases this
      | o _ _ => cases this
  · have := h3 j hj
    rw [hs] at this
    cases s with
    | d x => exact Or.inl ⟨x, rfl⟩
    | any => exact Or.inr rfl
    | o _ _ => cases this
def anyB (e0 : Env) (vs : List Nat) : Bool := vs.all fun j => match e0[j]? with | some .any => true | some _ => false | none => true
theorem any_in {e0 : Env} {vs : List Nat} (h : anyB e0 vs = true) : ∀ j, j ∈ vs → j < e0.length → e0[j]? = some .any := fun j hj hl => by
  have := List.all_eq_true.mp h j hj
  rw [List.getElem?_eq_getElem hl] at this ⊢
  split at this
  · rename_i e; rw [e]
  · cases this
  · rename_i e; cases e
section
variable {K : PySem.W.Frag} {env e0 e1 e2 : Env} {te : TE} {tt : TT} {wi : TI} {g : TG} {vs : List Nat} {ds ys : List D}
theorem en_lcF (h : EI K wi env e0 ds) (hl : ys.length = ds.length) (hz : ds.length ≤ 1000000) (hv : anyB e0 vs = true)
    (hs : ∀ (i : Nat) (d y : D), ds[i]? = some d → ys[i]? = some y → ∃ ts e1, GG K g d ts e0 e1 ∧ ET K tt e1 e1 true ∧ EE K te e1 e1 y ∧ cokB e1 ts vs = true ∧ wipeE e1 vs = e0) : EN K (tLc wi g tt te vs) env e0 (.lst ys) :=
  en_lcS h hl hz (any_in hv) fun i d y hd hy => by
    obtain ⟨ts, e1, g1, g2, g3, g4, g5⟩ := hs i d y hd hy
    obtain ⟨h1, h2, h3⟩ := cok_in g4
    exact ⟨ts, e1, g1, h1, h2, g2, g3, h3, g5⟩
/-- all([.. for ..]), each one true -/
theorem ee_allLc (h : EI K wi env e0 ds) (hz : ds.length ≤ 1000000) (hv : anyB e0 vs = true)
    (hs : ∀ (i : Nat) (d : D), ds[i]? = some d → ∃ ts e1, GG K g d ts e0 e1 ∧ ET K tt e1 e1 true ∧ EE K te e1 e1 (.bool true) ∧ cokB e1 ts vs = true ∧ wipeE e1 vs = e0) : EE K (tCB (rAll K) (tCons (tLc wi g tt te vs) tNil)) env e0 (.bool true) := by
  have hn := en_lcF (ys := (List.replicate ds.length true).map PyData.bool) (tt := tt) (te := te) (g := g) h (by simp) hz hv fun i d y hd hy => by
    obtain ⟨ts, e1, g1, g2, g3, g4, g5⟩ := hs i d hd
    have e : y = .bool true := by
      rw [List.getElem?_map] at hy
      obtain ⟨b, hb, rfl⟩ := Option.map_eq_some_iff.mp hy
      have := List.eq_of_mem_replicate (List.mem_of_getElem? hb)
      rw [this]
    subst e
    exact ⟨ts, e1, g1, g2, g3, g4, g5⟩
  have key := ee_cb (ea_cons hn.tree ea_nil) (rc_all (K := K) (bs := List.replicate ds.length true))
  have e : (List.replicate ds.length true).all id = true := by
    rw [List.all_eq_true]
    intro b hb
    exact List.eq_of_mem_replicate hb
  rw [e] at key
  exact key
theorem en_lcPF (h : EI K wi env e0 ds) (P : Nat → Env → List D → Prop) (h0 : P 0 e0 []) (hz : ds.length ≤ 1000000) (hv : anyB e0 vs = true)
    (hs : ∀ i d e acc, ds[i]? = some d → P i e acc → acc.length = i → ∃ ts e1 e2 e3 y, GG K g d ts e e1 ∧ ET K tt e1 e2 true ∧ EE K te e2 e3 y ∧ cokB e1 ts vs = true ∧ cokB e3 [] vs = true ∧ P (i + 1) (wipeE e3 vs) (acc ++ [y])) :
    ∃ e ys, ys.length = ds.length ∧ P ds.length e ys ∧ EN K (tLc wi g tt te vs) env e (.lst ys) :=
  en_lcP h P h0 hz (any_in hv) fun i d e acc hd hp ha => by
    obtain ⟨ts, e1, e2, e3, y, g1, g2, g3, g4, g5, g6⟩ := hs i d e acc hd hp ha
    obtain ⟨h1, h2, _⟩ := cok_in g4
    exact ⟨ts, e1, e2, e3, y, g1, h1, h2, g2, g3, (cok_in g5).2.2, g6⟩
end
end Fl
namespace Fl
open PySem PySem.Spec PyProof.Rows L2
section
variable {K : PySem.W.Frag} {env : Env} {d : D} {ta tb : TE} {tt : TT} {b : Bool}
theorem ee_ifP (h : ET K tt env env b) (h1 : b = true → EE K ta env env d) (h2 : b = false → EE K tb env env d) : EE K (tIf tt ta tb) env env d := ee_if h h1 h2
end
end Fl
namespace Fl
open PySem PySem.Spec PyProof.Rows L2
section
variable {K : PySem.W.Frag} {env : Env}
theorem ee_lenK {i : Nat} {pm : Bool} {kvs : List (Key × D)} (h : env[i]? = some (.o pm (.dk kvs))) : EE K (tCB (fun xs H Q => ∃ a kvs, xs = [V.ref a] ∧ H a = some (.dK kvs) ∧ Q (.int kvs.length) H) (tCons (tVar i) tNil)) env env (.int kvs.length) := fun G gh σ H own Q hK I q => by
  obtain ⟨p, ho, h1, h2, h3, h4⟩ := own_var I h
  obtain ⟨vs, rfl, h5⟩ := h4.dk_inv
  exact ⟨_, h2, p, vs, rfl, h3, by rw [h5.len]; exact q _ _ I (.int _)⟩
end
end Fl
namespace Fl
open PySem PySem.Spec PyProof.Rows L2
section
variable {K : PySem.W.Frag} {env : Env} {x y z d : D} {ta tb te : TE} {tr : TA}
theorem ee_callP {f : List D → D → Prop} {E : XK} {ds : List D} (h : EA K tr env env ds) (hf : f ds d) : EE K (tCall (spP K f) [] E tr) env env d := ee_call h hf
theorem ee_opP {r : R2} (ha : EE K ta env env x) (hb : EE K tb env env y) (hr : RR K r x y z) : EE K (tOp r ta tb) env env z := ee_op ha hb hr
theorem ea_consP {ds : List D} (h : EE K te env env x) (hr : EA K tr env env ds) : EA K (tCons te tr) env env (x :: ds) := ea_cons h hr
end
end Fl
set_option autoImplicit false
set_option Elab.async false
set_option linter.all false
set_option maxRecDepth 100000
set_option maxHeartbeats 2000000
namespace Fl
open PySem PySem.Spec PyProof.Rows L2
section
variable {K : PySem.W.Frag} {env e0 e1 e2 : Env} {x y z d : D} {ta tb te : TE} {tr : TA} {tt : TT} {t u : TS} {a b : Bool} {P : Out → Prop} {c : Ct} {ds : List D}
/-- a statement goes on, with M behind -/
def Only (M : Env → Prop) : Out → Prop
  | .next e => M e
  | _ => False
theorem sd_mid (M : Env → Prop) (h : SD K t env (Only M)) (h2 : ∀ e, M e → SD K u e P) : SD K (tSeq t u) env P := sd_seq fun G gh σ H own Dn hK I q => h G gh σ H own Dn hK I fun out ho => by
  cases out with
  | next e => exact q _ (show Then K u P (.next e) from h2 e ho)
  | ret e d => exact ho.elim
  | brk e => exact ho.elim
  | cont e => exact ho.elim
/-! ### defs that make a new object -/
def spW (K : PySem.W.Frag) (f : List D → Ct → Prop) : Sp := fun vs H Q _ => ∃ (A0 : Addr → Prop) (ds : List D) (c : Ct), IsAll K A0 H vs ds ∧ (∀ a, A0 a → H a ≠ none) ∧ f ds c ∧
  ∀ p ho H', H p = none → (∀ a o, H a = some o → H' a = some o) → H' p = some ho → CtIs K (fun a => A0 a ∨ a = p) H' ho c → Q (.ref p) H'
theorem en_callW {f : List D → Ct → Prop} {E : XK} (h : EA K tr env e1 ds) (hf : f ds c) : EN K (tCall (spW K f) [] E tr) env e1 c := fun G gh σ H own Q hK I q => by
  refine h G gh σ H own _ hK I fun vs H1 I1 i1 => ?_
  rw [List.append_nil]
  refine ⟨avd G own, ds, c, i1, fun a ha => ?_, hf, fun p ho H' hp hx hp' hc => ?_⟩
  · rcases ha with ha | ⟨i, ha⟩
    · exact I1.a0 a ha
    · obtain ⟨_, _, _, _, _, _, h4, _⟩ := I1.own_known ha
      rw [h4]; simp
  · obtain ⟨n1, n2, n3, n4⟩ := I1.new_out hp
    refine q p ho H' ((I1.new (o := ho) hp).ext fun a o e => ?_) n1 n3 hp' (CtIs.move (fun a u h1 h2 => ⟨h2, fun z => h1 ?_⟩) hc)
    · by_cases ea : a = p
      · rw [ea, upd_same] at e
        rw [ea, hp']; exact e
      · rw [upd_ne ea] at e
        exact hx a o e
    · rcases z with (z | z) | z
      · exact Or.inl (Or.inl z)
      · exact Or.inr z
      · exact Or.inl (Or.inr z)
def SN (K : PySem.W.Frag) (t : TS) (env : Env) (c : Ct) : Prop := ∀ (G : Fr) (gh : List Gh) (σ : L2.St) (H : Hp) (own : Own) (Dn : Ends), G.K = K → EnvIs G gh σ H own env →
  (∀ p ho σ' own' env' H', EnvIs (G.av p) gh σ' H' own' env' → ¬ G.A0 p → G.B p = none → H' p = some ho → CtIs K (avd (G.av p) own') H' ho c → Dn.rt (.ref p) H') → t Dn σ H
theorem sn_ret (h : EN K te env e1 c) : SN K (tRet te) env c := fun G gh σ H own Dn hK I q => h G gh σ H own _ hK I fun p ho H' I' n1 n2 hp hc => q p ho σ own e1 H' I' n1 n2 hp hc
theorem fn_new {Pg : Program} {w : World} {mg : Str → Option Value} {base : Heap} {xn qual : Str} {params : Arguments} {body : List Stmt} {scope : Scope} {dvs : List V} {kws : List (Str × V)} {fa : Addr} {fd : FuncData} {N ps : List Str} {k : Nat} {f : List D → Ct → Prop}
    (Fd : FunD K xn qual params body scope dvs kws fa fd) (Sc : FnScope N ps scope) (hlen : ∀ ds d, f ds d → ds.length = ps.length)
    (hbody : ∀ (cdv : Value) (A : Around) (outer : List PySem.Env) (s : Shared) (H : Hp) (E : XK), Room k (A.deeper (envOfC qual scope s.heap.objs.size fa cdv)) →
      ∃ t, PSs (cxOf CX0 Pg w K mg base N qual scope fa cdv A outer s H E).nox body t ∧ ∀ ds d, f ds d → SN K t (ds.map S.d ++ List.replicate (N.length - ps.length) .any) d) : FnOk Pg w K mg base CX0 (k + 1) fa fd ps (spW K f) := by
  refine Fd.ok Sc (fun vs H Q E h => ?_) (fun cdv A outer s H vs Q E hr h => ?_)
  · obtain ⟨A0, ds, d, h1, _, h2, _⟩ := h
    rw [h1.len]
    exact hlen ds d h2
  · obtain ⟨A0, ds, d, h1, h3, h2, q⟩ := h
    obtain ⟨t, ht, hs⟩ := hbody cdv A outer s H E hr
    refine ⟨t, ht.nox, ?_⟩
    have hl := hlen ds d h2
    have I := env_start (n := N.length - ps.length) h1 h3
    have hst : L2.start N vs = vs.map some ++ List.replicate (N.length - ps.length) none := by
      unfold L2.start
      rw [h1.len, hl]
    rw [hst]
    refine hs ds d h2 _ [] _ H noOwn _ rfl I fun p ho σ' own' env' H' I' n1 n2 hp hc => ?_
    exact q p ho H' n2 (fun a o ho => I'.keep a o ho fun i z => by cases z) hp (CtIs.move (fun a u h1 h2 => ⟨h2, fun z => h1 (Or.inl z)⟩) hc)
end
end Fl
namespace Fl
open PySem PySem.Spec PyProof.Rows L2
/-- an item of a tuple or of a list -/
def rIxA (K : PySem.W.Frag) : R2 := fun x y H Q => rIxT K x y H Q ∨ rIxL K x y H Q
section
variable {X : Cx} (K : PySem.W.Frag)
theorem ixA (h : X.K = K) : IxR X (rIxA K) := by
  subst h
  intro value slice pins s σ H x y v u Q I rx ry h hs
  rcases h with h | h
  · exact ix_tup value slice pins s σ H x y v u Q I rx ry h hs
  · exact ix_list value slice pins s σ H x y v u Q I rx ry h hs
variable {K} {ds : List D} {d x : D} {i : Int}
theorem rr_ixA (hx : seqOf x = some ds) (e : atI ds i = some d) : RR K (rIxA K) x (.int i) d := fun G gh σ H own env vx vy Q hK I h1 h2 q => by
  cases x <;> first | (cases hx; done) | skip
  · cases hx
    exact Or.inr (rr_ixL e G gh σ H own env vx vy Q hK I h1 h2 q)
  · cases hx
    exact Or.inl (rr_ixT e G gh σ H own env vx vy Q hK I h1 h2 q)
end
end Fl
namespace Fl
open PySem PySem.Spec PyProof.Rows L2
theorem rr_isNs {K : PySem.W.Frag} {x : D} (hs : sca x = false) : RR K rIsN x .none (.bool false) := fun G gh σ H own env vx vy Q hK I h1 h2 q => by
  cases h2
  refine ⟨rfl, ?_⟩
  have e2 : decide (vx = V.non) = false := by
    cases h1 <;> first | rfl | cases hs
  rw [e2]; exact q _ _ I (.bl _)
end Fl
set_option autoImplicit false
set_option Elab.async false
set_option linter.all false
set_option maxRecDepth 100000
set_option maxHeartbeats 2000000
namespace Fl
open PySem PySem.Spec PyProof.Rows L2
section
variable {K : PySem.W.Frag} {env e0 e1 e2 : Env} {x y z d : D} {ta tb te : TE} {P : Out → Prop} {PE' : Env → D → Prop}
theorem sd_asgG {g : TG} (h : ED K te env fun e d => ∃ ts e2, GG K g d ts e e2 ∧ P (.next e2)) : SD K (tAsg te g) env P := fun G gh σ H own Dn hK I q =>
  h G gh σ H own _ hK I fun e d v H' hp I' i1 => by
    obtain ⟨ts, e2, hg, hp⟩ := hp
    exact hg G gh σ H' own v _ hK I' i1 fun σ' own' J _ => q _ hp _ _ _ J
theorem ed_tup2 (h : ED K ta env fun e1 x => ∃ e2 y, EE K tb e1 e2 y ∧ PE' e2 (.tuple [x, y])) : ED K (tTup (tCons ta (tCons tb tNil))) env PE' := fun G gh σ H own Q hK I q =>
  h G gh σ H own _ hK I fun e1 x v H1 hp I1 i1 => by
    obtain ⟨e2, y, hy, hp⟩ := hp
    refine hy G _ σ H1 own _ hK (I1.tree (hK ▸ i1)) fun w H2 I2 i2 => ?_
    have hx : Is K (avd G own) H2 v x := hK ▸ I2.hd
    refine ⟨szOk (show 2 ≤ 1000000 by decide), fun p hpn => ?_⟩
    have J := I2.tl.newT hpn (hK ▸ (IsAll.cons hx (IsAll.cons i2 .nil)) : IsAll G.K (avd G own) H2 [v, w] [x, y])
    exact q _ _ _ _ hp J.tl (hK ▸ J.hd)
theorem ixN_nat {n i : Nat} (h : i < n) : ixN n (i : Int) = some i := by
  unfold ixN
  rw [if_pos (by omega), if_pos (by omega)]; rfl
end
end Fl
set_option autoImplicit false
set_option Elab.async false
set_option linter.all false
set_option maxRecDepth 100000
set_option maxHeartbeats 2000000
namespace Fl
open PySem PySem.Spec PyProof.Rows L2
/-- small data: its text fits -/
structure Sml (n m : Nat) (d : D) : Prop where
  lay : d.canLay0 = true
  fin13 : d.intsShort 13 = true
  show_ : d.showable = true
  nod : d.hasDict = false
  dep : d.depth ≤ n
  wt : d.weight ≤ m
theorem sml_int {i : Int} (h0 : 0 ≤ i) (h : i < 1000) : Sml 0 10 (.int i) := by
  refine ⟨rfl, ?_, ?_, rfl, Nat.le_refl _, ?_⟩
  · rw [PyData.intsShort]
    refine decide_eq_true ?_
    rw [PyData.shown]
    exact Nat.le_trans (toString_length_le h0 (k := 3) (by decide) (by omega)) (by decide)
  · rw [PyData.showable]
    refine decide_eq_true ?_
    have h1 : i.natAbs < 2 ^ 10 := by omega
    exact Nat.lt_of_lt_of_le (PySem.Flt.log2_lt_of (by decide) h1) (by decide)
  · rw [PyData.weight]
    split
    · omega
    · have h1 : i.natAbs < 2 ^ 10 := by omega
      have := PySem.Flt.log2_lt_of (by decide) h1
      omega
theorem sml_all {n m : Nat} : ∀ {xs : List D}, (∀ x ∈ xs, Sml n m x) → PyData.canLayAll0 xs = true ∧ PyData.intsShortAll 13 xs = true ∧ PyData.showableAll xs = true ∧ PyData.hasDictAll xs = false ∧ PyData.depthAll xs ≤ n ∧ PyData.weightAll xs ≤ xs.length * (m + 1)
  | [], _ => ⟨rfl, rfl, rfl, rfl, Nat.zero_le _, Nat.zero_le _⟩
  | x :: xs, h => by
    obtain ⟨h1, h2, h3, h4, h5, h6⟩ := sml_all (n := n) (m := m) (xs := xs) fun y hy => h y (List.mem_cons_of_mem _ hy)
    obtain ⟨g1, g2, g3, g4, g5, g6⟩ := h x List.mem_cons_self
    refine ⟨?_, ?_, ?_, ?_, ?_, ?_⟩
    · rw [PyData.canLayAll0, g1, h1]; rfl
    · rw [PyData.intsShortAll, g2, h2]; rfl
    · rw [PyData.showableAll, g3, h3]; rfl
    · rw [PyData.hasDictAll, g4, h4]; rfl
    · rw [PyData.depthAll]; exact Nat.max_le.mpr ⟨g5, h5⟩
    · rw [PyData.weightAll, List.length_cons, Nat.succ_mul]; omega
theorem sml_tuple {n m l : Nat} {xs : List D} (h : ∀ x ∈ xs, Sml n m x) (hl : xs.length ≤ l) : Sml (n + 1) (l * (m + 1)) (.tuple xs) := by
  obtain ⟨h1, h2, h3, h4, h5, h6⟩ := sml_all h
  refine ⟨?_, ?_, ?_, ?_, ?_, ?_⟩
  · rw [PyData.canLay0]; exact h1
  · rw [PyData.intsShort]; exact h2
  · rw [PyData.showable]; exact h3
  · rw [PyData.hasDict]; exact h4
  · rw [PyData.depth]; omega
  · rw [PyData.weight]
    exact Nat.le_trans h6 (Nat.mul_le_mul_right _ hl)
theorem Sml.mono {n m n' m' : Nat} {d : D} (h : Sml n m d) (hn : n ≤ n') (hm : m ≤ m') : Sml n' m' d := ⟨h.lay, h.fin13, h.show_, h.nod, Nat.le_trans h.dep hn, Nat.le_trans h.wt hm⟩
theorem Sml.fits {n m : Nat} {d : D} (h : Sml n m d) (hn : n ≤ 64) (hm : m ≤ 1048576) : d.shown.length ≤ sizeLine := by
  have hl : PyData.layable0 d = true := by
    unfold PyData.layable0
    rw [h.lay, decide_eq_true (Nat.le_trans h.dep hn), decide_eq_true (show PyData.weight d ≤ 2 ^ 20 from Nat.le_trans h.wt (Nat.le_trans hm (by decide)))]
    rfl
  have := shown_le13 hl h.fin13
  rw [sizeLine_eq]
  omega
/-- repr(tuple), where no repr is under way -/
def rReprT (K : PySem.W.Frag) : List V → Hp → VK → Prop := fun xs H Q => ∃ v ds, xs = [v] ∧ Dp K H v (.tuple ds) ∧ (∃ n m, Sml n m (.tuple ds) ∧ n ≤ 60 ∧ m ≤ 1048576) ∧ Q (.str (PyData.tuple ds).shown) H
theorem cRepr {X : Cx} (K : PySem.W.Frag) (hg : X.A.guards = some []) (hu : X.A.units + 65 < cLine) (h : X.K = K) : CallR X (.builtin "repr") (rReprT K) := by
  subst h
  intro pins s σ H xs us Q I r h
  obtain ⟨v, ds, rfl, hd, ⟨n, m, hs, hn, hm⟩, q⟩ := h
  obtain ⟨u, rfl, rx⟩ := vals1 r
  obtain ⟨as, rr⟩ := Dp.reads I (.tuple ds) v u hd rx
  cases hd with
  | tup h1 h2 =>
    cases rx
    exact repr_of_reads' rr hs.show_ (fun e => by rw [hs.nod] at e; cases e) hg (by have := hs.dep; omega) (fun _ _ e => e) (fun h' t tk hk => ⟨.str (PyData.tuple ds).shown, H, I.kept hk, ⟨_, rfl⟩, q⟩) (hs.fits (by omega) hm)
section
variable {K : PySem.W.Frag} {env e1 : Env} {te : TE} {ds : List D} {n m : Nat}
theorem ee_repr (h : EE K te env e1 (.tuple ds)) (hs : Sml n m (.tuple ds)) (hn : n ≤ 60) (hm : m ≤ 1048576) : EE K (tCB (rReprT K) (tCons te tNil)) env e1 (.str (PyData.tuple ds).shown) := fun G gh σ H own Q hK I q => by
  refine h G gh σ H own _ hK I fun v H1 I1 i1 => ?_
  exact ⟨v, ds, rfl, Is.dp _ _ i1, ⟨n, m, hs, hn, hm⟩, q _ _ I1 (.str _)⟩
end
end Fl
set_option autoImplicit false
set_option Elab.async false
set_option linter.all false
set_option maxRecDepth 100000
set_option maxHeartbeats 2000000
/-! a law's def whose body is read at a frame below which no repr is under way; the end over a head -/
namespace FlL
open PySem PySem.Spec PyProof.Rows L2
/-- a def keeps its promise where the guards are none -/
def RunG (P : Program) (w : World) (K : PySem.W.Frag) (mg : Str → Option Value) (base : Heap) (k : Nat) (f : Addr) (fd : FuncData) (ps : List Str) (sp : Sp) : Prop :=
  ∀ (A : Around) (outer : List Env) (s : Shared) (H : Hp) (args : Args) (us : List Value) (vs : List V) (Q : VK) (E : XK), A.guards = some [] → Room k A → Env0 P w K mg base A outer s H → BindsTo s fd args (ps.zip us) → Vals vs us → sp vs H Q E →
    codeAny (model P w) A (.call (.ref f) args) (CR CX0 outer P w H s Q E) s
theorem run_of {P : Program} {w : World} {K : PySem.W.Frag} {mg : Str → Option Value} {base : Heap} {x qual : Str} {params : Arguments} {body : List Stmt} {scope : Scope} {dvs : List V} {kws : List (Str × V)} {f : Addr} {fd : FuncData} {N ps : List Str} {k : Nat} {sp : Sp}
    (F : FunD K x qual params body scope dvs kws f fd) (S : FnScope N ps scope) (len : ∀ vs H Q E, sp vs H Q E → vs.length = ps.length)
    (hbody : ∀ (cdv : Value) (A : Around) (outer : List Env) (s : Shared) (H : Hp) (vs : List V) (Q : VK) (E : XK), (A.deeper (envOfC qual scope s.heap.objs.size f cdv)).guards = some [] → Room k (A.deeper (envOfC qual scope s.heap.objs.size f cdv)) → sp vs H Q E →
      ∃ t, PSs (cxOf CX0 P w K mg base N qual scope f cdv A outer s H E) body t ∧ t { nx := fun _ H' => Q .non H', rt := Q } (start N vs) H) : RunG P w K mg base (k + 1) f fd ps sp := by
  obtain ⟨oc, od, dV, kV, doc, pm, an, cdv, ct, osl, rfl, lk, hcd, _, _⟩ := F.ex
  intro A outer s H args us vs Q E hg hr e0 hb r hsp
  have keep : ∀ b o, base.get? b = some o → s.heap.get? b = some o := fun b o e => (e0.bs b o e).1
  have KX : K.In s.heap := e0.mod.kin.keeps keep
  have hk : ∀ y ∈ ps.zip us, scope.names.lookup y.1 = some .local ∨ (scope.names.lookup y.1 = some .cell ∧ ((cellsFrom (s.heap.objs.size + 1) scope.names []).lookup y.1).isSome = true) := fun y hy =>
    (S.par y.1 (List.of_mem_zip (show (y.1, y.2) ∈ ps.zip us from hy)).1).imp id fun q => ⟨q, PySem.W.cellsFrom_some _ _ _ (.inl q)⟩
  refine codeAny_call_function hr.depth (KX _ _ lk) rfl S.co S.gen rfl (PySem.W.codeRec_of KX hcd) (hb _ _ _ _ (wpAny_newFunctionEnv_cells S.kind hk fun env he s1 x => ?_))
  subst he
  refine ⟨(e0.mod.nolimit.keeps keep).keeps x.toInCall.keep, codeAny_func ?_⟩
  obtain ⟨t, ht, hq⟩ := hbody cdv A outer s H vs Q E hg (hr.deeper _) hsp
  have I : Inv (cxOf CX0 P w K mg base N qual scope f cdv A outer s H E) [] (start N vs) H s1 := inv_start S hr.hd e0 (len _ _ _ _ hsp) r x
  refine wpAny_mono (ht.run [] s1 (start N vs) H _ I hq) (fun fl s' hs => ?_) fun e s' hs => hs
  cases fl with
  | ret u =>
    obtain ⟨v, σ', H', J, rv, q⟩ := hs
    exact ⟨v, H', J.os, J.bare, J.base, J.hok, rv, q⟩
  | next =>
    obtain ⟨σ', H', J, q⟩ := hs
    exact ⟨V.non, H', J.os, J.bare, J.base, J.hok, rfl, q⟩
  | brk =>
    obtain ⟨_, _, _, q⟩ := hs
    exact False.elim q
  | cont =>
    obtain ⟨_, _, _, q⟩ := hs
    exact False.elim q
/-- the script's place: tracked by its object, if it is none of the module's -/
def hOf (K : PySem.W.Frag) (a : Addr) (vs : List Value) (ns : List Int) : Hp := fun b => if b = a ∧ K.lookup a = none then some (.frz { cls := .type "list", data := .seq vs.toArray } (.lst (ns.map V.int))) else none
theorem hOf_some {K : PySem.W.Frag} {a b : Addr} {vs : List Value} {ns : List Int} {u : HO} (h : hOf K a vs ns b = some u) : b = a ∧ K.lookup a = none ∧ u = .frz { cls := .type "list", data := .seq vs.toArray } (.lst (ns.map V.int)) := by
  unfold hOf at h
  split at h
  · rename_i c
    cases h
    exact ⟨c.1, c.2, rfl⟩
  · cases h
theorem law_run {P : Program} {w : World} {K : PySem.W.Frag} {mg mb : Str → Option Value} {k : Nat} {fa a : Addr} {fd : FuncData} {x : Str} {sp : Sp} {s₁ : Shared} {vs : List Value} {ns : List Int}
    (KX : K.In s₁.heap) (hns : s₁.heap.Ns mainGlobals mg) (hb : s₁.heap.Ns builtinsNs mb) (hbb : ∀ x : Str, x ≠ "__name__" → mb x = bootBuiltins x) (hlim : s₁.heap.NoLimit) (hg : s₁.gens = #[])
    (ha : s₁.heap.get? a = some { cls := .type "list", data := .seq vs.toArray }) (hi : IntsAre vs ns) (hl : ns.length ≤ sizeLine) (hr : Room k callerA)
    (F : ∀ base : Heap, K.In base → base.Ns mainGlobals mg → RunG P w K mg base k fa fd [x] sp) (hbind : ∀ (s : Shared) (u : Value), BindsTo s fd ⟨[u], []⟩ [(x, u)])
    (hsp : ∀ H : Hp, SqL K H a (ns.map V.int) → (∀ b o, H b = some o → H b ≠ none) → sp [.ref a] H (fun v _ => v = .bl true) fun _ _ _ => False) :
    codeAny (model P w) callerA (.call (.ref fa) ⟨[.ref a], []⟩) (fun r s' => r = .ok (.ret (.bool true)) ∧ OldK s₁.heap s'.heap ∧ s'.os = s₁.os ∧ AllBare s'.gens) s₁ := by
  have rv := vals_ints hi
  have hlv : vs.toArray.size ≤ sizeLine := by rw [List.size_toArray, hi.length]; exact hl
  have hS : SqL K (hOf K a vs ns) a (ns.map V.int) := by
    cases hk : K.lookup a with
    | some o =>
      have e := KX a o hk
      rw [ha] at e
      cases e
      exact .inr ⟨_, vs.toArray, _, hk, rfl, rfl, rfl, hlv, by simpa using rv⟩
    | none => exact .inl (.inr ⟨{ cls := .type "list", data := .seq vs.toArray }, if_pos ⟨rfl, hk⟩⟩)
  have hok : HOk P w (hOf K a vs ns) s₁.heap := fun b u z => by
    obtain ⟨rfl, _, rfl⟩ := hOf_some z
    exact ⟨ha, by rw [List.length_map]; exact hl, vs, _, rv, ha⟩
  have nK : ∀ b o, K.lookup b = some o → hOf K a vs ns b = none := fun b o e => by
    cases q : hOf K a vs ns b with
    | none => rfl
    | some u =>
      obtain ⟨rfl, h2, _⟩ := hOf_some q
      rw [e] at h2; cases h2
  have nD : ∀ {b : Addr} {o : Obj} {es : Array DictEntry} {ep : Nat}, s₁.heap.get? b = some o → o.data = .dict es ep → hOf K a vs ns b = none := fun {b o es ep} e d => by
    cases q : hOf K a vs ns b with
    | none => rfl
    | some u =>
      obtain ⟨rfl, _, _⟩ := hOf_some q
      rw [ha] at e; cases e
      have d' : Data.seq vs.toArray _ = Data.dict es ep := d
      cases d'
  have ns' : ∀ {b : Addr} {m : Str → Option Value}, s₁.heap.Ns b m → (hidT s₁.heap (hOf K a vs ns)).Ns b m := fun {b m} ⟨o, es, ep, e, d, r⟩ => ⟨o, es, ep, hidT_get e (nD e d), d, r⟩
  have hKb : K.In (hidT s₁.heap (hOf K a vs ns)) := fun b o e => hidT_get (KX b o e) (nK b o e)
  have hM : Mod K mg (hidT s₁.heap (hOf K a vs ns)) := ⟨hKb, ns' hns, ⟨mb, ns' hb, hbb⟩, let ⟨mc, h1, h2⟩ := hlim; ⟨mc, ns' h1, h2⟩⟩
  have e0 : Env0 P w K mg (hidT s₁.heap (hOf K a vs ns)) callerA [] s₁ (hOf K a vs ns) := ⟨rfl, hM, fun b o e => of_hidT e, Nat.le_of_eq (hidT_size _ _), trivial, fun b hb => absurd (show b ∈ ([] : List Addr) from hb) (by simp), hok, .of_eq hg⟩
  refine codeAny_mono (F _ hKb (ns' hns) callerA [] s₁ _ ⟨[.ref a], []⟩ [.ref a] [.ref a] _ _ rfl hr e0 (hbind s₁ (.ref a)) (.cons rfl .nil) (hsp _ hS fun b o e z => by rw [e] at z; cases z)) fun r s' h => ?_
  cases r with
  | error e =>
    exact False.elim h
  | ok fl =>
    cases fl with
    | next => exact False.elim h
    | brk => exact False.elim h
    | cont => exact False.elim h
    | ret u =>
      obtain ⟨v, H', os, bare, un, hok', r', q⟩ := h
      have q' : v = .bl true := q
      subst q'
      obtain rfl : u = Value.bool true := r'
      refine ⟨rfl, OldK.of_keep fun b o e => ?_, os, bare⟩
      cases q : hOf K a vs ns b with
      | none => exact un.keep b o e q (fun z => absurd (show b ∈ ([] : List Addr) from z) (by simp)) (by simp)
      | some u =>
        obtain ⟨rfl, _, rfl⟩ := hOf_some q
        obtain ⟨e2, _⟩ := hok' b _ (un.frzs b _ _ q)
        rw [ha] at e; cases e
        exact e2
/-- a law: F gives the written part, the function object, the promise over every base -/
theorem walk_ofG {l : PySem.W.OpenLaw} {n k : Nat} {q : Program} {loose : List Str} {XP : (Str → Option Value) → Heap → Prop} {YP : World → Heap → Prop} {d : DefRec} {x : Str}
    (hn : l.most = some n) (hn2 : n ≤ sizeLine) (hdf : d.params.defaults = []) (hr : Room k callerA)
    (F : ∀ (w : World) (mg : Str → Option Value) (fa : Addr) (h : Heap), YP w h → h.Ns mainGlobals mg → mg d.name = some (.ref fa) →
      ∃ (K : PySem.W.Frag) (fd : FuncData) (sp : Sp), K.In h ∧ (∀ (s : Shared) (u : Value), BindsTo s fd ⟨[u], []⟩ [(x, u)]) ∧
        (∀ (H : Hp) (a : Addr) (ns : List Int), ns.length ≤ n → SqL K H a (ns.map V.int) → sp [.ref a] H (fun v _ => v = .bl true) fun _ _ _ => False) ∧
        ∀ base : Heap, K.In base → base.Ns mainGlobals mg → RunG l.prog w K mg base k fa fd [x] sp) :
    PySem.W.WalkO q loose XP YP l.row.toRowW d [] (fun f vs => PySem.call f vs) := by
  refine Att.attach_call hn hdf fun w s₀ s₁ mg mb fa o pm cd doc a vs ns G Y ho hd hcd hmg hobj hints hlen hg => ?_
  obtain ⟨K, fd, sp, KX, hb, hsp, hF⟩ := F w mg fa _ Y G.T.g hmg
  exact law_run KX G.T.g G.T.b G.T.builtins G.T.nolimit hg hobj hints (Nat.le_trans hlen hn2) hr hF hb fun H hS _ => hsp H a ns hlen hS
end FlL
namespace Fl
open PySem PySem.Spec PyProof.Rows L2
section
variable {K : PySem.W.Frag} {env : Env} {te : TE} {PT : Env → Bool → Prop}
theorem td_B (h : ED K te env fun e d => ∃ b, d = .bool b ∧ PT e b) : TD K (tB te) env PT := fun G gh σ H own Q hK I q =>
  h G gh σ H own _ hK I fun e d v H' hp I' i => by
    obtain ⟨b, rfl, hp⟩ := hp
    cases i
    exact ⟨b, rfl, q _ _ _ hp I'⟩
end
/-- the body of a law's def, by trees: the script's numbers -/
def spL (K : PySem.W.Frag) : Sp := fun vs H Q _ => ∃ (a : Addr) (ns : List Int), vs = [.ref a] ∧ SqL K H a (ns.map V.int) ∧ ∀ H', Q (.bl true) H'
theorem is_script {K : PySem.W.Frag} {H : Hp} {a : Addr} {ns : List Int} (h : SqL K H a (ns.map V.int)) : Is K (fun _ => False) H (.ref a) (.list (ns.map PyData.int)) := by
  have hi : IsAll K (fun _ => False) H (ns.map V.int) (ns.map PyData.int) := by
    induction ns with
    | nil => exact .nil
    | cons n ns ih =>
      exact .cons (.int n) (by
        clear h ih
        induction ns with
        | nil => exact .nil
        | cons m ns ih => exact .cons (.int m) ih)
  rcases h with h | h
  · exact .lst h (fun z => z) hi
  · exact .lstK (.inr h) hi
theorem law_body {K : PySem.W.Frag} {t : TS} {N : List Str} {n : Nat} (hN : N.length = n + 1) (hs : ∀ ns : List Int, SD K t (.d (.list (ns.map PyData.int)) :: List.replicate n .any) (Fin (.bool true))) :
    ∀ (H : Hp) (vs : List V) (Q : VK) (E : XK), spL K vs H Q E → t { nx := fun _ H' => Q .non H', rt := Q } (L2.start N vs) H := by
  rintro H vs Q E ⟨a, ns, rfl, hS, q⟩
  have I := env_start (K := K) (A0 := fun _ => False) (H := H) (vs := [V.ref a]) (ds := [.list (ns.map PyData.int)]) (n := n) (.cons (is_script hS) .nil) (fun _ z => z.elim)
  have hst : L2.start N [V.ref a] = [V.ref a].map some ++ List.replicate n none := by
    unfold L2.start
    rw [hN]; rfl
  rw [hst]
  refine hs ns _ [] _ H noOwn _ rfl I fun out ho => ?_
  cases out with
  | ret e d =>
    cases (show d = .bool true from ho)
    intro σ H' own v I' i'
    cases i'
    exact q H'
  | next e => exact absurd (show PyData.bool true = .none from ho) (by intro z; cases z)
  | brk e => exact ho.elim
  | cont e => exact ho.elim
end Fl
namespace Fl
open PySem PySem.Spec PyProof.Rows L2
theorem et_andQ {K : PySem.W.Frag} {env : Env} {tt tt' : TT} {a b : Bool} (h1 : ET K tt env env a) (h2 : a = true → ET K tt' env env b) : ET K (tAnd tt tt') env env (a && b) := et_and h1 h2 fun _ => rfl
end Fl
set_option autoImplicit false
set_option Elab.async false
set_option linter.all false
set_option maxRecDepth 100000
set_option maxHeartbeats 2000000
/-! books, in plain Lean -/
namespace Bk
open PySem Fl
abbrev Part := Int × Int × Nat
abbrev Row := List Part
structure Book where
  b : Nat
  kinds : List Row
def dPart (p : Part) : D := .tuple [.int p.1, .int p.2.1, .int p.2.2]
def dRow (r : Row) : D := .tuple (r.map dPart)
def dBook (B : Book) : D := .tuple [.int B.b, .tuple (B.kinds.map dRow)]
def dCell (c : Int × Int) : D := .tuple [.int c.1, .int c.2]
def dNats (l : List Nat) : List D := l.map fun (n : Nat) => .int (n : Int)
structure RowOk (b many : Nat) (r : Row) : Prop where
  len : r.length = b * b
  inn : ∀ p ∈ r, 0 ≤ p.1 ∧ p.1 < b ∧ 0 ≤ p.2.1 ∧ p.2.1 < b ∧ p.2.2 < many
  nod : (r.map fun p => (p.1, p.2.1)).Nodup
structure BookOk (B : Book) : Prop where
  side : B.b = 2 ∨ B.b = 3
  ne : B.kinds ≠ []
  few : B.kinds.length ≤ 100
  rows : ∀ r ∈ B.kinds, RowOk B.b B.kinds.length r
theorem BookOk.b2 {B : Book} (h : BookOk B) : 2 ≤ B.b ∧ B.b ≤ 3 := by rcases h.side with h | h <;> omega
def Book.row (B : Book) (k : Nat) : Row := B.kinds.getD k []
def Book.part (B : Book) (k at_ : Nat) : Part := (B.row k).getD at_ (0, 0, 0)
theorem getD_of {α : Type} {l : List α} {i : Nat} {d x : α} (h : l[i]? = some x) : l.getD i d = x := by rw [List.getD_eq_getElem?_getD, h]; rfl
theorem Book.row_get {B : Book} {k : Nat} (h : k < B.kinds.length) : B.kinds[k]? = some (B.row k) := by
  unfold Book.row
  rw [List.getElem?_eq_getElem h, getD_of (List.getElem?_eq_getElem h)]
theorem BookOk.row {B : Book} (h : BookOk B) {k : Nat} (hk : k < B.kinds.length) : RowOk B.b B.kinds.length (B.row k) := h.rows _ (List.mem_of_getElem? (B.row_get hk))
theorem BookOk.part_get {B : Book} (h : BookOk B) {k i : Nat} (hk : k < B.kinds.length) (hi : i < B.b * B.b) : (B.row k)[i]? = some (B.part k i) := by
  have hl : i < (B.row k).length := by rw [(h.row hk).len]; exact hi
  unfold Book.part
  rw [List.getElem?_eq_getElem hl, getD_of (List.getElem?_eq_getElem hl)]
theorem BookOk.part {B : Book} (h : BookOk B) {k i : Nat} (hk : k < B.kinds.length) (hi : i < B.b * B.b) : 0 ≤ (B.part k i).1 ∧ (B.part k i).1 < B.b ∧ 0 ≤ (B.part k i).2.1 ∧ (B.part k i).2.1 < B.b ∧ (B.part k i).2.2 < B.kinds.length :=
  (h.row hk).inn _ (List.mem_of_getElem? (h.part_get hk hi))

/-! ### cells of numbers -/
def side (B : Book) (d : Nat) : Nat := B.b ^ d
def cells (B : Book) (d : Nat) : Nat := (B.b * B.b) ^ d
def cellAt (B : Book) : Nat → Nat → Nat → Int × Int
  | _, 0, _ => (0, 0)
  | k, d + 1, n => let p := B.part k (n / cells B d); let c := cellAt B p.2.2 d (n % cells B d); (p.1 * side B d + c.1, p.2.1 * side B d + c.2)
def kindsAt (B : Book) : Nat → Nat → Nat → List Nat
  | k, 0, _ => [k]
  | k, d + 1, n => k :: kindsAt B (B.part k (n / cells B d)).2.2 d (n % cells B d)
theorem cells_pos {B : Book} (h : BookOk B) (d : Nat) : 0 < cells B d := Nat.pow_pos (Nat.mul_pos (by have := h.b2; omega) (by have := h.b2; omega))
theorem side_pos {B : Book} (h : BookOk B) (d : Nat) : 0 < side B d := Nat.pow_pos (by have := h.b2; omega)
theorem cells_succ (B : Book) (d : Nat) : cells B (d + 1) = cells B d * (B.b * B.b) := Nat.pow_succ _ _
theorem side_succ (B : Book) (d : Nat) : side B (d + 1) = side B d * B.b := Nat.pow_succ _ _
theorem dig_lt {B : Book} (h : BookOk B) {d n : Nat} (hn : n < cells B (d + 1)) : n / cells B d < B.b * B.b := by
  rw [Nat.div_lt_iff_lt_mul (cells_pos h d), Nat.mul_comm, ← cells_succ]; exact hn
theorem rest_lt {B : Book} (h : BookOk B) (d n : Nat) : n % cells B d < cells B d := Nat.mod_lt _ (cells_pos h d)
theorem cellAt_in {B : Book} (h : BookOk B) : ∀ (d k n : Nat), k < B.kinds.length → n < cells B d → 0 ≤ (cellAt B k d n).1 ∧ (cellAt B k d n).1 < side B d ∧ 0 ≤ (cellAt B k d n).2 ∧ (cellAt B k d n).2 < side B d
  | 0, k, n, _, _ => by unfold cellAt side; simp
  | d + 1, k, n, hk, hn => by
    obtain ⟨h1, h2, h3, h4, h5⟩ := h.part hk (dig_lt h hn)
    obtain ⟨g1, g2, g3, g4⟩ := cellAt_in h d _ _ h5 (rest_lt h d n)
    have hs : (0 : Int) < side B d := by have := side_pos h d; omega
    have key : ∀ x c : Int, 0 ≤ x → x < B.b → 0 ≤ c → c < side B d → 0 ≤ x * side B d + c ∧ x * side B d + c < side B d * B.b := fun x c x0 x1 c0 c1 => by
      have m0 : 0 ≤ x * side B d := Int.mul_nonneg x0 (Int.le_of_lt hs)
      have m1 : (x + 1) * side B d ≤ B.b * side B d := Int.mul_le_mul_of_nonneg_right (by omega) (Int.le_of_lt hs)
      rw [Int.add_mul, Int.one_mul, Int.mul_comm (B.b : Int)] at m1
      exact ⟨by omega, by omega⟩
    have e : ((side B (d + 1) : Nat) : Int) = side B d * B.b := by rw [side_succ]; push_cast; rfl
    unfold cellAt
    rw [e]
    exact ⟨(key _ _ h1 h2 g1 g2).1, (key _ _ h1 h2 g1 g2).2, (key _ _ h3 h4 g3 g4).1, (key _ _ h3 h4 g3 g4).2⟩
theorem kindsAt_in {B : Book} (h : BookOk B) : ∀ (d k n : Nat), k < B.kinds.length → n < cells B d → ∀ m ∈ kindsAt B k d n, m < B.kinds.length
  | 0, k, n, hk, _ => by unfold kindsAt; simp; exact hk
  | d + 1, k, n, hk, hn => by
    unfold kindsAt
    intro m hm
    rcases List.mem_cons.mp hm with rfl | hm
    · exact hk
    · exact kindsAt_in h d _ _ (h.part hk (dig_lt h hn)).2.2.2.2 (rest_lt h d n) m hm
theorem kindsAt_len {B : Book} : ∀ (d k n : Nat), (kindsAt B k d n).length = d + 1
  | 0, k, n => rfl
  | d + 1, k, n => by unfold kindsAt; rw [List.length_cons, kindsAt_len]

/-! ### postures -/
def turn1 (w : Int) (c : Int × Int) : Int × Int := (w - 1 - c.2, c.1)
def turns (w : Int) : Nat → Int × Int → Int × Int
  | 0, c => c
  | n + 1, c => turn1 w (turns w n c)
def posed (w : Int) (c : Int × Int) (r m : Nat) : Int × Int := let q := turns w r c; if m = 1 then (q.2, q.1) else q
def posePart (b : Nat) (r m : Nat) (p : Part) : Part := let q := posed b (p.1, p.2.1) r m; (q.1, q.2, p.2.2)
def turned (B : Book) (r m : Nat) : Book := ⟨B.b, B.kinds.map fun row => row.map (posePart B.b r m)⟩
def backward (B : Book) : Book := ⟨B.b, B.kinds.map List.reverse⟩
theorem turns_in {w : Int} {c : Int × Int} (h : 0 ≤ c.1 ∧ c.1 < w ∧ 0 ≤ c.2 ∧ c.2 < w) : ∀ r, 0 ≤ (turns w r c).1 ∧ (turns w r c).1 < w ∧ 0 ≤ (turns w r c).2 ∧ (turns w r c).2 < w
  | 0 => h
  | r + 1 => by
    have := turns_in h r
    unfold turns turn1
    simp only
    omega
theorem posed_in {w : Int} {c : Int × Int} (h : 0 ≤ c.1 ∧ c.1 < w ∧ 0 ≤ c.2 ∧ c.2 < w) (r m : Nat) : 0 ≤ (posed w c r m).1 ∧ (posed w c r m).1 < w ∧ 0 ≤ (posed w c r m).2 ∧ (posed w c r m).2 < w := by
  have := turns_in h r
  unfold posed
  dsimp only
  split <;> (try dsimp only) <;> omega
theorem turn1_inj {w : Int} {c c' : Int × Int} (h : turn1 w c = turn1 w c') : c = c' := by
  unfold turn1 at h
  obtain ⟨x, y⟩ := c
  obtain ⟨x', y'⟩ := c'
  simp only [Prod.mk.injEq] at h ⊢
  omega
theorem turns_inj {w : Int} : ∀ (r : Nat) {c c' : Int × Int}, turns w r c = turns w r c' → c = c'
  | 0, _, _, h => h
  | r + 1, _, _, h => turns_inj r (turn1_inj h)
theorem posed_inj {w : Int} {r m : Nat} {c c' : Int × Int} (h : posed w c r m = posed w c' r m) : c = c' := by
  unfold posed at h
  dsimp only at h
  refine turns_inj (w := w) r ?_
  split at h
  · simp only [Prod.mk.injEq] at h
    exact Prod.ext h.2 h.1
  · exact h
theorem nodup_map {α β : Type} {f : α → β} (hf : ∀ a b, f a = f b → a = b) : ∀ {l : List α}, l.Nodup → (l.map f).Nodup
  | [], _ => List.nodup_nil
  | a :: l, h => by
    rw [List.map_cons, List.nodup_cons]
    obtain ⟨h1, h2⟩ := List.nodup_cons.mp h
    refine ⟨fun z => ?_, nodup_map hf h2⟩
    obtain ⟨b, hb, e⟩ := List.mem_map.mp z
    exact h1 (hf _ _ e ▸ hb)
theorem RowOk.posed {b many : Nat} {r : Row} (h : RowOk b many r) (q m : Nat) : RowOk b many (r.map (posePart b q m)) := by
  refine ⟨by rw [List.length_map]; exact h.len, fun p hp => ?_, ?_⟩
  · obtain ⟨p', hp', rfl⟩ := List.mem_map.mp hp
    obtain ⟨h1, h2, h3, h4, h5⟩ := h.inn _ hp'
    have := posed_in (w := b) (c := (p'.1, p'.2.1)) ⟨h1, h2, h3, h4⟩ q m
    exact ⟨this.1, this.2.1, this.2.2.1, this.2.2.2, h5⟩
  · rw [List.map_map]
    have e : ((fun p : Part => (p.1, p.2.1)) ∘ posePart b q m) = (fun c : Int × Int => Bk.posed b c q m) ∘ fun p : Part => (p.1, p.2.1) := by
      funext p
      rfl
    rw [e, ← List.map_map]
    exact nodup_map (fun _ _ => posed_inj) h.nod
theorem BookOk.turned {B : Book} (h : BookOk B) (r m : Nat) : BookOk (turned B r m) := by
  refine ⟨h.side, ?_, ?_, fun row hr => ?_⟩
  · intro z
    exact h.ne (List.map_eq_nil_iff.mp z)
  · show (List.map _ B.kinds).length ≤ 100
    rw [List.length_map]; exact h.few
  · obtain ⟨row', hr', rfl⟩ := List.mem_map.mp hr
    show RowOk B.b (List.map _ B.kinds).length _
    rw [List.length_map]
    exact (h.rows _ hr').posed r m
theorem RowOk.reverse {b many : Nat} {r : Row} (h : RowOk b many r) : RowOk b many r.reverse := by
  refine ⟨by rw [List.length_reverse]; exact h.len, fun p hp => h.inn p (List.mem_reverse.mp hp), ?_⟩
  rw [List.map_reverse]
  exact List.pairwise_reverse.mpr (h.nod.imp Ne.symm)
theorem BookOk.backward {B : Book} (h : BookOk B) : BookOk (backward B) := by
  refine ⟨h.side, ?_, ?_, fun row hr => ?_⟩
  · intro z
    exact h.ne (List.map_eq_nil_iff.mp z)
  · show (List.map _ B.kinds).length ≤ 100
    rw [List.length_map]; exact h.few
  · obtain ⟨row', hr', rfl⟩ := List.mem_map.mp hr
    show RowOk B.b (List.map _ B.kinds).length _
    rw [List.length_map]
    exact (h.rows _ hr').reverse
end Bk
namespace Bk
open PySem Fl L2
theorem atI_nat {ds : List D} {n : Nat} {d : D} (h : ds[n]? = some d) : atI ds (n : Int) = some d := by
  have hl := (List.getElem?_eq_some_iff.mp h).1
  unfold atI ixN
  rw [if_pos (by omega), if_pos (by omega)]
  simpa using h
theorem at_row {B : Book} {k : Nat} (hk : k < B.kinds.length) : atI (B.kinds.map dRow) (k : Int) = some (dRow (B.row k)) := atI_nat (by rw [List.getElem?_map, B.row_get hk]; rfl)
theorem at_part {B : Book} (h : BookOk B) {k i : Nat} (hk : k < B.kinds.length) (hi : i < B.b * B.b) : atI ((B.row k).map dPart) (i : Int) = some (dPart (B.part k i)) := atI_nat (by rw [List.getElem?_map, h.part_get hk hi]; rfl)
theorem atI_neg1 {ds : List D} {d : D} : atI (ds ++ [d]) (-1) = some d := by
  unfold atI ixN
  have e : (ds ++ [d]).length = ds.length + 1 := by simp
  rw [if_neg (by omega), e, if_pos (by omega)]
  have e2 : (-1 + ((ds.length + 1 : Nat) : Int)).toNat = ds.length := by omega
  rw [e2]
  simp
def keyPart (p : Part) : List Key := [.inl p.1, .inl p.2.1]
theorem keys_nodup {b many : Nat} {r : Row} (h : RowOk b many r) : (r.map keyPart).Nodup := by
  have e : r.map keyPart = (r.map fun p => (p.1, p.2.1)).map fun c : Int × Int => [Sum.inl c.1, Sum.inl c.2] := by
    rw [List.map_map]; rfl
  rw [e]
  refine nodup_map (fun a b hab => ?_) h.nod
  injection hab with h1 h2
  injection h2 with h2 _
  injection h1 with h1
  injection h2 with h2
  exact Prod.ext h1 h2
end Bk
set_option autoImplicit false
set_option Elab.async false
set_option linter.all false
set_option maxRecDepth 100000
set_option maxHeartbeats 2000000
namespace Bk
open PySem Fl L2
/-! ### sizes -/
theorem side_bound {B : Book} (h : BookOk B) {d : Nat} (hd : d ≤ 2000) : side B d < 2 ^ 8000 := by
  have h1 : side B d ≤ 4 ^ d := Nat.pow_le_pow_left (by have := h.b2; omega) d
  have h2 : (4 : Nat) ^ d ≤ 4 ^ 2000 := Nat.pow_le_pow_right (by decide) hd
  have h3 : (4 : Nat) ^ 2000 = 2 ^ 4000 := by rw [show (4 : Nat) = 2 ^ 2 from rfl, ← Nat.pow_mul]
  have h4 : (2 : Nat) ^ 4000 < 2 ^ 8000 := Nat.pow_lt_pow_right (by decide) (by decide)
  omega
theorem cells_bound {B : Book} (h : BookOk B) {d : Nat} (hd : d ≤ 2000) : cells B d < 2 ^ 8001 := by
  have h0 : B.b * B.b ≤ 16 := by
    have := h.b2
    have := Nat.mul_le_mul (show B.b ≤ 4 by omega) (show B.b ≤ 4 by omega)
    omega
  have h1 : cells B d ≤ 16 ^ d := Nat.pow_le_pow_left h0 d
  have h2 : (16 : Nat) ^ d ≤ 16 ^ 2000 := Nat.pow_le_pow_right (by decide) hd
  have h3 : (16 : Nat) ^ 2000 = 2 ^ 8000 := by rw [show (16 : Nat) = 2 ^ 4 from rfl, ← Nat.pow_mul]
  have h4 : (2 : Nat) ^ 8000 < 2 ^ 8001 := Nat.pow_lt_pow_right (by decide) (by decide)
  omega
theorem side_div {B : Book} (h : BookOk B) {d : Nat} (hd : d ≤ 2000) : CDivW 0 (side B d : Nat) := wide_div (i := 0) (b := 8001) (by have := side_pos h d; omega) (by
  rw [Int.natAbs_natCast]
  exact Nat.lt_trans (side_bound h hd) (Nat.pow_lt_pow_right (by decide) (by decide))) (by decide) (by decide)
theorem cells_div {B : Book} (h : BookOk B) {d : Nat} (hd : d ≤ 2000) : CDivW 0 (cells B d : Nat) := wide_div (i := 0) (b := 8001) (by have := cells_pos h d; omega) (by
  rw [Int.natAbs_natCast]
  exact cells_bound h hd) (by decide) (by decide)
theorem small_div {n : Nat} (h0 : 0 < n) (h : n ≤ 100) : CDivW 0 (n : Int) := wide_div (i := 0) (b := 7) (by omega) (by rw [Int.natAbs_natCast]; omega) (by decide) (by decide)
theorem div_any {i j k : Int} (h : CDivW i j) : CDivW k j := h
theorem side_down {B : Book} (h : BookOk B) (e : Nat) : ((side B (e + 1) : Nat) : Int) / (B.b : Int) = (side B e : Nat) := by
  rw [side_succ]
  have hb := h.b2
  push_cast
  exact Int.mul_ediv_cancel _ (by omega)
theorem cells_down {B : Book} (h : BookOk B) (e : Nat) : ((cells B (e + 1) : Nat) : Int) / ((B.b : Int) * (B.b : Int)) = (cells B e : Nat) := by
  rw [cells_succ]
  have hb := h.b2
  push_cast
  refine Int.mul_ediv_cancel _ ?_
  have : (0 : Int) < (B.b : Int) * B.b := Int.mul_pos (by omega) (by omega)
  omega
theorem split_div {x s c : Int} (h0 : 0 ≤ c) (h1 : c < s) : (x * s + c) / s = x := by
  rw [Int.add_comm, Int.add_mul_ediv_right _ _ (by omega), Int.ediv_eq_zero_of_lt h0 h1, Int.zero_add]
theorem split_mod {x s c : Int} (h0 : 0 ≤ c) (h1 : c < s) : (x * s + c) % s = c := by
  rw [Int.add_comm, Int.add_mul_emod_self_right, Int.emod_eq_of_lt h0 h1]
/-! ### trees of ints -/
theorem eqv_cell {a b : Int × Int} : PyData.eqv (dCell a) (dCell b) = decide (a = b) := by
  unfold dCell
  rw [PyData.eqv, PyData.eqvAll, PyData.eqvAll, PyData.eqvAll, PyData.eqv, PyData.eqv, Bool.and_true]
  by_cases h : a = b
  · subst h; simp
  · rw [decide_eq_false h]
    by_cases h1 : a.1 = b.1
    · have h2 : a.2 ≠ b.2 := fun z => h (Prod.ext h1 z)
      simp [h1, h2]
    · simp [h1]
theorem shaped_cell {c : Int × Int} : SeqAt.shaped (dCell c) = true := by
  unfold dCell
  simp [SeqAt.shaped, PyData.canLay0, PyData.canLayAll0, PyData.depth, PyData.depthAll]
theorem shaped_cells {l : List (Int × Int)} : SeqAt.shaped (.tuple (l.map dCell)) = true := by
  have h1 : PyData.canLayAll0 (l.map dCell) = true := by
    induction l with
    | nil => rfl
    | cons a l ih => rw [List.map_cons, PyData.canLayAll0, ih]; rfl
  have h2 : PyData.depthAll (l.map dCell) ≤ 1 := by
    induction l with
    | nil => exact Nat.zero_le _
    | cons a l ih =>
      rw [List.map_cons, PyData.depthAll]
      refine Nat.max_le.mpr ⟨?_, ih (by rw [List.map_cons, PyData.canLayAll0, Bool.and_eq_true] at h1; exact h1.2)⟩
      unfold dCell; simp [PyData.depth, PyData.depthAll]
  unfold SeqAt.shaped
  rw [PyData.canLay0, h1, PyData.depth]
  have : PyData.depthAll (l.map dCell) + 1 ≤ 64 := by omega
  simp [this]
theorem shaped_ints {l : List Int} : SeqAt.shaped (.list (l.map PyData.int)) = true := by
  have h1 : PyData.canLayAll0 (l.map PyData.int) = true := by
    induction l with
    | nil => rfl
    | cons a l ih => rw [List.map_cons, PyData.canLayAll0, ih]; rfl
  have h2 : PyData.depthAll (l.map PyData.int) ≤ 1 := by
    induction l with
    | nil => exact Nat.zero_le _
    | cons a l ih =>
      rw [List.map_cons, PyData.depthAll]
      refine Nat.max_le.mpr ⟨?_, ih (by rw [List.map_cons, PyData.canLayAll0, Bool.and_eq_true] at h1; exact h1.2)⟩
      rw [PyData.depth]; decide
  unfold SeqAt.shaped
  rw [PyData.canLay0, h1, PyData.depth]
  have : PyData.depthAll (l.map PyData.int) + 1 ≤ 64 := by omega
  simp [this]
theorem nodup_ne {α : Type} {l : List α} (h : l.Nodup) {i j : Nat} {a b : α} (hi : l[i]? = some a) (hj : l[j]? = some b) (hij : i < j) : a ≠ b := by
  obtain ⟨hi', ei⟩ := List.getElem?_eq_some_iff.mp hi
  obtain ⟨hj', ej⟩ := List.getElem?_eq_some_iff.mp hj
  rw [← ei, ← ej]
  exact List.pairwise_iff_getElem.mp h i j hi' hj' hij
/-! ### numbers of cells -/
theorem div_cells {B : Book} (h : BookOk B) {d n : Nat} : n = n / cells B d * cells B d + n % cells B d := by rw [Nat.mul_comm]; exact (Nat.div_add_mod _ _).symm
end Bk
namespace Bk
theorem cellAt_zero {B : Book} {k n : Nat} : cellAt B k 0 n = (0, 0) := rfl
theorem kindsAt_zero {B : Book} {k n : Nat} : kindsAt B k 0 n = [k] := rfl
theorem cellAt_fst {B : Book} {k d n : Nat} : (cellAt B k (d + 1) n).1 = (B.part k (n / cells B d)).1 * side B d + (cellAt B (B.part k (n / cells B d)).2.2 d (n % cells B d)).1 := rfl
theorem cellAt_snd {B : Book} {k d n : Nat} : (cellAt B k (d + 1) n).2 = (B.part k (n / cells B d)).2.1 * side B d + (cellAt B (B.part k (n / cells B d)).2.2 d (n % cells B d)).2 := rfl
theorem kindsAt_succ {B : Book} {k d n : Nat} : kindsAt B k (d + 1) n = k :: kindsAt B (B.part k (n / cells B d)).2.2 d (n % cells B d) := rfl
end Bk
set_option autoImplicit false
set_option Elab.async false
set_option linter.all false
set_option maxRecDepth 100000
set_option maxHeartbeats 2000000
namespace Bk
open PySem Fl L2
/-! ### books begun at a kind -/
def addOwn (o : List Nat) (k : Nat) : List Nat := if k ∈ o then o else o ++ [k]
def numPart (s : List Nat × Row) (p : Part) : List Nat × Row := (addOwn s.1 p.2.2, s.2 ++ [(p.1, p.2.1, (addOwn s.1 p.2.2).idxOf p.2.2)])
def numRow (o : List Nat) (r : Row) : List Nat × Row := r.foldl numPart (o, [])
def numStep (B : Book) (j : Nat) (s : List Nat × List Row) : List Nat × List Row :=
  match s.1[j]? with
  | some k => ((numRow s.1 (B.row k)).1, s.2 ++ [(numRow s.1 (B.row k)).2])
  | none => s
def numAll (B : Book) (k : Nat) : Nat → List Nat × List Row
  | 0 => ([k], [])
  | j + 1 => numStep B j (numAll B k j)
def begun (B : Book) (k : Nat) : Book := ⟨B.b, (numAll B k B.kinds.length).2⟩
structure OrdOk (n : Nat) (o : List Nat) : Prop where
  nod : o.Nodup
  lt : ∀ m ∈ o, m < n
theorem nodup_le : ∀ (n : Nat) {o : List Nat}, o.Nodup → (∀ m ∈ o, m < n) → o.length ≤ n
  | 0, [], _, _ => Nat.le_refl _
  | 0, m :: _, _, h => absurd (h m List.mem_cons_self) (Nat.not_lt_zero _)
  | n + 1, o, hn, h => by
    by_cases hm : n ∈ o
    · have h1 := nodup_le n (o := o.erase n) (hn.erase n) fun m hm' => by
        have h2 := (List.Nodup.mem_erase_iff hn).mp hm'
        have := h m h2.2
        have := h2.1
        omega
      rw [List.length_erase_of_mem hm] at h1
      have := List.length_pos_of_mem hm
      omega
    · have := nodup_le n hn fun m hm' => by
        have h1 := h m hm'
        have h2 : m ≠ n := fun e => hm (e ▸ hm')
        omega
      omega
theorem OrdOk.le {n : Nat} {o : List Nat} (h : OrdOk n o) : o.length ≤ n := nodup_le n h.nod h.lt
theorem OrdOk.add {n k : Nat} {o : List Nat} (h : OrdOk n o) (hk : k < n) : OrdOk n (addOwn o k) := by
  unfold addOwn
  split
  · exact h
  · rename_i hn
    refine ⟨?_, fun m hm => ?_⟩
    · rw [List.nodup_append]
      exact ⟨h.nod, by simp, fun a ha b hb => by
        have e : b = k := by simpa using hb
        subst e
        exact fun e2 => hn (e2 ▸ ha)⟩
    · rcases List.mem_append.mp hm with hm | hm
      · exact h.lt m hm
      · have e : m = k := by simpa using hm
        rw [e]; exact hk
theorem mem_addOwn {o : List Nat} {k : Nat} : k ∈ addOwn o k := by
  unfold addOwn
  split
  · assumption
  · simp
theorem len_addOwn {o : List Nat} {k : Nat} : o.length ≤ (addOwn o k).length := by
  unfold addOwn
  split
  · exact Nat.le_refl _
  · simp
theorem fold_succ {r : Row} {i : Nat} {p : Part} {s : List Nat × Row} (h : r[i]? = some p) : (r.take (i + 1)).foldl numPart s = numPart ((r.take i).foldl numPart s) p := by
  rw [List.take_add_one, h, List.foldl_append]; rfl
theorem fold_ok {n : Nat} : ∀ (r : Row) (s : List Nat × Row), (∀ p ∈ r, p.2.2 < n) → OrdOk n s.1 → OrdOk n (r.foldl numPart s).1 ∧ s.1.length ≤ (r.foldl numPart s).1.length ∧ (r.foldl numPart s).2.length = s.2.length + r.length
  | [], s, _, h => ⟨h, Nat.le_refl _, rfl⟩
  | p :: r, s, hp, h => by
    obtain ⟨h1, h2, h3⟩ := fold_ok r (numPart s p) (fun q hq => hp q (List.mem_cons_of_mem _ hq)) (h.add (hp p List.mem_cons_self))
    refine ⟨h1, Nat.le_trans len_addOwn h2, ?_⟩
    rw [List.foldl_cons, h3]
    show (s.2 ++ [_]).length + r.length = _
    rw [List.length_append, List.length_cons, List.length_cons, List.length_nil]
    omega
theorem numAll_ok {B : Book} (ho : BookOk B) {k : Nat} (hk : k < B.kinds.length) : ∀ j, OrdOk B.kinds.length (numAll B k j).1 ∧ (numAll B k j).2.length ≤ j ∧ ∀ r ∈ (numAll B k j).2, r.length = B.b * B.b
  | 0 => ⟨⟨by simp [numAll], fun m hm => by
      have e : m = k := by simpa [numAll] using hm
      rw [e]; exact hk⟩, Nat.le_refl _, fun r hr => by simp [numAll] at hr⟩
  | j + 1 => by
    obtain ⟨h1, h2, h3⟩ := numAll_ok ho hk j
    unfold numAll numStep
    split
    · rename_i k' hk'
      have hk2 := h1.lt k' (List.mem_of_getElem? hk')
      have hr := ho.row hk2
      obtain ⟨g1, g2, g3⟩ := fold_ok (B.row k') ((numAll B k j).1, []) (fun p hp => (hr.inn p hp).2.2.2.2) h1
      refine ⟨g1, ?_, fun r hr2 => ?_⟩
      · show ((numAll B k j).2 ++ [_]).length ≤ j + 1
        rw [List.length_append]
        show _ + 1 ≤ j + 1
        omega
      · rcases List.mem_append.mp hr2 with hr2 | hr2
        · exact h3 r hr2
        · have e : r = (numRow (numAll B k j).1 (B.row k')).2 := by simpa using hr2
          rw [e]
          show (List.foldl numPart ((numAll B k j).1, []) (B.row k')).2.length = _
          rw [g3, hr.len]
          show 0 + _ = _
          omega
    · exact ⟨h1, by omega, h3⟩
theorem numAll_stay {B : Book} {k j : Nat} (h : (numAll B k j).1.length ≤ j) : ∀ i, numAll B k (j + i) = numAll B k j
  | 0 => rfl
  | i + 1 => by
    show numStep B (j + i) (numAll B k (j + i)) = _
    rw [numAll_stay h i]
    unfold numStep
    rw [List.getElem?_eq_none (by omega)]
theorem numAll_next {B : Book} {k j kk : Nat} (h : (numAll B k j).1[j]? = some kk) : numAll B k (j + 1) = ((numRow (numAll B k j).1 (B.row kk)).1, (numAll B k j).2 ++ [(numRow (numAll B k j).1 (B.row kk)).2]) := by
  show numStep B j (numAll B k j) = _
  unfold numStep
  rw [h]
/-! the numbers by name -/
def metD (o : List Nat) : List (Key × D) := o.zipIdx.map fun p => (Sum.inl (p.1 : Int), .int (p.2 : Int))
theorem metD_snoc {o : List Nat} {k : Nat} : metD (o ++ [k]) = metD o ++ [(Sum.inl (k : Int), .int (o.length : Int))] := by
  unfold metD
  rw [List.zipIdx_append]; simp
theorem metD_len {o : List Nat} : (metD o).length = o.length := by unfold metD; simp
theorem look_metA {k : Nat} : ∀ (o : List Nat) (n : Nat), look (o.zipIdx n |>.map fun p => ((Sum.inl (p.1 : Int) : Key), (PyData.int (p.2 : Int)))) (Sum.inl (k : Int)) = if k ∈ o then some (.int ((o.idxOf k + n : Nat) : Int)) else none
  | [], n => rfl
  | a :: o, n => by
    have ih := look_metA (k := k) o (n + 1)
    unfold look at ih ⊢
    rw [List.zipIdx_cons, List.map_cons, List.find?_cons]
    by_cases e : a = k
    · subst e
      simp
    · have e2 : ¬ ((a : Int) = (k : Int)) := by omega
      have e3 : ¬ ((Sum.inl (a : Int) : Key) = Sum.inl (k : Int)) := fun z => e2 (Sum.inl.inj z)
      simp only [e3, decide_false]
      rw [ih]
      have e4 : k ∈ a :: o ↔ k ∈ o := by simp [Ne.symm (fun z => e z : a ≠ k)]
      by_cases h : k ∈ o
      · have e5 : (a == k) = false := by simpa using e
        rw [if_pos h, if_pos (e4.mpr h), List.idxOf_cons, e5]
        have e6 : List.idxOf k o + (n + 1) = (bif false then 0 else List.idxOf k o + 1) + n := by
          show _ = List.idxOf k o + 1 + n
          omega
        rw [e6]
      · rw [if_neg h, if_neg (fun z => h (e4.mp z))]
theorem look_met {o : List Nat} {k : Nat} : look (metD o) (Sum.inl (k : Int)) = if k ∈ o then some (.int (o.idxOf k : Int)) else none := look_metA o 0
theorem put_met {o : List Nat} {k : Nat} (h : k ∉ o) : Fl.put (metD o) (Sum.inl (k : Int)) (.int (o.length : Int)) = metD (o ++ [k]) := by
  have h1 := look_met (o := o) (k := k)
  rw [if_neg h] at h1
  unfold Fl.put
  rw [if_neg, metD_snoc]
  intro z
  obtain ⟨p, hp, e⟩ := List.any_eq_true.mp z
  unfold look at h1
  rw [Option.map_eq_none_iff, List.find?_eq_none] at h1
  exact h1 p hp e
/-! begun, turned: either way about -/
theorem numPart_pose {b r m : Nat} {s : List Nat × Row} {p : Part} : numPart (s.1, s.2.map (posePart b r m)) (posePart b r m p) = ((numPart s p).1, (numPart s p).2.map (posePart b r m)) := by
  unfold numPart
  rw [List.map_append]
  rfl
theorem fold_pose {b r m : Nat} : ∀ (row : Row) (s : List Nat × Row), (row.map (posePart b r m)).foldl numPart (s.1, s.2.map (posePart b r m)) = ((row.foldl numPart s).1, (row.foldl numPart s).2.map (posePart b r m))
  | [], s => rfl
  | p :: row, s => by
    rw [List.map_cons, List.foldl_cons, List.foldl_cons, numPart_pose]
    exact fold_pose row (numPart s p)
theorem row_turned {B : Book} {r m k : Nat} : (turned B r m).row k = (B.row k).map (posePart B.b r m) := by
  unfold Book.row turned
  rw [List.getD_eq_getElem?_getD, List.getD_eq_getElem?_getD, List.getElem?_map]
  cases B.kinds[k]? <;> rfl
theorem numAll_turned {B : Book} {r m k : Nat} : ∀ j, numAll (turned B r m) k j = ((numAll B k j).1, (numAll B k j).2.map fun row => row.map (posePart B.b r m))
  | 0 => rfl
  | j + 1 => by
    have ih := numAll_turned (B := B) (r := r) (m := m) (k := k) j
    show numStep _ j (numAll (turned B r m) k j) = ((numStep B j (numAll B k j)).1, (numStep B j (numAll B k j)).2.map fun row => row.map (posePart B.b r m))
    rw [ih]
    generalize numAll B k j = s
    unfold numStep
    dsimp only
    cases h : s.1[j]? with
    | none => rfl
    | some kk =>
      dsimp only
      rw [row_turned]
      have h1 := fold_pose (b := B.b) (r := r) (m := m) (B.row kk) (s.1, [])
      unfold numRow
      rw [show (s.1, ([] : Row)) = ((s.1, ([] : Row)).1, ((s.1, ([] : Row)).2.map (posePart B.b r m))) from rfl, h1, List.map_append]
      rfl
theorem begun_turned {B : Book} {r m k : Nat} : begun (turned B r m) k = turned (begun B k) r m := by
  unfold begun
  have e : (turned B r m).kinds.length = B.kinds.length := List.length_map _
  rw [e, numAll_turned]
  rfl
end Bk
set_option autoImplicit false
set_option Elab.async false
set_option linter.all false
set_option maxRecDepth 100000
set_option maxHeartbeats 2000000
namespace Bk
open PySem Fl L2
/-! ### the pot -/
structure Pot where
  cells : List Int
  at_ : Nat
  rest : Int
  mix : Int
  turn : Int
abbrev kS (s : Str) : Key := Sum.inr s
def potL (p : Pot) : List (Key × D) := [(kS "cells", .list (p.cells.map PyData.int)), (kS "at", .int (p.at_ : Nat)), (kS "rest", .int p.rest), (kS "mix", .int p.mix), (kS "turn", .int p.turn), (kS "some", .int 3)]
def potC (p : Pot) : Ct := .dk (potL p)
structure PotOk (p : Pot) : Prop where
  rest : 0 ≤ p.rest
  mix : 0 ≤ p.mix ∧ p.mix < 4294967291
theorem look_cells {p : Pot} : look (potL p) (kS "cells") = some (.list (p.cells.map PyData.int)) := rfl
theorem look_at {p : Pot} : look (potL p) (kS "at") = some (.int (p.at_ : Nat)) := rfl
theorem look_rest {p : Pot} : look (potL p) (kS "rest") = some (.int p.rest) := rfl
theorem look_mix {p : Pot} : look (potL p) (kS "mix") = some (.int p.mix) := rfl
theorem look_turn {p : Pot} : look (potL p) (kS "turn") = some (.int p.turn) := rfl
theorem put_at {p : Pot} {n : Nat} : Fl.put (potL p) (kS "at") (.int (n : Nat)) = potL { p with at_ := n } := rfl
theorem put_rest {p : Pot} {n : Int} : Fl.put (potL p) (kS "rest") (.int n) = potL { p with rest := n } := rfl
theorem put_mix {p : Pot} {n : Int} : Fl.put (potL p) (kS "mix") (.int n) = potL { p with mix := n } := rfl
theorem put_turn {p : Pot} {n : Int} : Fl.put (potL p) (kS "turn") (.int n) = potL { p with turn := n } := rfl
def fill (p : Pot) : Pot :=
  if p.rest = 0 ∧ p.at_ < p.cells.length then
    if p.cells.getD p.at_ 0 ≥ 10 ^ 18 then { p with at_ := p.at_ + 1, rest := p.cells.getD p.at_ 0 - 10 ^ 18 }
    else { p with at_ := p.at_ + 1, mix := (p.mix * 31 + p.cells.getD p.at_ 0 * 7 + 1) % 4294967291 }
  else p
def stir (p : Pot) : Pot := { p with turn := p.turn + 1, mix := (p.mix * 279470273 + 104729 * (p.turn + 1)) % 4294967291 }
def mixed (p : Pot) : Int := (p.mix * p.mix / 1009 + p.mix) % 2147483647
def drawP (p : Pot) (many : Nat) : Pot := if (fill p).rest > 0 then { fill p with rest := (fill p).rest / many } else stir (fill p)
def drawV (p : Pot) (many : Nat) : Nat := if (fill p).rest > 0 then ((fill p).rest % many).toNat else (mixed (stir (fill p)) / 5 % many).toNat
theorem fill_ok {p : Pot} (h : PotOk p) : PotOk (fill p) := by
  unfold fill
  split
  · split
    · rename_i hc
      refine ⟨?_, h.mix⟩
      dsimp only
      omega
    · exact ⟨h.rest, Int.emod_nonneg _ (by decide), Int.emod_lt_of_pos _ (by decide)⟩
  · exact h
theorem stir_ok {p : Pot} (h : PotOk p) : PotOk (stir p) := ⟨h.rest, Int.emod_nonneg _ (by decide), Int.emod_lt_of_pos _ (by decide)⟩
theorem drawP_ok {p : Pot} {many : Nat} (h : PotOk p) : PotOk (drawP p many) := by
  unfold drawP
  split
  · exact ⟨Int.ediv_nonneg (fill_ok h).rest (by omega), (fill_ok h).mix⟩
  · exact stir_ok (fill_ok h)
theorem drawV_lt {p : Pot} {many : Nat} (h : 0 < many) : drawV p many < many := by
  have h1 : ∀ x : Int, (x % (many : Int)).toNat < many := fun x => by
    have := Int.emod_nonneg x (show (many : Int) ≠ 0 by omega)
    have := Int.emod_lt_of_pos x (show (0 : Int) < many by omega)
    omega
  unfold drawV
  split <;> exact h1 _
end Bk
set_option autoImplicit false
set_option Elab.async false
set_option linter.all false
set_option maxRecDepth 100000
set_option maxHeartbeats 2000000
namespace Bk
open PySem Fl L2
/-! ### figures from the other end -/
theorem div_low {a b c : Nat} : a / b / c = a / (b * c) := Nat.div_div_eq_div_mul a b c
theorem mod_low {m K c : Nat} : (m / K) % c = (m % (c * K)) / K := by
  rw [Nat.mul_comm c K]
  exact (Nat.mod_mul_right_div_self m K c).symm
theorem kindsAt_ne {B : Book} {k d n : Nat} : ∃ pre kk, kindsAt B k d n = pre ++ [kk] := by
  have h : (kindsAt B k d n) ≠ [] := by
    intro z
    have := kindsAt_len (B := B) d k n
    rw [z] at this
    cases this
  exact ⟨_, _, (List.dropLast_concat_getLast h).symm⟩
theorem snoc {B : Book} (ho : BookOk B) : ∀ (i k m : Nat), m < cells B (i + 1) → ∀ (pre : List Nat) (kk : Nat), kindsAt B k i (m / (B.b * B.b)) = pre ++ [kk] →
    kindsAt B k (i + 1) m = pre ++ [kk] ++ [(B.part kk (m % (B.b * B.b))).2.2] ∧ (cellAt B k (i + 1) m).1 = B.b * (cellAt B k i (m / (B.b * B.b))).1 + (B.part kk (m % (B.b * B.b))).1 ∧ (cellAt B k (i + 1) m).2 = B.b * (cellAt B k i (m / (B.b * B.b))).2 + (B.part kk (m % (B.b * B.b))).2.1
  | 0, k, m, hm, pre, kk, h => by
    rw [kindsAt_zero] at h
    have h1 : pre = [] := by
      cases pre with
      | nil => rfl
      | cons a l => cases l <;> simp at h
    subst h1
    have e : k = kk := by simpa using h
    subst e
    have e1 : cells B 0 = 1 := rfl
    have e2 : cells B 1 = B.b * B.b := by rw [cells_succ, e1, Nat.one_mul]
    rw [e2] at hm
    have e3 : m % (B.b * B.b) = m := Nat.mod_eq_of_lt hm
    rw [kindsAt_succ, cellAt_fst, cellAt_snd, cellAt_zero, kindsAt_zero, e1, e3, Nat.div_one, cellAt_zero]
    have e4 : ((side B 0 : Nat) : Int) = 1 := rfl
    rw [e4]
    simp
  | i + 1, k, m, hm, pre, kk, h => by
    have hK : 0 < B.b * B.b := Nat.mul_pos (by have := ho.b2; omega) (by have := ho.b2; omega)
    have hd : m / (B.b * B.b) / cells B i = m / cells B (i + 1) := by rw [div_low, cells_succ, Nat.mul_comm]
    have hmo : (m / (B.b * B.b)) % cells B i = (m % cells B (i + 1)) / (B.b * B.b) := by rw [mod_low, cells_succ]
    have hmm : m % cells B (i + 1) % (B.b * B.b) = m % (B.b * B.b) := by
      rw [cells_succ]; exact Nat.mod_mul_left_mod m (cells B i) (B.b * B.b)
    rw [kindsAt_succ, hd, hmo] at h
    obtain ⟨pre', kk', hk'⟩ := kindsAt_ne (B := B) (k := (B.part k (m / cells B (i + 1))).2.2) (d := i) (n := (m % cells B (i + 1)) / (B.b * B.b))
    rw [hk'] at h
    have h' : (k :: pre') ++ [kk'] = pre ++ [kk] := h
    obtain ⟨e1, e2⟩ := List.append_inj' h' rfl
    have e2 : kk' = kk := by simpa using e2
    subst e2
    obtain ⟨g1, g2, g3⟩ := snoc ho i (B.part k (m / cells B (i + 1))).2.2 (m % cells B (i + 1)) (rest_lt ho _ _) pre' kk' hk'
    rw [hmm] at g1 g2 g3
    refine ⟨?_, ?_, ?_⟩
    · rw [kindsAt_succ, g1, ← e1]; rfl
    · rw [cellAt_fst, g2, cellAt_fst (d := i), hd, hmo, side_succ]
      push_cast
      rw [Int.mul_add, Int.add_assoc]
      congr 1
      rw [Int.mul_comm (side B i : Int) B.b, ← Int.mul_assoc, ← Int.mul_assoc, Int.mul_comm (B.part k (m / cells B (i + 1))).1]
    · rw [cellAt_snd, g3, cellAt_snd (d := i), hd, hmo, side_succ]
      push_cast
      rw [Int.mul_add, Int.add_assoc]
      congr 1
      rw [Int.mul_comm (side B i : Int) B.b, ← Int.mul_assoc, ← Int.mul_assoc, Int.mul_comm (B.part k (m / cells B (i + 1))).2.1]
/-! ### turned and backward, cell by cell -/
theorem turns_add {b s : Int} {p c : Int × Int} : ∀ r, turns (s * b) r (p.1 * s + c.1, p.2 * s + c.2) = ((turns b r p).1 * s + (turns s r c).1, (turns b r p).2 * s + (turns s r c).2)
  | 0 => rfl
  | r + 1 => by
    unfold turns
    rw [turns_add r]
    unfold turn1
    refine Prod.ext ?_ rfl
    dsimp only
    rw [Int.sub_mul, Int.sub_mul, Int.one_mul, Int.mul_comm s b]
    omega
theorem posed_add {b s : Int} {p c : Int × Int} {r m : Nat} : posed (s * b) (p.1 * s + c.1, p.2 * s + c.2) r m = ((posed b p r m).1 * s + (posed s c r m).1, (posed b p r m).2 * s + (posed s c r m).2) := by
  unfold posed
  rw [turns_add]
  dsimp only
  split <;> rfl
theorem turns_one : ∀ r, turns 1 r (0, 0) = (0, 0)
  | 0 => rfl
  | r + 1 => by unfold turns; rw [turns_one r]; rfl
theorem posed_one {r m : Nat} : posed 1 (0, 0) r m = (0, 0) := by
  unfold posed
  rw [turns_one]
  dsimp only
  split <;> rfl
theorem part_turned {B : Book} (ho : BookOk B) {r m k i : Nat} (hk : k < B.kinds.length) (hi : i < B.b * B.b) : (turned B r m).part k i = posePart B.b r m (B.part k i) := by
  unfold Book.part
  rw [row_turned, getD_of (x := posePart B.b r m (B.part k i)) (by rw [List.getElem?_map, ho.part_get hk hi]; rfl), getD_of (ho.part_get hk hi)]
theorem cells_turned {B : Book} {r m d : Nat} : cells (turned B r m) d = cells B d := rfl
theorem side_turned {B : Book} {r m d : Nat} : side (turned B r m) d = side B d := rfl
theorem at_turned {B : Book} (ho : BookOk B) {r m : Nat} : ∀ (d k n : Nat), k < B.kinds.length → n < cells B d → cellAt (turned B r m) k d n = posed (side B d) (cellAt B k d n) r m ∧ kindsAt (turned B r m) k d n = kindsAt B k d n
  | 0, k, n, _, _ => ⟨posed_one.symm, rfl⟩
  | d + 1, k, n, hk, hn => by
    have hdig := dig_lt ho hn
    have hp := ho.part hk hdig
    obtain ⟨h1, h2⟩ := at_turned ho (r := r) (m := m) d _ _ hp.2.2.2.2 (rest_lt ho d n)
    have ep := part_turned ho (r := r) (m := m) hk hdig
    have ee : (posePart B.b r m (B.part k (n / cells B d))).2.2 = (B.part k (n / cells B d)).2.2 := rfl
    refine ⟨?_, ?_⟩
    · have e : cellAt B k (d + 1) n = ((B.part k (n / cells B d)).1 * side B d + (cellAt B (B.part k (n / cells B d)).2.2 d (n % cells B d)).1, (B.part k (n / cells B d)).2.1 * side B d + (cellAt B (B.part k (n / cells B d)).2.2 d (n % cells B d)).2) := rfl
      have e2 : ((side B (d + 1) : Nat) : Int) = side B d * B.b := by rw [side_succ]; push_cast; rfl
      rw [e, e2, posed_add (p := ((B.part k (n / cells B d)).1, (B.part k (n / cells B d)).2.1)), ← h1]
      refine Prod.ext ?_ ?_
      · rw [cellAt_fst, cells_turned, side_turned, ep, ee]; rfl
      · rw [cellAt_snd, cells_turned, side_turned, ep, ee]; rfl
    · rw [kindsAt_succ, kindsAt_succ, cells_turned, ep, ee, h2]
theorem row_backward {B : Book} {k : Nat} : (backward B).row k = (B.row k).reverse := by
  unfold Book.row backward
  rw [List.getD_eq_getElem?_getD, List.getD_eq_getElem?_getD, List.getElem?_map]
  cases B.kinds[k]? <;> rfl
theorem part_backward {B : Book} (ho : BookOk B) {k i : Nat} (hk : k < B.kinds.length) (hi : i < B.b * B.b) : (backward B).part k i = B.part k (B.b * B.b - 1 - i) := by
  have hl := (ho.row hk).len
  show ((backward B).row k).getD i (0, 0, 0) = _
  rw [row_backward]
  refine getD_of ?_
  rw [List.getElem?_reverse (by omega), hl]
  exact ho.part_get hk (by omega)
theorem at_backward {B : Book} (ho : BookOk B) : ∀ (d k n : Nat), k < B.kinds.length → n < cells B d → cellAt (backward B) k d n = cellAt B k d (cells B d - 1 - n) ∧ kindsAt (backward B) k d n = kindsAt B k d (cells B d - 1 - n)
  | 0, k, n, _, _ => ⟨rfl, rfl⟩
  | d + 1, k, n, hk, hn => by
    have hdig := dig_lt ho hn
    have hcp := cells_pos ho d
    have hK : B.b * B.b - 1 - n / cells B d < B.b * B.b := by
      have h := hdig
      generalize n / cells B d = x at h ⊢
      generalize B.b * B.b = y at h ⊢
      omega
    have hp := ho.part hk hK
    obtain ⟨h1, h2⟩ := at_backward ho d _ _ hp.2.2.2.2 (rest_lt ho d n)
    have ec : cells (backward B) d = cells B d := rfl
    have es : side (backward B) d = side B d := rfl
    have ep := part_backward ho hk hdig
    -- figures of the number from the other end
    have hn1 := Nat.div_add_mod n (cells B d)
    have hm1 := rest_lt ho d n
    have key : cells B (d + 1) - 1 - n = cells B d * (B.b * B.b - 1 - n / cells B d) + (cells B d - 1 - n % cells B d) := by
      rw [cells_succ]
      have h3 : cells B d * (B.b * B.b) = cells B d * (B.b * B.b - 1 - n / cells B d) + cells B d * (n / cells B d) + cells B d := by
        rw [← Nat.mul_add, ← Nat.mul_succ]
        congr 1; omega
      omega
    have k1 : (cells B (d + 1) - 1 - n) / cells B d = B.b * B.b - 1 - n / cells B d := by
      have e0 : (cells B d - 1 - n % cells B d) / cells B d = 0 := Nat.div_eq_of_lt (by omega)
      rw [key, Nat.mul_add_div hcp, e0, Nat.add_zero]
    have k2 : (cells B (d + 1) - 1 - n) % cells B d = cells B d - 1 - n % cells B d := by
      rw [key, Nat.mul_add_mod, Nat.mod_eq_of_lt (by omega)]
    refine ⟨?_, ?_⟩
    · refine Prod.ext ?_ ?_
      · rw [cellAt_fst, cellAt_fst, ec, es, ep, k1, k2, h1]
      · rw [cellAt_snd, cellAt_snd, ec, es, ep, k1, k2, h1]
    · rw [kindsAt_succ, kindsAt_succ, ec, ep, k1, k2, h2]
/-- the picture that a law makes -/
def pict (B : Book) (r m bk : Nat) : Book := if bk = 1 then backward (turned B r m) else turned B r m
def far (B : Book) (d n bk : Nat) : Nat := if bk = 1 then cells B d - 1 - n else n
theorem pict_ok {B : Book} (ho : BookOk B) (r m bk : Nat) : BookOk (pict B r m bk) := by
  unfold pict
  split
  · exact (ho.turned r m).backward
  · exact ho.turned r m
theorem pict_len {B : Book} {r m bk : Nat} : (pict B r m bk).kinds.length = B.kinds.length := by
  unfold pict
  split
  · show (List.map _ (List.map _ _)).length = _
    rw [List.length_map, List.length_map]
  · show (List.map _ _).length = _
    rw [List.length_map]
theorem pict_cells {B : Book} {r m bk d : Nat} : cells (pict B r m bk) d = cells B d := by unfold pict; split <;> rfl
theorem far_lt {B : Book} (ho : BookOk B) {d n bk : Nat} (h : n < cells B d) : far B d n bk < cells B d := by
  unfold far
  have := cells_pos ho d
  split <;> omega
theorem at_pict {B : Book} (ho : BookOk B) {r m bk d k n : Nat} (hk : k < B.kinds.length) (hn : n < cells B d) : cellAt (pict B r m bk) k d n = posed (side B d) (cellAt B k d (far B d n bk)) r m ∧ kindsAt (pict B r m bk) k d n = kindsAt B k d (far B d n bk) := by
  have hf := far_lt ho (bk := bk) hn
  unfold pict far at *
  split
  · rename_i h
    rw [if_pos h] at hf
    have hl : k < (turned B r m).kinds.length := by
      show k < (List.map _ _).length
      rw [List.length_map]; exact hk
    obtain ⟨h1, h2⟩ := at_backward (ho.turned r m) d k n hl hn
    obtain ⟨h3, h4⟩ := at_turned ho (r := r) (m := m) d k _ hk hf
    exact ⟨h1.trans h3, h2.trans h4⟩
  · exact at_turned ho d k n hk hn
end Bk
set_option autoImplicit false
set_option Elab.async false
set_option linter.all false
set_option maxRecDepth 100000
set_option maxHeartbeats 2000000
namespace Bk
open PySem Fl L2
/-! ### drawn rows -/
def pl (p : Part) : Int × Int := (p.1, p.2.1)
structure PartRow (b many i : Nat) (L : List (Int × Int)) (row : Row) : Prop where
  nod : (row.map pl ++ L).Nodup
  inL : ∀ c ∈ L, 0 ≤ c.1 ∧ c.1 < b ∧ 0 ≤ c.2 ∧ c.2 < b
  inR : ∀ p ∈ row, 0 ≤ p.1 ∧ p.1 < b ∧ 0 ≤ p.2.1 ∧ p.2.1 < b ∧ p.2.2 < many
  lr : row.length = i
  lL : L.length + i = b * b
def left0 (b : Nat) : List (Int × Int) := (List.range (b * b)).map fun (i : Nat) => ((i : Int) / (b : Int), (i : Int) % (b : Int))
theorem left0_ok {b many : Nat} (h : b = 2 ∨ b = 3) : PartRow b many 0 (left0 b) [] := by
  refine ⟨?_, ?_, (fun p hp => by cases hp), rfl, ?_⟩
  · rcases h with rfl | rfl <;> decide
  · rcases h with rfl | rfl <;> decide
  · unfold left0; simp
theorem erase_perm {α : Type} : ∀ (L : List α) (j : Nat) (h : j < L.length), (L[j] :: L.eraseIdx j).Perm L
  | [], j, h => absurd h (Nat.not_lt_zero _)
  | a :: l, 0, _ => List.Perm.refl _
  | a :: l, j + 1, h => by
    have h' : j < l.length := by simpa using h
    have ih := erase_perm l j h'
    show (l[j] :: a :: l.eraseIdx j).Perm (a :: l)
    exact (List.Perm.swap _ _ _).trans (List.Perm.cons a ih)
theorem PartRow.step {b many i : Nat} {L : List (Int × Int)} {row : Row} (h : PartRow b many i L row) {j o : Nat} {x : Int × Int} (hx : L[j]? = some x) (ho : o < many) : PartRow b many (i + 1) (L.eraseIdx j) (row ++ [(x.1, x.2, o)]) := by
  obtain ⟨hj, ex⟩ := List.getElem?_eq_some_iff.mp hx
  have hp : (x :: L.eraseIdx j).Perm L := by
    rw [← ex]; exact erase_perm L j hj
  refine ⟨?_, fun c hc => h.inL c (List.mem_of_mem_eraseIdx hc), fun p hp => ?_, ?_, ?_⟩
  · have e : (row ++ [(x.1, x.2, o)]).map pl ++ L.eraseIdx j = row.map pl ++ (x :: L.eraseIdx j) := by
      rw [List.map_append, List.append_assoc]; rfl
    rw [e]
    exact (List.Perm.append_left _ hp).nodup_iff.mpr h.nod
  · rcases List.mem_append.mp hp with hp | hp
    · exact h.inR p hp
    · have e : p = (x.1, x.2, o) := by simpa using hp
      have := h.inL x (List.mem_of_getElem? hx)
      rw [e]
      exact ⟨this.1, this.2.1, this.2.2.1, this.2.2.2, ho⟩
  · rw [List.length_append, h.lr]; rfl
  · have := h.lL
    rw [List.length_eraseIdx_of_lt hj]
    omega
theorem PartRow.done {b many : Nat} {L : List (Int × Int)} {row : Row} (h : PartRow b many (b * b) L row) : RowOk b many row := by
  refine ⟨h.lr, h.inR, ?_⟩
  exact (List.nodup_append.mp h.nod).1
theorem bookOk_of {b many : Nat} {rows : List Row} (hb : b = 2 ∨ b = 3) (hm : 1 ≤ many) (hm2 : many ≤ 100) (hl : rows.length = many) (h : ∀ r ∈ rows, RowOk b many r) : BookOk ⟨b, rows⟩ := by
  refine ⟨hb, ?_, ?_, ?_⟩
  · intro z
    have e : rows = [] := z
    rw [e] at hl
    have : many = 0 := by simpa using hl.symm
    omega
  · show rows.length ≤ 100
    omega
  · intro r hr
    show RowOk b rows.length r
    rw [hl]; exact h r hr
/-! ### paths -/
def path2 : List Row := [[(0, 0, 1), (0, 1, 0), (1, 1, 0), (1, 0, 2)], [(0, 0, 0), (1, 0, 1), (1, 1, 1), (0, 1, 3)], [(1, 1, 3), (0, 1, 2), (0, 0, 2), (1, 0, 0)], [(1, 1, 2), (1, 0, 3), (0, 0, 3), (0, 1, 1)]]
def py3 (i : Nat) : Nat := if i / 3 ≠ 1 then i % 3 else 2 - i % 3
def pth (f0 f1 i : Nat) : Part := (if f0 = 1 then 2 - ((i / 3 : Nat) : Int) else ((i / 3 : Nat) : Int), if f1 = 1 then 2 - ((py3 i : Nat) : Int) else ((py3 i : Nat) : Int), 2 * ((f0 + py3 i) % 2) + (f1 + i / 3) % 2)
def flips : List (Nat × Nat) := [(0, 0), (0, 1), (1, 0), (1, 1)]
def pthRow (f : Nat × Nat) : Row := (List.range 9).map (pth f.1 f.2)
def path3 : List Row := flips.map pthRow
def rowOkB (b many : Nat) (r : Row) : Bool := decide (r.length = b * b) && r.all (fun p => decide (0 ≤ p.1) && decide (p.1 < b) && decide (0 ≤ p.2.1) && decide (p.2.1 < b) && decide (p.2.2 < many)) && decide ((r.map fun p => (p.1, p.2.1)).Nodup)
theorem rowOk_of {b many : Nat} {r : Row} (h : rowOkB b many r = true) : RowOk b many r := by
  unfold rowOkB at h
  simp only [Bool.and_eq_true, decide_eq_true_eq, List.all_eq_true] at h
  obtain ⟨⟨h1, h2⟩, h3⟩ := h
  exact ⟨h1, fun p hp => by have := h2 p hp; omega, h3⟩
theorem path2_ok : BookOk ⟨2, path2⟩ := bookOk_of (many := 4) (Or.inl rfl) (by decide) (by decide) rfl fun r hr => rowOk_of (by
  have : ∀ r ∈ path2, rowOkB 2 4 r = true := by decide
  exact this r hr)
theorem path3_ok : BookOk ⟨3, path3⟩ := bookOk_of (many := 4) (Or.inr rfl) (by decide) (by decide) rfl fun r hr => rowOk_of (by
  have : ∀ r ∈ path3, rowOkB 3 4 r = true := by decide
  exact this r hr)
theorem pth_kind : ∀ (f0 f1 : Fin 2) (i : Fin 9), 2 * Builtin.bitXor ((f0.val : Nat) : Int) (Builtin.bitAnd ((py3 i.val : Nat) : Int) 1) + Builtin.bitXor ((f1.val : Nat) : Int) (Builtin.bitAnd ((i.val / 3 : Nat) : Int) 1) = (((pth f0.val f1.val i.val).2.2 : Nat) : Int) := by decide +kernel
/-! ### all of them -/
theorem nodup_all {n : Nat} {o : List Nat} (hn : o.Nodup) (h : ∀ m ∈ o, m < n) (hl : o.length = n) {m : Nat} (hm : m < n) : m ∈ o := by
  by_cases hi : m ∈ o
  · exact hi
  · have := nodup_le n (o := m :: o) (List.nodup_cons.mpr ⟨hi, hn⟩) fun x hx => by
      rcases List.mem_cons.mp hx with rfl | hx
      · exact hm
      · exact h x hx
    rw [List.length_cons] at this
    omega
/-! ### kinds named anew -/
def nameP (π : List Nat) (p : Part) : Part := (p.1, p.2.1, π.getD p.2.2 0)
structure Renamed (B : Book) (π : List Nat) (ks : List Row) : Prop where
  pl : π.length = B.kinds.length
  nod : π.Nodup
  lt : ∀ m ∈ π, m < B.kinds.length
  zero : π.getD 0 0 = 0
  len : ks.length = B.kinds.length
  rows : ∀ k, k < B.kinds.length → ks[π.getD k 0]? = some ((B.row k).map (nameP π))
theorem Renamed.get {B : Book} {π : List Nat} {ks : List Row} (h : Renamed B π ks) {k : Nat} (hk : k < B.kinds.length) : π[k]? = some (π.getD k 0) ∧ π.getD k 0 < B.kinds.length := by
  have hl : k < π.length := by rw [h.pl]; exact hk
  have e := List.getElem?_eq_getElem hl
  rw [e, getD_of e]
  exact ⟨rfl, h.lt _ (List.getElem_mem hl)⟩
theorem Renamed.ok {B : Book} (ho : BookOk B) {π : List Nat} {ks : List Row} (h : Renamed B π ks) : BookOk ⟨B.b, ks⟩ := by
  refine ⟨ho.side, ?_, ?_, fun r hr => ?_⟩
  · intro z
    have e : ks = [] := z
    have := h.len
    rw [e] at this
    exact ho.ne (List.eq_nil_of_length_eq_zero this.symm)
  · show ks.length ≤ 100
    rw [h.len]; exact ho.few
  · show RowOk B.b ks.length r
    rw [h.len]
    obtain ⟨m, hm⟩ := List.mem_iff_getElem?.mp hr
    have hml : m < B.kinds.length := by rw [← h.len]; exact (List.getElem?_eq_some_iff.mp hm).1
    have hmem := nodup_all h.nod h.lt h.pl hml
    obtain ⟨k, hk⟩ := List.mem_iff_getElem?.mp hmem
    have hkl : k < B.kinds.length := by rw [← h.pl]; exact (List.getElem?_eq_some_iff.mp hk).1
    have e := h.rows k hkl
    rw [getD_of hk, hm] at e
    have e2 : r = (B.row k).map (nameP π) := by injection e
    rw [e2]
    have hr := ho.row hkl
    refine ⟨by rw [List.length_map]; exact hr.len, fun p hp => ?_, ?_⟩
    · obtain ⟨q, hq, rfl⟩ := List.mem_map.mp hp
      obtain ⟨h1, h2, h3, h4, h5⟩ := hr.inn q hq
      exact ⟨h1, h2, h3, h4, (h.get h5).2⟩
    · rw [List.map_map]
      exact hr.nod
theorem Renamed.part {B : Book} (ho : BookOk B) {π : List Nat} {ks : List Row} (h : Renamed B π ks) {k i : Nat} (hk : k < B.kinds.length) (hi : i < B.b * B.b) : Book.part ⟨B.b, ks⟩ (π.getD k 0) i = nameP π (B.part k i) := by
  have e : Book.row ⟨B.b, ks⟩ (π.getD k 0) = (B.row k).map (nameP π) := getD_of (h.rows k hk)
  show (Book.row ⟨B.b, ks⟩ (π.getD k 0)).getD i (0, 0, 0) = _
  rw [e]
  exact getD_of (by rw [List.getElem?_map, ho.part_get hk hi]; rfl)
theorem Renamed.at {B : Book} (ho : BookOk B) {π : List Nat} {ks : List Row} (h : Renamed B π ks) : ∀ (d k n : Nat), k < B.kinds.length → n < cells B d → cellAt ⟨B.b, ks⟩ (π.getD k 0) d n = cellAt B k d n ∧ kindsAt ⟨B.b, ks⟩ (π.getD k 0) d n = (kindsAt B k d n).map fun m => π.getD m 0
  | 0, k, n, _, _ => ⟨rfl, rfl⟩
  | d + 1, k, n, hk, hn => by
    have hdig := dig_lt ho hn
    have hp := ho.part hk hdig
    have ep := h.part ho hk hdig
    have ec : cells ⟨B.b, ks⟩ d = cells B d := rfl
    have es : side ⟨B.b, ks⟩ d = side B d := rfl
    have eo : (nameP π (B.part k (n / cells B d))).2.2 = π.getD (B.part k (n / cells B d)).2.2 0 := rfl
    obtain ⟨h1, h2⟩ := Renamed.at ho h d _ _ hp.2.2.2.2 (rest_lt ho d n)
    refine ⟨Prod.ext ?_ ?_, ?_⟩
    · rw [cellAt_fst, cellAt_fst, ec, es, ep, eo, h1]; rfl
    · rw [cellAt_snd, cellAt_snd, ec, es, ep, eo, h1]; rfl
    · rw [kindsAt_succ, kindsAt_succ, ec, ep, eo, h2]; rfl
/-! ### each kind twice -/
def halfP (p : Part) : Part := (p.1, p.2.1, p.2.2 / 2)
structure Doubled (B : Book) (ks : List Row) : Prop where
  len : ks.length = 2 * B.kinds.length
  rows : ∀ k, k < 2 * B.kinds.length → ∃ r, ks[k]? = some r ∧ r.map halfP = B.row (k / 2)
theorem Doubled.row {B : Book} {ks : List Row} (h : Doubled B ks) {k : Nat} (hk : k < 2 * B.kinds.length) : (Book.row ⟨B.b, ks⟩ k).map halfP = B.row (k / 2) := by
  obtain ⟨r, h1, h2⟩ := h.rows k hk
  have : Book.row ⟨B.b, ks⟩ k = r := getD_of h1
  rw [this]; exact h2
theorem Doubled.ok {B : Book} (ho : BookOk B) (h5 : B.kinds.length ≤ 50) {ks : List Row} (h : Doubled B ks) : BookOk ⟨B.b, ks⟩ := by
  have h0 : 0 < B.kinds.length := List.length_pos_iff.mpr ho.ne
  refine ⟨ho.side, ?_, ?_, fun r hr => ?_⟩
  · intro z
    have e : ks = [] := z
    have := h.len
    rw [e] at this
    simp at this
    omega
  · show ks.length ≤ 100
    rw [h.len]; omega
  · show RowOk B.b ks.length r
    rw [h.len]
    obtain ⟨k, hk⟩ := List.mem_iff_getElem?.mp hr
    have hkl : k < 2 * B.kinds.length := by rw [← h.len]; exact (List.getElem?_eq_some_iff.mp hk).1
    obtain ⟨r', h1, h2⟩ := h.rows k hkl
    rw [hk] at h1
    cases h1
    have hro := ho.row (show k / 2 < B.kinds.length by omega)
    rw [← h2] at hro
    refine ⟨by have := hro.len; rw [List.length_map] at this; exact this, fun p hp => ?_, ?_⟩
    · have := hro.inn (halfP p) (List.mem_map.mpr ⟨p, hp, rfl⟩)
      obtain ⟨g1, g2, g3, g4, g5⟩ := this
      have g6 : p.2.2 / 2 < B.kinds.length := g5
      exact ⟨g1, g2, g3, g4, by omega⟩
    · have := hro.nod
      rw [List.map_map] at this
      exact this
theorem Doubled.part {B : Book} (ho : BookOk B) {ks : List Row} (h : Doubled B ks) {k i : Nat} (hk : k < 2 * B.kinds.length) (hi : i < B.b * B.b) : halfP (Book.part ⟨B.b, ks⟩ k i) = B.part (k / 2) i := by
  have e := h.row hk
  have hg := ho.part_get (show k / 2 < B.kinds.length by omega) hi
  rw [← e, List.getElem?_map] at hg
  obtain ⟨q, hq, hq2⟩ := Option.map_eq_some_iff.mp hg
  have : Book.part ⟨B.b, ks⟩ k i = q := getD_of hq
  rw [this, hq2]
theorem Doubled.at {B : Book} (ho : BookOk B) {ks : List Row} (h : Doubled B ks) : ∀ (d k n : Nat), k < 2 * B.kinds.length → n < cells B d → cellAt ⟨B.b, ks⟩ k d n = cellAt B (k / 2) d n ∧ (kindsAt ⟨B.b, ks⟩ k d n).map (· / 2) = kindsAt B (k / 2) d n
  | 0, k, n, _, _ => ⟨rfl, rfl⟩
  | d + 1, k, n, hk, hn => by
    have hdig := dig_lt ho hn
    have hp := ho.part (show k / 2 < B.kinds.length by omega) hdig
    have ep := h.part ho hk hdig
    have ec : cells ⟨B.b, ks⟩ d = cells B d := rfl
    have es : side ⟨B.b, ks⟩ d = side B d := rfl
    generalize hq : Book.part ⟨B.b, ks⟩ k (n / cells B d) = q at ep
    have e1 : q.1 = (B.part (k / 2) (n / cells B d)).1 := by rw [← ep]; rfl
    have e2 : q.2.1 = (B.part (k / 2) (n / cells B d)).2.1 := by rw [← ep]; rfl
    have e3 : q.2.2 / 2 = (B.part (k / 2) (n / cells B d)).2.2 := by rw [← ep]; rfl
    have ho2 : q.2.2 < 2 * B.kinds.length := by have := hp.2.2.2.2; rw [← e3] at this; omega
    obtain ⟨h1, h2⟩ := Doubled.at ho h d q.2.2 (n % cells B d) ho2 (rest_lt ho d n)
    rw [e3] at h1 h2
    refine ⟨Prod.ext ?_ ?_, ?_⟩
    · rw [cellAt_fst, cellAt_fst, ec, es, hq, e1, h1]
    · rw [cellAt_snd, cellAt_snd, ec, es, hq, e2, h1]
    · rw [kindsAt_succ, kindsAt_succ, ec, hq, List.map_cons, h2]
end Bk
set_option Elab.async false
set_option linter.all false
set_option maxRecDepth 100000
set_option maxHeartbeats 0
namespace K20
open PySem PySem.Spec PyProof.Rows L2
def top (i : Nat) : Stmt := PySem.Challenge.pw_wholeamounts_k20_whole_threads_of_pictur.main.body.getD i (.Pass ⟨0, 0, 0, 0⟩)
abbrev s_is_integer : Stmt := top 10
abbrev s_is_natural : Stmt := top 11
abbrev s_is_below : Stmt := top 12
abbrev s_is_pair : Stmt := top 13
abbrev s_power : Stmt := top 14
abbrev s_is_cell_below : Stmt := top 15
abbrev s_is_posture : Stmt := top 16
abbrev s_posed : Stmt := top 17
abbrev s_is_part : Stmt := top 19
abbrev s_is_kind_of : Stmt := top 20
abbrev s_is_book : Stmt := top 21
abbrev s_check_book : Stmt := top 22
abbrev s_check_kind : Stmt := top 23
abbrev s_places_of : Stmt := top 24
abbrev s_numbered : Stmt := top 25
abbrev s_begun_of : Stmt := top 26
abbrev s_begun_at : Stmt := top 27
abbrev s_turned_of : Stmt := top 28
abbrev s_check_posture : Stmt := top 29
abbrev s_turned : Stmt := top 30
abbrev s_backward_of : Stmt := top 31
abbrev s_backward : Stmt := top 32
abbrev s_check_depth : Stmt := top 34
abbrev s_cells_each_way : Stmt := top 35
abbrev s_how_many_cells : Stmt := top 36
abbrev s_check_cell : Stmt := top 37
abbrev s_check_number : Stmt := top 38
abbrev s_check_many : Stmt := top 39
abbrev s_number_in : Stmt := top 40
abbrev s_number_of : Stmt := top 41
abbrev s_way_to : Stmt := top 42
abbrev s_cell_in : Stmt := top 43
abbrev s_cell_of : Stmt := top 44
abbrev s_kinds_on : Stmt := top 45
abbrev s_thread_of : Stmt := top 46
abbrev s_thread : Stmt := top 47
abbrev s_first_cell : Stmt := top 48
abbrev s_last_cell : Stmt := top 49
abbrev s_whole : Stmt := top 50
abbrev s_law_pot : Stmt := top 52
abbrev s_law_draw : Stmt := top 53
abbrev s_law_power : Stmt := top 54
abbrev s_law_same : Stmt := top 55
abbrev s_law_any_book : Stmt := top 56
abbrev s_law_posed : Stmt := top 57
abbrev s_law_path_book : Stmt := top 58
abbrev s_law_drawn_book : Stmt := top 59
abbrev s_law_picture : Stmt := top 60
abbrev s_law_figures : Stmt := top 61
abbrev s_law_way : Stmt := top 62
abbrev s_law_renamed : Stmt := top 63
abbrev s_law_doubled : Stmt := top 64
abbrev s_law_carried : Stmt := top 65
abbrev s_law_numbers_right : Stmt := top 66
abbrev s_law_whole_right : Stmt := top 67
abbrev s_law_begun : Stmt := top 68
abbrev s_law_names_right : Stmt := top 69
abbrev s_law : Stmt := top 70
def d_is_integer : He.DefD := ⟨("is_integer", none), "is_integer", "is_integer", defArgs s_is_integer, defBody s_is_integer, defScope s_is_integer, [], []⟩
def d_is_natural : He.DefD := ⟨("is_natural", none), "is_natural", "is_natural", defArgs s_is_natural, defBody s_is_natural, defScope s_is_natural, [], []⟩
def d_is_below : He.DefD := ⟨("is_below", none), "is_below", "is_below", defArgs s_is_below, defBody s_is_below, defScope s_is_below, [], []⟩
def d_is_pair : He.DefD := ⟨("is_pair", none), "is_pair", "is_pair", defArgs s_is_pair, defBody s_is_pair, defScope s_is_pair, [], []⟩
def d_power : He.DefD := ⟨("power", none), "power", "power", defArgs s_power, defBody s_power, defScope s_power, [], []⟩
def d_is_cell_below : He.DefD := ⟨("is_cell_below", none), "is_cell_below", "is_cell_below", defArgs s_is_cell_below, defBody s_is_cell_below, defScope s_is_cell_below, [], []⟩
def d_is_posture : He.DefD := ⟨("is_posture", none), "is_posture", "is_posture", defArgs s_is_posture, defBody s_is_posture, defScope s_is_posture, [], []⟩
def d_posed : He.DefD := ⟨("posed", none), "posed", "posed", defArgs s_posed, defBody s_posed, defScope s_posed, [], []⟩
def d_is_part : He.DefD := ⟨("is_part", none), "is_part", "is_part", defArgs s_is_part, defBody s_is_part, defScope s_is_part, [], []⟩
def d_is_kind_of : He.DefD := ⟨("is_kind_of", none), "is_kind_of", "is_kind_of", defArgs s_is_kind_of, defBody s_is_kind_of, defScope s_is_kind_of, [], []⟩
def d_is_book : He.DefD := ⟨("is_book", none), "is_book", "is_book", defArgs s_is_book, defBody s_is_book, defScope s_is_book, [], []⟩
def d_check_book : He.DefD := ⟨("check_book", none), "check_book", "check_book", defArgs s_check_book, defBody s_check_book, defScope s_check_book, [], []⟩
def d_check_kind : He.DefD := ⟨("check_kind", none), "check_kind", "check_kind", defArgs s_check_kind, defBody s_check_kind, defScope s_check_kind, [], []⟩
def d_places_of : He.DefD := ⟨("places_of", none), "places_of", "places_of", defArgs s_places_of, defBody s_places_of, defScope s_places_of, [], []⟩
def d_numbered : He.DefD := ⟨("numbered", none), "numbered", "numbered", defArgs s_numbered, defBody s_numbered, defScope s_numbered, [], []⟩
def d_begun_of : He.DefD := ⟨("begun_of", none), "begun_of", "begun_of", defArgs s_begun_of, defBody s_begun_of, defScope s_begun_of, [], []⟩
def d_begun_at : He.DefD := ⟨("begun_at", none), "begun_at", "begun_at", defArgs s_begun_at, defBody s_begun_at, defScope s_begun_at, [], []⟩
def d_turned_of : He.DefD := ⟨("turned_of", none), "turned_of", "turned_of", defArgs s_turned_of, defBody s_turned_of, defScope s_turned_of, [], []⟩
def d_check_posture : He.DefD := ⟨("check_posture", none), "check_posture", "check_posture", defArgs s_check_posture, defBody s_check_posture, defScope s_check_posture, [], []⟩
def d_turned : He.DefD := ⟨("turned", none), "turned", "turned", defArgs s_turned, defBody s_turned, defScope s_turned, [], []⟩
def d_backward_of : He.DefD := ⟨("backward_of", none), "backward_of", "backward_of", defArgs s_backward_of, defBody s_backward_of, defScope s_backward_of, [], []⟩
def d_backward : He.DefD := ⟨("backward", none), "backward", "backward", defArgs s_backward, defBody s_backward, defScope s_backward, [], []⟩
def d_check_depth : He.DefD := ⟨("check_depth", none), "check_depth", "check_depth", defArgs s_check_depth, defBody s_check_depth, defScope s_check_depth, [], []⟩
def d_cells_each_way : He.DefD := ⟨("cells_each_way", none), "cells_each_way", "cells_each_way", defArgs s_cells_each_way, defBody s_cells_each_way, defScope s_cells_each_way, [], []⟩
def d_how_many_cells : He.DefD := ⟨("how_many_cells", none), "how_many_cells", "how_many_cells", defArgs s_how_many_cells, defBody s_how_many_cells, defScope s_how_many_cells, [], []⟩
def d_check_cell : He.DefD := ⟨("check_cell", none), "check_cell", "check_cell", defArgs s_check_cell, defBody s_check_cell, defScope s_check_cell, [], []⟩
def d_check_number : He.DefD := ⟨("check_number", none), "check_number", "check_number", defArgs s_check_number, defBody s_check_number, defScope s_check_number, [], []⟩
def d_check_many : He.DefD := ⟨("check_many", none), "check_many", "check_many", defArgs s_check_many, defBody s_check_many, defScope s_check_many, [], []⟩
def d_number_in : He.DefD := ⟨("number_in", none), "number_in", "number_in", defArgs s_number_in, defBody s_number_in, defScope s_number_in, [], []⟩
def d_number_of : He.DefD := ⟨("number_of", none), "number_of", "number_of", defArgs s_number_of, defBody s_number_of, defScope s_number_of, [], []⟩
def d_way_to : He.DefD := ⟨("way_to", none), "way_to", "way_to", defArgs s_way_to, defBody s_way_to, defScope s_way_to, [], []⟩
def d_cell_in : He.DefD := ⟨("cell_in", none), "cell_in", "cell_in", defArgs s_cell_in, defBody s_cell_in, defScope s_cell_in, [], []⟩
def d_cell_of : He.DefD := ⟨("cell_of", none), "cell_of", "cell_of", defArgs s_cell_of, defBody s_cell_of, defScope s_cell_of, [], []⟩
def d_kinds_on : He.DefD := ⟨("kinds_on", none), "kinds_on", "kinds_on", defArgs s_kinds_on, defBody s_kinds_on, defScope s_kinds_on, [], []⟩
def d_thread_of : He.DefD := ⟨("thread_of", none), "thread_of", "thread_of", defArgs s_thread_of, defBody s_thread_of, defScope s_thread_of, [], []⟩
def d_thread : He.DefD := ⟨("thread", none), "thread", "thread", defArgs s_thread, defBody s_thread, defScope s_thread, [], []⟩
def d_first_cell : He.DefD := ⟨("first_cell", none), "first_cell", "first_cell", defArgs s_first_cell, defBody s_first_cell, defScope s_first_cell, [], []⟩
def d_last_cell : He.DefD := ⟨("last_cell", none), "last_cell", "last_cell", defArgs s_last_cell, defBody s_last_cell, defScope s_last_cell, [], []⟩
def d_whole : He.DefD := ⟨("whole", none), "whole", "whole", defArgs s_whole, defBody s_whole, defScope s_whole, [], []⟩
def d_law_pot : He.DefD := ⟨("_law_pot", none), "_law_pot", "_law_pot", defArgs s_law_pot, defBody s_law_pot, defScope s_law_pot, [], []⟩
def d_law_draw : He.DefD := ⟨("_law_draw", none), "_law_draw", "_law_draw", defArgs s_law_draw, defBody s_law_draw, defScope s_law_draw, [], []⟩
def d_law_power : He.DefD := ⟨("_law_power", none), "_law_power", "_law_power", defArgs s_law_power, defBody s_law_power, defScope s_law_power, [], []⟩
def d_law_same : He.DefD := ⟨("_law_same", none), "_law_same", "_law_same", defArgs s_law_same, defBody s_law_same, defScope s_law_same, [], []⟩
def d_law_any_book : He.DefD := ⟨("_law_any_book", none), "_law_any_book", "_law_any_book", defArgs s_law_any_book, defBody s_law_any_book, defScope s_law_any_book, [], []⟩
def d_law_posed : He.DefD := ⟨("_law_posed", none), "_law_posed", "_law_posed", defArgs s_law_posed, defBody s_law_posed, defScope s_law_posed, [], []⟩
def d_law_path_book : He.DefD := ⟨("_law_path_book", none), "_law_path_book", "_law_path_book", defArgs s_law_path_book, defBody s_law_path_book, defScope s_law_path_book, [], []⟩
def d_law_drawn_book : He.DefD := ⟨("_law_drawn_book", none), "_law_drawn_book", "_law_drawn_book", defArgs s_law_drawn_book, defBody s_law_drawn_book, defScope s_law_drawn_book, [], []⟩
def d_law_picture : He.DefD := ⟨("_law_picture", none), "_law_picture", "_law_picture", defArgs s_law_picture, defBody s_law_picture, defScope s_law_picture, [], []⟩
def d_law_figures : He.DefD := ⟨("_law_figures", none), "_law_figures", "_law_figures", defArgs s_law_figures, defBody s_law_figures, defScope s_law_figures, [], []⟩
def d_law_way : He.DefD := ⟨("_law_way", none), "_law_way", "_law_way", defArgs s_law_way, defBody s_law_way, defScope s_law_way, [], []⟩
def d_law_renamed : He.DefD := ⟨("_law_renamed", none), "_law_renamed", "_law_renamed", defArgs s_law_renamed, defBody s_law_renamed, defScope s_law_renamed, [], []⟩
def d_law_doubled : He.DefD := ⟨("_law_doubled", none), "_law_doubled", "_law_doubled", defArgs s_law_doubled, defBody s_law_doubled, defScope s_law_doubled, [], []⟩
def d_law_carried : He.DefD := ⟨("_law_carried", none), "_law_carried", "_law_carried", defArgs s_law_carried, defBody s_law_carried, defScope s_law_carried, [], []⟩
def d_law_numbers_right : He.DefD := ⟨("_law_numbers_right", none), "_law_numbers_right", "_law_numbers_right", defArgs s_law_numbers_right, defBody s_law_numbers_right, defScope s_law_numbers_right, [], []⟩
def d_law_whole_right : He.DefD := ⟨("_law_whole_right", none), "_law_whole_right", "_law_whole_right", defArgs s_law_whole_right, defBody s_law_whole_right, defScope s_law_whole_right, [], []⟩
def d_law_begun : He.DefD := ⟨("_law_begun", none), "_law_begun", "_law_begun", defArgs s_law_begun, defBody s_law_begun, defScope s_law_begun, [], []⟩
def d_law_names_right : He.DefD := ⟨("_law_names_right", none), "_law_names_right", "_law_names_right", defArgs s_law_names_right, defBody s_law_names_right, defScope s_law_names_right, [], []⟩
def d_law : He.DefD := ⟨("law", none), "law", "law", defArgs s_law, defBody s_law, defScope s_law, [], []⟩
def fn : List He.DefD := [d_is_integer, d_is_natural, d_is_below, d_is_pair, d_power, d_is_cell_below, d_is_posture, d_posed, d_is_part, d_is_kind_of, d_is_book, d_check_book, d_check_kind, d_places_of, d_numbered, d_begun_of, d_begun_at, d_turned_of, d_check_posture, d_turned, d_backward_of, d_backward, d_check_depth, d_cells_each_way, d_how_many_cells, d_check_cell, d_check_number, d_check_many, d_number_in, d_number_of, d_way_to, d_cell_in, d_cell_of, d_kinds_on, d_thread_of, d_thread, d_first_cell, d_last_cell, d_whole, d_law_pot, d_law_draw, d_law_power, d_law_same, d_law_any_book, d_law_posed, d_law_path_book, d_law_drawn_book, d_law_picture, d_law_figures, d_law_way, d_law_renamed, d_law_doubled, d_law_carried, d_law_numbers_right, d_law_whole_right, d_law_begun, d_law_names_right, d_law]
def fa : List He.Fa := [.glo "is_integer", .glo "is_natural", .glo "is_below", .glo "is_pair", .glo "power", .glo "is_cell_below", .glo "is_posture", .glo "posed", .glo "is_part", .glo "is_kind_of", .glo "is_book", .glo "check_book", .glo "check_kind", .glo "places_of", .glo "numbered", .glo "begun_of", .glo "begun_at", .glo "turned_of", .glo "check_posture", .glo "turned", .glo "backward_of", .glo "backward", .glo "check_depth", .glo "cells_each_way", .glo "how_many_cells", .glo "check_cell", .glo "check_number", .glo "check_many", .glo "number_in", .glo "number_of", .glo "way_to", .glo "cell_in", .glo "cell_of", .glo "kinds_on", .glo "thread_of", .glo "thread", .glo "first_cell", .glo "last_cell", .glo "whole", .glo "_law_pot", .glo "_law_draw", .glo "_law_power", .glo "_law_same", .glo "_law_any_book", .glo "_law_posed", .glo "_law_path_book", .glo "_law_drawn_book", .glo "_law_picture", .glo "_law_figures", .glo "_law_way", .glo "_law_renamed", .glo "_law_doubled", .glo "_law_carried", .glo "_law_numbers_right", .glo "_law_whole_right", .glo "_law_begun", .glo "_law_names_right", .glo "law", .free "all", .free "bool", .free "int", .free "isinstance", .free "len", .free "list", .free "min", .free "range", .free "repr", .free "str", .free "tuple", .glo "SIDES"]
def tps : List (Str × List He.Dv) := [("SIDES", [.int 2, .int 3])]
/-- places: 0 .glo "is_integer", 1 .glo "is_natural", 2 .glo "is_below", 3 .glo "is_pair", 4 .glo "power", 5 .glo "is_cell_below", 6 .glo "is_posture", 7 .glo "posed", 8 .glo "is_part", 9 .glo "is_kind_of", 10 .glo "is_book", 11 .glo "check_book", 12 .glo "check_kind", 13 .glo "places_of", 14 .glo "numbered", 15 .glo "begun_of", 16 .glo "begun_at", 17 .glo "turned_of", 18 .glo "check_posture", 19 .glo "turned", 20 .glo "backward_of", 21 .glo "backward", 22 .glo "check_depth", 23 .glo "cells_each_way", 24 .glo "how_many_cells", 25 .glo "check_cell", 26 .glo "check_number", 27 .glo "check_many", 28 .glo "number_in", 29 .glo "number_of", 30 .glo "way_to", 31 .glo "cell_in", 32 .glo "cell_of", 33 .glo "kinds_on", 34 .glo "thread_of", 35 .glo "thread", 36 .glo "first_cell", 37 .glo "last_cell", 38 .glo "whole", 39 .glo "_law_pot", 40 .glo "_law_draw", 41 .glo "_law_power", 42 .glo "_law_same", 43 .glo "_law_any_book", 44 .glo "_law_posed", 45 .glo "_law_path_book", 46 .glo "_law_drawn_book", 47 .glo "_law_picture", 48 .glo "_law_figures", 49 .glo "_law_way", 50 .glo "_law_renamed", 51 .glo "_law_doubled", 52 .glo "_law_carried", 53 .glo "_law_numbers_right", 54 .glo "_law_whole_right", 55 .glo "_law_begun", 56 .glo "_law_names_right", 57 .glo "law", 58 .free "all", 59 .free "bool", 60 .free "int", 61 .free "isinstance", 62 .free "len", 63 .free "list", 64 .free "min", 65 .free "range", 66 .free "repr", 67 .free "str", 68 .free "tuple", 69 .glo "SIDES" -/
def places : Unit := ()
abbrev AlU : Type := Bool × He.AlD
def obsU (K : PySem.W.Frag) : AlU := (tps.all fun t => He.tupB K t.1 t.2, He.obsD fa fn K)
def valU : AlU := (true, He.valD fn)
def SaysU (K : PySem.W.Frag) : Prop := obsU K = valU
def obsUG (n : Nat) (g : Addr → Option Obj) : AlU := obsU (He.frG g (He.asD g n))
def hookU (n : Nat) : PySem.W.Hook where
  α := AlU
  obs := fun s => obsUG n s.heap.get?
  val := fun _ => valU
  says := fun _ h => ∃ K : PySem.W.Frag, K.In h ∧ SaysU K
  of := fun _ _ e => ⟨_, He.frG_in, e⟩
  keeps := fun _ _ _ ⟨K, hK, c⟩ k => ⟨K, PySem.W.Frag.In.keeps hK k, c⟩
theorem obsUG_eq {n : Nat} {g : Addr → Option Obj} {s : Shared} (h : ∀ a, g a = s.heap.get? a) : obsUG n g = (hookU n).obs s := by
  have e : g = s.heap.get? := funext h
  rw [e] <;> rfl
theorem SaysU.d {K : PySem.W.Frag} (c : SaysU K) : He.SaysD fa fn K := congrArg (fun z : AlU => z.2) c
theorem SaysU.tup {K : PySem.W.Frag} (c : SaysU K) (i : Nat) {t : Str × List He.Dv} (h : tps[i]? = some t := by rfl) (H : Hp) : SqT K H (He.ga K t.1) (t.2.map (He.Dv.v K)) :=
  He.tupB_ok (List.all_eq_true.mp (congrArg (fun z : AlU => z.1) c) t (List.mem_of_getElem? h)) H
abbrev R : PySem.W.OpenRow := PySem.W.OpenLaw.row PySem.Challenge.rw_wholeamounts_k20_whole_threads_of_pictur
abbrev hk : PySem.W.Hook := hookU 4
def ob (s : PySem.W.SharedT) : AlU := obsUG 4 (HandSHeadRun.getT s)
theorem ob_eq (s : PySem.W.SharedT) : ob s = hk.obs s.abs := obsUG_eq (HandSHeadRun.getT_eq s)
def loose0 : List PySem.Str := ["ThreadError", "InvalidBook", "InvalidKind", "InvalidDepth", "InvalidCell", "InvalidNumber", "InvalidPosture", "SIDES", "is_integer", "is_natural", "is_below", "is_pair", "power", "is_cell_below", "is_posture", "posed", "is_part", "is_kind_of", "is_book", "check_book", "check_kind", "places_of", "numbered", "begun_of", "begun_at", "turned_of", "check_posture", "turned", "backward_of", "backward"]
def loose1 : List PySem.Str := ["check_depth", "cells_each_way", "how_many_cells", "check_cell", "check_number", "check_many", "number_in", "number_of", "way_to", "cell_in", "cell_of", "kinds_on", "thread_of", "thread", "first_cell", "last_cell", "whole", "_law_pot", "_law_draw", "_law_power", "_law_same", "_law_any_book", "_law_posed", "_law_path_book", "_law_drawn_book", "_law_picture", "_law_figures", "_law_way", "_law_renamed", "_law_doubled"]
def loose2 : List PySem.Str := ["_law_carried", "_law_numbers_right", "_law_whole_right", "_law_begun", "_law_names_right"]
def loose : List PySem.Str := loose0 ++ loose1 ++ loose2
theorem run (w : World) : HandSHeadRun.RunEq R (PySem.W.view R.prog [70]) hk ob 4000 loose w := by
  intro os
  kernel_rfl
end K20
set_option Elab.async false
set_option linter.all false
set_option maxRecDepth 100000
set_option maxHeartbeats 0
namespace K20
open PySem PySem.Spec PyProof.Rows L2
section
variable {K : PySem.W.Frag} {mg : Str → Option Value} {base : Heap}
/-- what the top has written, over a heap -/
structure Cn (K : PySem.W.Frag) (mg : Str → Option Value) (base : Heap) : Prop where
  says : SaysU K
  kin : K.In base
  ns : base.Ns mainGlobals mg

theorem Cn.g_is_integer (c : Cn K mg base) : mg "is_integer" = some (.ref (He.ga K "is_integer")) := He.glo_ok c.kin c.ns (c.says.d.fact 0 (f := .glo "is_integer") rfl)
theorem Cn.g_is_natural (c : Cn K mg base) : mg "is_natural" = some (.ref (He.ga K "is_natural")) := He.glo_ok c.kin c.ns (c.says.d.fact 1 (f := .glo "is_natural") rfl)
theorem Cn.g_is_below (c : Cn K mg base) : mg "is_below" = some (.ref (He.ga K "is_below")) := He.glo_ok c.kin c.ns (c.says.d.fact 2 (f := .glo "is_below") rfl)
theorem Cn.g_is_pair (c : Cn K mg base) : mg "is_pair" = some (.ref (He.ga K "is_pair")) := He.glo_ok c.kin c.ns (c.says.d.fact 3 (f := .glo "is_pair") rfl)
theorem Cn.g_power (c : Cn K mg base) : mg "power" = some (.ref (He.ga K "power")) := He.glo_ok c.kin c.ns (c.says.d.fact 4 (f := .glo "power") rfl)
theorem Cn.g_is_cell_below (c : Cn K mg base) : mg "is_cell_below" = some (.ref (He.ga K "is_cell_below")) := He.glo_ok c.kin c.ns (c.says.d.fact 5 (f := .glo "is_cell_below") rfl)
theorem Cn.g_is_posture (c : Cn K mg base) : mg "is_posture" = some (.ref (He.ga K "is_posture")) := He.glo_ok c.kin c.ns (c.says.d.fact 6 (f := .glo "is_posture") rfl)
theorem Cn.g_posed (c : Cn K mg base) : mg "posed" = some (.ref (He.ga K "posed")) := He.glo_ok c.kin c.ns (c.says.d.fact 7 (f := .glo "posed") rfl)
theorem Cn.g_is_part (c : Cn K mg base) : mg "is_part" = some (.ref (He.ga K "is_part")) := He.glo_ok c.kin c.ns (c.says.d.fact 8 (f := .glo "is_part") rfl)
theorem Cn.g_is_kind_of (c : Cn K mg base) : mg "is_kind_of" = some (.ref (He.ga K "is_kind_of")) := He.glo_ok c.kin c.ns (c.says.d.fact 9 (f := .glo "is_kind_of") rfl)
theorem Cn.g_is_book (c : Cn K mg base) : mg "is_book" = some (.ref (He.ga K "is_book")) := He.glo_ok c.kin c.ns (c.says.d.fact 10 (f := .glo "is_book") rfl)
theorem Cn.g_check_book (c : Cn K mg base) : mg "check_book" = some (.ref (He.ga K "check_book")) := He.glo_ok c.kin c.ns (c.says.d.fact 11 (f := .glo "check_book") rfl)
theorem Cn.g_check_kind (c : Cn K mg base) : mg "check_kind" = some (.ref (He.ga K "check_kind")) := He.glo_ok c.kin c.ns (c.says.d.fact 12 (f := .glo "check_kind") rfl)
theorem Cn.g_places_of (c : Cn K mg base) : mg "places_of" = some (.ref (He.ga K "places_of")) := He.glo_ok c.kin c.ns (c.says.d.fact 13 (f := .glo "places_of") rfl)
theorem Cn.g_numbered (c : Cn K mg base) : mg "numbered" = some (.ref (He.ga K "numbered")) := He.glo_ok c.kin c.ns (c.says.d.fact 14 (f := .glo "numbered") rfl)
theorem Cn.g_begun_of (c : Cn K mg base) : mg "begun_of" = some (.ref (He.ga K "begun_of")) := He.glo_ok c.kin c.ns (c.says.d.fact 15 (f := .glo "begun_of") rfl)
theorem Cn.g_begun_at (c : Cn K mg base) : mg "begun_at" = some (.ref (He.ga K "begun_at")) := He.glo_ok c.kin c.ns (c.says.d.fact 16 (f := .glo "begun_at") rfl)
theorem Cn.g_turned_of (c : Cn K mg base) : mg "turned_of" = some (.ref (He.ga K "turned_of")) := He.glo_ok c.kin c.ns (c.says.d.fact 17 (f := .glo "turned_of") rfl)
theorem Cn.g_check_posture (c : Cn K mg base) : mg "check_posture" = some (.ref (He.ga K "check_posture")) := He.glo_ok c.kin c.ns (c.says.d.fact 18 (f := .glo "check_posture") rfl)
theorem Cn.g_turned (c : Cn K mg base) : mg "turned" = some (.ref (He.ga K "turned")) := He.glo_ok c.kin c.ns (c.says.d.fact 19 (f := .glo "turned") rfl)
theorem Cn.g_backward_of (c : Cn K mg base) : mg "backward_of" = some (.ref (He.ga K "backward_of")) := He.glo_ok c.kin c.ns (c.says.d.fact 20 (f := .glo "backward_of") rfl)
theorem Cn.g_backward (c : Cn K mg base) : mg "backward" = some (.ref (He.ga K "backward")) := He.glo_ok c.kin c.ns (c.says.d.fact 21 (f := .glo "backward") rfl)
theorem Cn.g_check_depth (c : Cn K mg base) : mg "check_depth" = some (.ref (He.ga K "check_depth")) := He.glo_ok c.kin c.ns (c.says.d.fact 22 (f := .glo "check_depth") rfl)
theorem Cn.g_cells_each_way (c : Cn K mg base) : mg "cells_each_way" = some (.ref (He.ga K "cells_each_way")) := He.glo_ok c.kin c.ns (c.says.d.fact 23 (f := .glo "cells_each_way") rfl)
theorem Cn.g_how_many_cells (c : Cn K mg base) : mg "how_many_cells" = some (.ref (He.ga K "how_many_cells")) := He.glo_ok c.kin c.ns (c.says.d.fact 24 (f := .glo "how_many_cells") rfl)
theorem Cn.g_check_cell (c : Cn K mg base) : mg "check_cell" = some (.ref (He.ga K "check_cell")) := He.glo_ok c.kin c.ns (c.says.d.fact 25 (f := .glo "check_cell") rfl)
theorem Cn.g_check_number (c : Cn K mg base) : mg "check_number" = some (.ref (He.ga K "check_number")) := He.glo_ok c.kin c.ns (c.says.d.fact 26 (f := .glo "check_number") rfl)
theorem Cn.g_check_many (c : Cn K mg base) : mg "check_many" = some (.ref (He.ga K "check_many")) := He.glo_ok c.kin c.ns (c.says.d.fact 27 (f := .glo "check_many") rfl)
theorem Cn.g_number_in (c : Cn K mg base) : mg "number_in" = some (.ref (He.ga K "number_in")) := He.glo_ok c.kin c.ns (c.says.d.fact 28 (f := .glo "number_in") rfl)
theorem Cn.g_number_of (c : Cn K mg base) : mg "number_of" = some (.ref (He.ga K "number_of")) := He.glo_ok c.kin c.ns (c.says.d.fact 29 (f := .glo "number_of") rfl)
theorem Cn.g_way_to (c : Cn K mg base) : mg "way_to" = some (.ref (He.ga K "way_to")) := He.glo_ok c.kin c.ns (c.says.d.fact 30 (f := .glo "way_to") rfl)
theorem Cn.g_cell_in (c : Cn K mg base) : mg "cell_in" = some (.ref (He.ga K "cell_in")) := He.glo_ok c.kin c.ns (c.says.d.fact 31 (f := .glo "cell_in") rfl)
theorem Cn.g_cell_of (c : Cn K mg base) : mg "cell_of" = some (.ref (He.ga K "cell_of")) := He.glo_ok c.kin c.ns (c.says.d.fact 32 (f := .glo "cell_of") rfl)
theorem Cn.g_kinds_on (c : Cn K mg base) : mg "kinds_on" = some (.ref (He.ga K "kinds_on")) := He.glo_ok c.kin c.ns (c.says.d.fact 33 (f := .glo "kinds_on") rfl)
theorem Cn.g_thread_of (c : Cn K mg base) : mg "thread_of" = some (.ref (He.ga K "thread_of")) := He.glo_ok c.kin c.ns (c.says.d.fact 34 (f := .glo "thread_of") rfl)
theorem Cn.g_thread (c : Cn K mg base) : mg "thread" = some (.ref (He.ga K "thread")) := He.glo_ok c.kin c.ns (c.says.d.fact 35 (f := .glo "thread") rfl)
theorem Cn.g_first_cell (c : Cn K mg base) : mg "first_cell" = some (.ref (He.ga K "first_cell")) := He.glo_ok c.kin c.ns (c.says.d.fact 36 (f := .glo "first_cell") rfl)
theorem Cn.g_last_cell (c : Cn K mg base) : mg "last_cell" = some (.ref (He.ga K "last_cell")) := He.glo_ok c.kin c.ns (c.says.d.fact 37 (f := .glo "last_cell") rfl)
theorem Cn.g_whole (c : Cn K mg base) : mg "whole" = some (.ref (He.ga K "whole")) := He.glo_ok c.kin c.ns (c.says.d.fact 38 (f := .glo "whole") rfl)
theorem Cn.g_law_pot (c : Cn K mg base) : mg "_law_pot" = some (.ref (He.ga K "_law_pot")) := He.glo_ok c.kin c.ns (c.says.d.fact 39 (f := .glo "_law_pot") rfl)
theorem Cn.g_law_draw (c : Cn K mg base) : mg "_law_draw" = some (.ref (He.ga K "_law_draw")) := He.glo_ok c.kin c.ns (c.says.d.fact 40 (f := .glo "_law_draw") rfl)
theorem Cn.g_law_power (c : Cn K mg base) : mg "_law_power" = some (.ref (He.ga K "_law_power")) := He.glo_ok c.kin c.ns (c.says.d.fact 41 (f := .glo "_law_power") rfl)
theorem Cn.g_law_same (c : Cn K mg base) : mg "_law_same" = some (.ref (He.ga K "_law_same")) := He.glo_ok c.kin c.ns (c.says.d.fact 42 (f := .glo "_law_same") rfl)
theorem Cn.g_law_any_book (c : Cn K mg base) : mg "_law_any_book" = some (.ref (He.ga K "_law_any_book")) := He.glo_ok c.kin c.ns (c.says.d.fact 43 (f := .glo "_law_any_book") rfl)
theorem Cn.g_law_posed (c : Cn K mg base) : mg "_law_posed" = some (.ref (He.ga K "_law_posed")) := He.glo_ok c.kin c.ns (c.says.d.fact 44 (f := .glo "_law_posed") rfl)
theorem Cn.g_law_path_book (c : Cn K mg base) : mg "_law_path_book" = some (.ref (He.ga K "_law_path_book")) := He.glo_ok c.kin c.ns (c.says.d.fact 45 (f := .glo "_law_path_book") rfl)
theorem Cn.g_law_drawn_book (c : Cn K mg base) : mg "_law_drawn_book" = some (.ref (He.ga K "_law_drawn_book")) := He.glo_ok c.kin c.ns (c.says.d.fact 46 (f := .glo "_law_drawn_book") rfl)
theorem Cn.g_law_picture (c : Cn K mg base) : mg "_law_picture" = some (.ref (He.ga K "_law_picture")) := He.glo_ok c.kin c.ns (c.says.d.fact 47 (f := .glo "_law_picture") rfl)
theorem Cn.g_law_figures (c : Cn K mg base) : mg "_law_figures" = some (.ref (He.ga K "_law_figures")) := He.glo_ok c.kin c.ns (c.says.d.fact 48 (f := .glo "_law_figures") rfl)
theorem Cn.g_law_way (c : Cn K mg base) : mg "_law_way" = some (.ref (He.ga K "_law_way")) := He.glo_ok c.kin c.ns (c.says.d.fact 49 (f := .glo "_law_way") rfl)
theorem Cn.g_law_renamed (c : Cn K mg base) : mg "_law_renamed" = some (.ref (He.ga K "_law_renamed")) := He.glo_ok c.kin c.ns (c.says.d.fact 50 (f := .glo "_law_renamed") rfl)
theorem Cn.g_law_doubled (c : Cn K mg base) : mg "_law_doubled" = some (.ref (He.ga K "_law_doubled")) := He.glo_ok c.kin c.ns (c.says.d.fact 51 (f := .glo "_law_doubled") rfl)
theorem Cn.g_law_carried (c : Cn K mg base) : mg "_law_carried" = some (.ref (He.ga K "_law_carried")) := He.glo_ok c.kin c.ns (c.says.d.fact 52 (f := .glo "_law_carried") rfl)
theorem Cn.g_law_numbers_right (c : Cn K mg base) : mg "_law_numbers_right" = some (.ref (He.ga K "_law_numbers_right")) := He.glo_ok c.kin c.ns (c.says.d.fact 53 (f := .glo "_law_numbers_right") rfl)
theorem Cn.g_law_whole_right (c : Cn K mg base) : mg "_law_whole_right" = some (.ref (He.ga K "_law_whole_right")) := He.glo_ok c.kin c.ns (c.says.d.fact 54 (f := .glo "_law_whole_right") rfl)
theorem Cn.g_law_begun (c : Cn K mg base) : mg "_law_begun" = some (.ref (He.ga K "_law_begun")) := He.glo_ok c.kin c.ns (c.says.d.fact 55 (f := .glo "_law_begun") rfl)
theorem Cn.g_law_names_right (c : Cn K mg base) : mg "_law_names_right" = some (.ref (He.ga K "_law_names_right")) := He.glo_ok c.kin c.ns (c.says.d.fact 56 (f := .glo "_law_names_right") rfl)
theorem Cn.g_law (c : Cn K mg base) : mg "law" = some (.ref (He.ga K "law")) := He.glo_ok c.kin c.ns (c.says.d.fact 57 (f := .glo "law") rfl)
theorem Cn.f_all (c : Cn K mg base) : mg "all" = none := He.free_ok c.kin c.ns (c.says.d.fact 58 (f := .free "all") rfl)
theorem Cn.f_bool (c : Cn K mg base) : mg "bool" = none := He.free_ok c.kin c.ns (c.says.d.fact 59 (f := .free "bool") rfl)
theorem Cn.f_int (c : Cn K mg base) : mg "int" = none := He.free_ok c.kin c.ns (c.says.d.fact 60 (f := .free "int") rfl)
theorem Cn.f_isinstance (c : Cn K mg base) : mg "isinstance" = none := He.free_ok c.kin c.ns (c.says.d.fact 61 (f := .free "isinstance") rfl)
theorem Cn.f_len (c : Cn K mg base) : mg "len" = none := He.free_ok c.kin c.ns (c.says.d.fact 62 (f := .free "len") rfl)
theorem Cn.f_list (c : Cn K mg base) : mg "list" = none := He.free_ok c.kin c.ns (c.says.d.fact 63 (f := .free "list") rfl)
theorem Cn.f_min (c : Cn K mg base) : mg "min" = none := He.free_ok c.kin c.ns (c.says.d.fact 64 (f := .free "min") rfl)
theorem Cn.f_range (c : Cn K mg base) : mg "range" = none := He.free_ok c.kin c.ns (c.says.d.fact 65 (f := .free "range") rfl)
theorem Cn.f_repr (c : Cn K mg base) : mg "repr" = none := He.free_ok c.kin c.ns (c.says.d.fact 66 (f := .free "repr") rfl)
theorem Cn.f_str (c : Cn K mg base) : mg "str" = none := He.free_ok c.kin c.ns (c.says.d.fact 67 (f := .free "str") rfl)
theorem Cn.f_tuple (c : Cn K mg base) : mg "tuple" = none := He.free_ok c.kin c.ns (c.says.d.fact 68 (f := .free "tuple") rfl)
theorem Cn.g_SIDES (c : Cn K mg base) : mg "SIDES" = some (.ref (He.ga K "SIDES")) := He.glo_ok c.kin c.ns (c.says.d.fact 69 (f := .glo "SIDES") rfl)
abbrev FnP (K : PySem.W.Frag) (x : Str) (st : Stmt) (f : Addr) (fd : FuncData) : Prop := FunD K x x (defArgs st) (defBody st) (defScope st) [] [] f fd
theorem Cn.d_is_integer (c : Cn K mg base) : ∃ fd, FnP K "is_integer" s_is_integer (He.ga K "is_integer") fd := c.says.d.def_ 0 (d := K20.d_is_integer) rfl
def ps_is_integer : List Str := ["value"]
def ns_is_integer : List Str := ["value"]
theorem sc_is_integer : FnScope ns_is_integer ps_is_integer (defScope s_is_integer) := ⟨rfl, rfl, rfl, by decide +kernel, rfl, by decide +kernel, by decide +kernel⟩
theorem mk_is_integer {P : Program} {w : World} {k : Nat} {sp : Sp} (c : Cn K mg base) (h : ∀ fd, FnP K "is_integer" s_is_integer (He.ga K "is_integer") fd → FnOk P w K mg base CX0 k (He.ga K "is_integer") fd ps_is_integer sp) : Fl.Has P w K mg base "is_integer" k ps_is_integer sp := by
  obtain ⟨fd, F⟩ := c.d_is_integer
  exact ⟨_, fd, h fd F, c.g_is_integer, F.kp, F.bindsN fun _ _ _ _ _ _ us hl => match us, hl with | [_], _ => rfl⟩
theorem Cn.d_is_natural (c : Cn K mg base) : ∃ fd, FnP K "is_natural" s_is_natural (He.ga K "is_natural") fd := c.says.d.def_ 1 (d := K20.d_is_natural) rfl
def ps_is_natural : List Str := ["value"]
def ns_is_natural : List Str := ["value"]
theorem sc_is_natural : FnScope ns_is_natural ps_is_natural (defScope s_is_natural) := ⟨rfl, rfl, rfl, by decide +kernel, rfl, by decide +kernel, by decide +kernel⟩
theorem mk_is_natural {P : Program} {w : World} {k : Nat} {sp : Sp} (c : Cn K mg base) (h : ∀ fd, FnP K "is_natural" s_is_natural (He.ga K "is_natural") fd → FnOk P w K mg base CX0 k (He.ga K "is_natural") fd ps_is_natural sp) : Fl.Has P w K mg base "is_natural" k ps_is_natural sp := by
  obtain ⟨fd, F⟩ := c.d_is_natural
  exact ⟨_, fd, h fd F, c.g_is_natural, F.kp, F.bindsN fun _ _ _ _ _ _ us hl => match us, hl with | [_], _ => rfl⟩
theorem Cn.d_is_below (c : Cn K mg base) : ∃ fd, FnP K "is_below" s_is_below (He.ga K "is_below") fd := c.says.d.def_ 2 (d := K20.d_is_below) rfl
def ps_is_below : List Str := ["value", "many"]
def ns_is_below : List Str := ["value", "many"]
theorem sc_is_below : FnScope ns_is_below ps_is_below (defScope s_is_below) := ⟨rfl, rfl, rfl, by decide +kernel, rfl, by decide +kernel, by decide +kernel⟩
theorem mk_is_below {P : Program} {w : World} {k : Nat} {sp : Sp} (c : Cn K mg base) (h : ∀ fd, FnP K "is_below" s_is_below (He.ga K "is_below") fd → FnOk P w K mg base CX0 k (He.ga K "is_below") fd ps_is_below sp) : Fl.Has P w K mg base "is_below" k ps_is_below sp := by
  obtain ⟨fd, F⟩ := c.d_is_below
  exact ⟨_, fd, h fd F, c.g_is_below, F.kp, F.bindsN fun _ _ _ _ _ _ us hl => match us, hl with | [_, _], _ => rfl⟩
theorem Cn.d_is_pair (c : Cn K mg base) : ∃ fd, FnP K "is_pair" s_is_pair (He.ga K "is_pair") fd := c.says.d.def_ 3 (d := K20.d_is_pair) rfl
def ps_is_pair : List Str := ["value"]
def ns_is_pair : List Str := ["value"]
theorem sc_is_pair : FnScope ns_is_pair ps_is_pair (defScope s_is_pair) := ⟨rfl, rfl, rfl, by decide +kernel, rfl, by decide +kernel, by decide +kernel⟩
theorem mk_is_pair {P : Program} {w : World} {k : Nat} {sp : Sp} (c : Cn K mg base) (h : ∀ fd, FnP K "is_pair" s_is_pair (He.ga K "is_pair") fd → FnOk P w K mg base CX0 k (He.ga K "is_pair") fd ps_is_pair sp) : Fl.Has P w K mg base "is_pair" k ps_is_pair sp := by
  obtain ⟨fd, F⟩ := c.d_is_pair
  exact ⟨_, fd, h fd F, c.g_is_pair, F.kp, F.bindsN fun _ _ _ _ _ _ us hl => match us, hl with | [_], _ => rfl⟩
theorem Cn.d_power (c : Cn K mg base) : ∃ fd, FnP K "power" s_power (He.ga K "power") fd := c.says.d.def_ 4 (d := K20.d_power) rfl
def ps_power : List Str := ["b", "n"]
def ns_power : List Str := ["b", "n", "found", "turn"]
theorem sc_power : FnScope ns_power ps_power (defScope s_power) := ⟨rfl, rfl, rfl, by decide +kernel, rfl, by decide +kernel, by decide +kernel⟩
theorem mk_power {P : Program} {w : World} {k : Nat} {sp : Sp} (c : Cn K mg base) (h : ∀ fd, FnP K "power" s_power (He.ga K "power") fd → FnOk P w K mg base CX0 k (He.ga K "power") fd ps_power sp) : Fl.Has P w K mg base "power" k ps_power sp := by
  obtain ⟨fd, F⟩ := c.d_power
  exact ⟨_, fd, h fd F, c.g_power, F.kp, F.bindsN fun _ _ _ _ _ _ us hl => match us, hl with | [_, _], _ => rfl⟩
theorem Cn.d_is_cell_below (c : Cn K mg base) : ∃ fd, FnP K "is_cell_below" s_is_cell_below (He.ga K "is_cell_below") fd := c.says.d.def_ 5 (d := K20.d_is_cell_below) rfl
def ps_is_cell_below : List Str := ["value", "wide"]
def ns_is_cell_below : List Str := ["value", "wide", "a"]
theorem sc_is_cell_below : FnScope ns_is_cell_below ps_is_cell_below (defScope s_is_cell_below) := ⟨rfl, rfl, rfl, by decide +kernel, rfl, by decide +kernel, by decide +kernel⟩
theorem mk_is_cell_below {P : Program} {w : World} {k : Nat} {sp : Sp} (c : Cn K mg base) (h : ∀ fd, FnP K "is_cell_below" s_is_cell_below (He.ga K "is_cell_below") fd → FnOk P w K mg base CX0 k (He.ga K "is_cell_below") fd ps_is_cell_below sp) : Fl.Has P w K mg base "is_cell_below" k ps_is_cell_below sp := by
  obtain ⟨fd, F⟩ := c.d_is_cell_below
  exact ⟨_, fd, h fd F, c.g_is_cell_below, F.kp, F.bindsN fun _ _ _ _ _ _ us hl => match us, hl with | [_, _], _ => rfl⟩
theorem Cn.d_is_posture (c : Cn K mg base) : ∃ fd, FnP K "is_posture" s_is_posture (He.ga K "is_posture") fd := c.says.d.def_ 6 (d := K20.d_is_posture) rfl
def ps_is_posture : List Str := ["told"]
def ns_is_posture : List Str := ["told"]
theorem sc_is_posture : FnScope ns_is_posture ps_is_posture (defScope s_is_posture) := ⟨rfl, rfl, rfl, by decide +kernel, rfl, by decide +kernel, by decide +kernel⟩
theorem mk_is_posture {P : Program} {w : World} {k : Nat} {sp : Sp} (c : Cn K mg base) (h : ∀ fd, FnP K "is_posture" s_is_posture (He.ga K "is_posture") fd → FnOk P w K mg base CX0 k (He.ga K "is_posture") fd ps_is_posture sp) : Fl.Has P w K mg base "is_posture" k ps_is_posture sp := by
  obtain ⟨fd, F⟩ := c.d_is_posture
  exact ⟨_, fd, h fd F, c.g_is_posture, F.kp, F.bindsN fun _ _ _ _ _ _ us hl => match us, hl with | [_], _ => rfl⟩
theorem Cn.d_posed (c : Cn K mg base) : ∃ fd, FnP K "posed" s_posed (He.ga K "posed") fd := c.says.d.def_ 7 (d := K20.d_posed) rfl
def ps_posed : List Str := ["wide", "cell", "posture"]
def ns_posed : List Str := ["wide", "cell", "posture", "turn", "x", "y"]
theorem sc_posed : FnScope ns_posed ps_posed (defScope s_posed) := ⟨rfl, rfl, rfl, by decide +kernel, rfl, by decide +kernel, by decide +kernel⟩
theorem mk_posed {P : Program} {w : World} {k : Nat} {sp : Sp} (c : Cn K mg base) (h : ∀ fd, FnP K "posed" s_posed (He.ga K "posed") fd → FnOk P w K mg base CX0 k (He.ga K "posed") fd ps_posed sp) : Fl.Has P w K mg base "posed" k ps_posed sp := by
  obtain ⟨fd, F⟩ := c.d_posed
  exact ⟨_, fd, h fd F, c.g_posed, F.kp, F.bindsN fun _ _ _ _ _ _ us hl => match us, hl with | [_, _, _], _ => rfl⟩
theorem Cn.d_is_part (c : Cn K mg base) : ∃ fd, FnP K "is_part" s_is_part (He.ga K "is_part") fd := c.says.d.def_ 8 (d := K20.d_is_part) rfl
def ps_is_part : List Str := ["b", "many", "told"]
def ns_is_part : List Str := ["b", "many", "told"]
theorem sc_is_part : FnScope ns_is_part ps_is_part (defScope s_is_part) := ⟨rfl, rfl, rfl, by decide +kernel, rfl, by decide +kernel, by decide +kernel⟩
theorem mk_is_part {P : Program} {w : World} {k : Nat} {sp : Sp} (c : Cn K mg base) (h : ∀ fd, FnP K "is_part" s_is_part (He.ga K "is_part") fd → FnOk P w K mg base CX0 k (He.ga K "is_part") fd ps_is_part sp) : Fl.Has P w K mg base "is_part" k ps_is_part sp := by
  obtain ⟨fd, F⟩ := c.d_is_part
  exact ⟨_, fd, h fd F, c.g_is_part, F.kp, F.bindsN fun _ _ _ _ _ _ us hl => match us, hl with | [_, _, _], _ => rfl⟩
theorem Cn.d_is_kind_of (c : Cn K mg base) : ∃ fd, FnP K "is_kind_of" s_is_kind_of (He.ga K "is_kind_of") fd := c.says.d.def_ 9 (d := K20.d_is_kind_of) rfl
def ps_is_kind_of : List Str := ["b", "many", "told"]
def ns_is_kind_of : List Str := ["b", "many", "told", "part"]
theorem sc_is_kind_of : FnScope ns_is_kind_of ps_is_kind_of (defScope s_is_kind_of) := ⟨rfl, rfl, rfl, by decide +kernel, rfl, by decide +kernel, by decide +kernel⟩
theorem mk_is_kind_of {P : Program} {w : World} {k : Nat} {sp : Sp} (c : Cn K mg base) (h : ∀ fd, FnP K "is_kind_of" s_is_kind_of (He.ga K "is_kind_of") fd → FnOk P w K mg base CX0 k (He.ga K "is_kind_of") fd ps_is_kind_of sp) : Fl.Has P w K mg base "is_kind_of" k ps_is_kind_of sp := by
  obtain ⟨fd, F⟩ := c.d_is_kind_of
  exact ⟨_, fd, h fd F, c.g_is_kind_of, F.kp, F.bindsN fun _ _ _ _ _ _ us hl => match us, hl with | [_, _, _], _ => rfl⟩
theorem Cn.d_is_book (c : Cn K mg base) : ∃ fd, FnP K "is_book" s_is_book (He.ga K "is_book") fd := c.says.d.def_ 10 (d := K20.d_is_book) rfl
def ps_is_book : List Str := ["told"]
def ns_is_book : List Str := ["told", "kind"]
theorem sc_is_book : FnScope ns_is_book ps_is_book (defScope s_is_book) := ⟨rfl, rfl, rfl, by decide +kernel, rfl, by decide +kernel, by decide +kernel⟩
theorem mk_is_book {P : Program} {w : World} {k : Nat} {sp : Sp} (c : Cn K mg base) (h : ∀ fd, FnP K "is_book" s_is_book (He.ga K "is_book") fd → FnOk P w K mg base CX0 k (He.ga K "is_book") fd ps_is_book sp) : Fl.Has P w K mg base "is_book" k ps_is_book sp := by
  obtain ⟨fd, F⟩ := c.d_is_book
  exact ⟨_, fd, h fd F, c.g_is_book, F.kp, F.bindsN fun _ _ _ _ _ _ us hl => match us, hl with | [_], _ => rfl⟩
theorem Cn.d_check_book (c : Cn K mg base) : ∃ fd, FnP K "check_book" s_check_book (He.ga K "check_book") fd := c.says.d.def_ 11 (d := K20.d_check_book) rfl
def ps_check_book : List Str := ["book"]
def ns_check_book : List Str := ["book"]
theorem sc_check_book : FnScope ns_check_book ps_check_book (defScope s_check_book) := ⟨rfl, rfl, rfl, by decide +kernel, rfl, by decide +kernel, by decide +kernel⟩
theorem mk_check_book {P : Program} {w : World} {k : Nat} {sp : Sp} (c : Cn K mg base) (h : ∀ fd, FnP K "check_book" s_check_book (He.ga K "check_book") fd → FnOk P w K mg base CX0 k (He.ga K "check_book") fd ps_check_book sp) : Fl.Has P w K mg base "check_book" k ps_check_book sp := by
  obtain ⟨fd, F⟩ := c.d_check_book
  exact ⟨_, fd, h fd F, c.g_check_book, F.kp, F.bindsN fun _ _ _ _ _ _ us hl => match us, hl with | [_], _ => rfl⟩
theorem Cn.d_check_kind (c : Cn K mg base) : ∃ fd, FnP K "check_kind" s_check_kind (He.ga K "check_kind") fd := c.says.d.def_ 12 (d := K20.d_check_kind) rfl
def ps_check_kind : List Str := ["book", "kind"]
def ns_check_kind : List Str := ["book", "kind"]
theorem sc_check_kind : FnScope ns_check_kind ps_check_kind (defScope s_check_kind) := ⟨rfl, rfl, rfl, by decide +kernel, rfl, by decide +kernel, by decide +kernel⟩
theorem mk_check_kind {P : Program} {w : World} {k : Nat} {sp : Sp} (c : Cn K mg base) (h : ∀ fd, FnP K "check_kind" s_check_kind (He.ga K "check_kind") fd → FnOk P w K mg base CX0 k (He.ga K "check_kind") fd ps_check_kind sp) : Fl.Has P w K mg base "check_kind" k ps_check_kind sp := by
  obtain ⟨fd, F⟩ := c.d_check_kind
  exact ⟨_, fd, h fd F, c.g_check_kind, F.kp, F.bindsN fun _ _ _ _ _ _ us hl => match us, hl with | [_, _], _ => rfl⟩
theorem Cn.d_places_of (c : Cn K mg base) : ∃ fd, FnP K "places_of" s_places_of (He.ga K "places_of") fd := c.says.d.def_ 13 (d := K20.d_places_of) rfl
def ps_places_of : List Str := ["book", "kind"]
def ns_places_of : List Str := ["book", "kind", "x", "y", "own"]
theorem sc_places_of : FnScope ns_places_of ps_places_of (defScope s_places_of) := ⟨rfl, rfl, rfl, by decide +kernel, rfl, by decide +kernel, by decide +kernel⟩
theorem mk_places_of {P : Program} {w : World} {k : Nat} {sp : Sp} (c : Cn K mg base) (h : ∀ fd, FnP K "places_of" s_places_of (He.ga K "places_of") fd → FnOk P w K mg base CX0 k (He.ga K "places_of") fd ps_places_of sp) : Fl.Has P w K mg base "places_of" k ps_places_of sp := by
  obtain ⟨fd, F⟩ := c.d_places_of
  exact ⟨_, fd, h fd F, c.g_places_of, F.kp, F.bindsN fun _ _ _ _ _ _ us hl => match us, hl with | [_, _], _ => rfl⟩
theorem Cn.d_numbered (c : Cn K mg base) : ∃ fd, FnP K "numbered" s_numbered (He.ga K "numbered") fd := c.says.d.def_ 14 (d := K20.d_numbered) rfl
def ps_numbered : List Str := ["book", "names", "kind"]
def ns_numbered : List Str := ["book", "names", "kind", "met", "waiting", "rows", "here", "parts", "x", "y", "own"]
theorem sc_numbered : FnScope ns_numbered ps_numbered (defScope s_numbered) := ⟨rfl, rfl, rfl, by decide +kernel, rfl, by decide +kernel, by decide +kernel⟩
theorem mk_numbered {P : Program} {w : World} {k : Nat} {sp : Sp} (c : Cn K mg base) (h : ∀ fd, FnP K "numbered" s_numbered (He.ga K "numbered") fd → FnOk P w K mg base CX0 k (He.ga K "numbered") fd ps_numbered sp) : Fl.Has P w K mg base "numbered" k ps_numbered sp := by
  obtain ⟨fd, F⟩ := c.d_numbered
  exact ⟨_, fd, h fd F, c.g_numbered, F.kp, F.bindsN fun _ _ _ _ _ _ us hl => match us, hl with | [_, _, _], _ => rfl⟩
theorem Cn.d_begun_of (c : Cn K mg base) : ∃ fd, FnP K "begun_of" s_begun_of (He.ga K "begun_of") fd := c.says.d.def_ 15 (d := K20.d_begun_of) rfl
def ps_begun_of : List Str := ["book", "kind"]
def ns_begun_of : List Str := ["book", "kind"]
theorem sc_begun_of : FnScope ns_begun_of ps_begun_of (defScope s_begun_of) := ⟨rfl, rfl, rfl, by decide +kernel, rfl, by decide +kernel, by decide +kernel⟩
theorem mk_begun_of {P : Program} {w : World} {k : Nat} {sp : Sp} (c : Cn K mg base) (h : ∀ fd, FnP K "begun_of" s_begun_of (He.ga K "begun_of") fd → FnOk P w K mg base CX0 k (He.ga K "begun_of") fd ps_begun_of sp) : Fl.Has P w K mg base "begun_of" k ps_begun_of sp := by
  obtain ⟨fd, F⟩ := c.d_begun_of
  exact ⟨_, fd, h fd F, c.g_begun_of, F.kp, F.bindsN fun _ _ _ _ _ _ us hl => match us, hl with | [_, _], _ => rfl⟩
theorem Cn.d_begun_at (c : Cn K mg base) : ∃ fd, FnP K "begun_at" s_begun_at (He.ga K "begun_at") fd := c.says.d.def_ 16 (d := K20.d_begun_at) rfl
def ps_begun_at : List Str := ["book", "kind"]
def ns_begun_at : List Str := ["book", "kind"]
theorem sc_begun_at : FnScope ns_begun_at ps_begun_at (defScope s_begun_at) := ⟨rfl, rfl, rfl, by decide +kernel, rfl, by decide +kernel, by decide +kernel⟩
theorem mk_begun_at {P : Program} {w : World} {k : Nat} {sp : Sp} (c : Cn K mg base) (h : ∀ fd, FnP K "begun_at" s_begun_at (He.ga K "begun_at") fd → FnOk P w K mg base CX0 k (He.ga K "begun_at") fd ps_begun_at sp) : Fl.Has P w K mg base "begun_at" k ps_begun_at sp := by
  obtain ⟨fd, F⟩ := c.d_begun_at
  exact ⟨_, fd, h fd F, c.g_begun_at, F.kp, F.bindsN fun _ _ _ _ _ _ us hl => match us, hl with | [_, _], _ => rfl⟩
theorem Cn.d_turned_of (c : Cn K mg base) : ∃ fd, FnP K "turned_of" s_turned_of (He.ga K "turned_of") fd := c.says.d.def_ 17 (d := K20.d_turned_of) rfl
def ps_turned_of : List Str := ["book", "posture"]
def ns_turned_of : List Str := ["book", "posture", "rows", "parts", "b", "kinds", "x", "y", "own"]
theorem sc_turned_of : FnScope ns_turned_of ps_turned_of (defScope s_turned_of) := ⟨rfl, rfl, rfl, by decide +kernel, rfl, by decide +kernel, by decide +kernel⟩
theorem mk_turned_of {P : Program} {w : World} {k : Nat} {sp : Sp} (c : Cn K mg base) (h : ∀ fd, FnP K "turned_of" s_turned_of (He.ga K "turned_of") fd → FnOk P w K mg base CX0 k (He.ga K "turned_of") fd ps_turned_of sp) : Fl.Has P w K mg base "turned_of" k ps_turned_of sp := by
  obtain ⟨fd, F⟩ := c.d_turned_of
  exact ⟨_, fd, h fd F, c.g_turned_of, F.kp, F.bindsN fun _ _ _ _ _ _ us hl => match us, hl with | [_, _], _ => rfl⟩
theorem Cn.d_check_posture (c : Cn K mg base) : ∃ fd, FnP K "check_posture" s_check_posture (He.ga K "check_posture") fd := c.says.d.def_ 18 (d := K20.d_check_posture) rfl
def ps_check_posture : List Str := ["posture"]
def ns_check_posture : List Str := ["posture"]
theorem sc_check_posture : FnScope ns_check_posture ps_check_posture (defScope s_check_posture) := ⟨rfl, rfl, rfl, by decide +kernel, rfl, by decide +kernel, by decide +kernel⟩
theorem mk_check_posture {P : Program} {w : World} {k : Nat} {sp : Sp} (c : Cn K mg base) (h : ∀ fd, FnP K "check_posture" s_check_posture (He.ga K "check_posture") fd → FnOk P w K mg base CX0 k (He.ga K "check_posture") fd ps_check_posture sp) : Fl.Has P w K mg base "check_posture" k ps_check_posture sp := by
  obtain ⟨fd, F⟩ := c.d_check_posture
  exact ⟨_, fd, h fd F, c.g_check_posture, F.kp, F.bindsN fun _ _ _ _ _ _ us hl => match us, hl with | [_], _ => rfl⟩
theorem Cn.d_turned (c : Cn K mg base) : ∃ fd, FnP K "turned" s_turned (He.ga K "turned") fd := c.says.d.def_ 19 (d := K20.d_turned) rfl
def ps_turned : List Str := ["book", "posture"]
def ns_turned : List Str := ["book", "posture"]
theorem sc_turned : FnScope ns_turned ps_turned (defScope s_turned) := ⟨rfl, rfl, rfl, by decide +kernel, rfl, by decide +kernel, by decide +kernel⟩
theorem mk_turned {P : Program} {w : World} {k : Nat} {sp : Sp} (c : Cn K mg base) (h : ∀ fd, FnP K "turned" s_turned (He.ga K "turned") fd → FnOk P w K mg base CX0 k (He.ga K "turned") fd ps_turned sp) : Fl.Has P w K mg base "turned" k ps_turned sp := by
  obtain ⟨fd, F⟩ := c.d_turned
  exact ⟨_, fd, h fd F, c.g_turned, F.kp, F.bindsN fun _ _ _ _ _ _ us hl => match us, hl with | [_, _], _ => rfl⟩
theorem Cn.d_backward_of (c : Cn K mg base) : ∃ fd, FnP K "backward_of" s_backward_of (He.ga K "backward_of") fd := c.says.d.def_ 20 (d := K20.d_backward_of) rfl
def ps_backward_of : List Str := ["book"]
def ns_backward_of : List Str := ["book", "parts"]
theorem sc_backward_of : FnScope ns_backward_of ps_backward_of (defScope s_backward_of) := ⟨rfl, rfl, rfl, by decide +kernel, rfl, by decide +kernel, by decide +kernel⟩
theorem mk_backward_of {P : Program} {w : World} {k : Nat} {sp : Sp} (c : Cn K mg base) (h : ∀ fd, FnP K "backward_of" s_backward_of (He.ga K "backward_of") fd → FnOk P w K mg base CX0 k (He.ga K "backward_of") fd ps_backward_of sp) : Fl.Has P w K mg base "backward_of" k ps_backward_of sp := by
  obtain ⟨fd, F⟩ := c.d_backward_of
  exact ⟨_, fd, h fd F, c.g_backward_of, F.kp, F.bindsN fun _ _ _ _ _ _ us hl => match us, hl with | [_], _ => rfl⟩
theorem Cn.d_backward (c : Cn K mg base) : ∃ fd, FnP K "backward" s_backward (He.ga K "backward") fd := c.says.d.def_ 21 (d := K20.d_backward) rfl
def ps_backward : List Str := ["book"]
def ns_backward : List Str := ["book"]
theorem sc_backward : FnScope ns_backward ps_backward (defScope s_backward) := ⟨rfl, rfl, rfl, by decide +kernel, rfl, by decide +kernel, by decide +kernel⟩
theorem mk_backward {P : Program} {w : World} {k : Nat} {sp : Sp} (c : Cn K mg base) (h : ∀ fd, FnP K "backward" s_backward (He.ga K "backward") fd → FnOk P w K mg base CX0 k (He.ga K "backward") fd ps_backward sp) : Fl.Has P w K mg base "backward" k ps_backward sp := by
  obtain ⟨fd, F⟩ := c.d_backward
  exact ⟨_, fd, h fd F, c.g_backward, F.kp, F.bindsN fun _ _ _ _ _ _ us hl => match us, hl with | [_], _ => rfl⟩
theorem Cn.d_check_depth (c : Cn K mg base) : ∃ fd, FnP K "check_depth" s_check_depth (He.ga K "check_depth") fd := c.says.d.def_ 22 (d := K20.d_check_depth) rfl
def ps_check_depth : List Str := ["d"]
def ns_check_depth : List Str := ["d"]
theorem sc_check_depth : FnScope ns_check_depth ps_check_depth (defScope s_check_depth) := ⟨rfl, rfl, rfl, by decide +kernel, rfl, by decide +kernel, by decide +kernel⟩
theorem mk_check_depth {P : Program} {w : World} {k : Nat} {sp : Sp} (c : Cn K mg base) (h : ∀ fd, FnP K "check_depth" s_check_depth (He.ga K "check_depth") fd → FnOk P w K mg base CX0 k (He.ga K "check_depth") fd ps_check_depth sp) : Fl.Has P w K mg base "check_depth" k ps_check_depth sp := by
  obtain ⟨fd, F⟩ := c.d_check_depth
  exact ⟨_, fd, h fd F, c.g_check_depth, F.kp, F.bindsN fun _ _ _ _ _ _ us hl => match us, hl with | [_], _ => rfl⟩
theorem Cn.d_cells_each_way (c : Cn K mg base) : ∃ fd, FnP K "cells_each_way" s_cells_each_way (He.ga K "cells_each_way") fd := c.says.d.def_ 23 (d := K20.d_cells_each_way) rfl
def ps_cells_each_way : List Str := ["book", "d"]
def ns_cells_each_way : List Str := ["book", "d"]
theorem sc_cells_each_way : FnScope ns_cells_each_way ps_cells_each_way (defScope s_cells_each_way) := ⟨rfl, rfl, rfl, by decide +kernel, rfl, by decide +kernel, by decide +kernel⟩
theorem mk_cells_each_way {P : Program} {w : World} {k : Nat} {sp : Sp} (c : Cn K mg base) (h : ∀ fd, FnP K "cells_each_way" s_cells_each_way (He.ga K "cells_each_way") fd → FnOk P w K mg base CX0 k (He.ga K "cells_each_way") fd ps_cells_each_way sp) : Fl.Has P w K mg base "cells_each_way" k ps_cells_each_way sp := by
  obtain ⟨fd, F⟩ := c.d_cells_each_way
  exact ⟨_, fd, h fd F, c.g_cells_each_way, F.kp, F.bindsN fun _ _ _ _ _ _ us hl => match us, hl with | [_, _], _ => rfl⟩
theorem Cn.d_how_many_cells (c : Cn K mg base) : ∃ fd, FnP K "how_many_cells" s_how_many_cells (He.ga K "how_many_cells") fd := c.says.d.def_ 24 (d := K20.d_how_many_cells) rfl
def ps_how_many_cells : List Str := ["book", "d"]
def ns_how_many_cells : List Str := ["book", "d"]
theorem sc_how_many_cells : FnScope ns_how_many_cells ps_how_many_cells (defScope s_how_many_cells) := ⟨rfl, rfl, rfl, by decide +kernel, rfl, by decide +kernel, by decide +kernel⟩
theorem mk_how_many_cells {P : Program} {w : World} {k : Nat} {sp : Sp} (c : Cn K mg base) (h : ∀ fd, FnP K "how_many_cells" s_how_many_cells (He.ga K "how_many_cells") fd → FnOk P w K mg base CX0 k (He.ga K "how_many_cells") fd ps_how_many_cells sp) : Fl.Has P w K mg base "how_many_cells" k ps_how_many_cells sp := by
  obtain ⟨fd, F⟩ := c.d_how_many_cells
  exact ⟨_, fd, h fd F, c.g_how_many_cells, F.kp, F.bindsN fun _ _ _ _ _ _ us hl => match us, hl with | [_, _], _ => rfl⟩
theorem Cn.d_check_cell (c : Cn K mg base) : ∃ fd, FnP K "check_cell" s_check_cell (He.ga K "check_cell") fd := c.says.d.def_ 25 (d := K20.d_check_cell) rfl
def ps_check_cell : List Str := ["book", "d", "cell"]
def ns_check_cell : List Str := ["book", "d", "cell"]
theorem sc_check_cell : FnScope ns_check_cell ps_check_cell (defScope s_check_cell) := ⟨rfl, rfl, rfl, by decide +kernel, rfl, by decide +kernel, by decide +kernel⟩
theorem mk_check_cell {P : Program} {w : World} {k : Nat} {sp : Sp} (c : Cn K mg base) (h : ∀ fd, FnP K "check_cell" s_check_cell (He.ga K "check_cell") fd → FnOk P w K mg base CX0 k (He.ga K "check_cell") fd ps_check_cell sp) : Fl.Has P w K mg base "check_cell" k ps_check_cell sp := by
  obtain ⟨fd, F⟩ := c.d_check_cell
  exact ⟨_, fd, h fd F, c.g_check_cell, F.kp, F.bindsN fun _ _ _ _ _ _ us hl => match us, hl with | [_, _, _], _ => rfl⟩
theorem Cn.d_check_number (c : Cn K mg base) : ∃ fd, FnP K "check_number" s_check_number (He.ga K "check_number") fd := c.says.d.def_ 26 (d := K20.d_check_number) rfl
def ps_check_number : List Str := ["book", "d", "number"]
def ns_check_number : List Str := ["book", "d", "number"]
theorem sc_check_number : FnScope ns_check_number ps_check_number (defScope s_check_number) := ⟨rfl, rfl, rfl, by decide +kernel, rfl, by decide +kernel, by decide +kernel⟩
theorem mk_check_number {P : Program} {w : World} {k : Nat} {sp : Sp} (c : Cn K mg base) (h : ∀ fd, FnP K "check_number" s_check_number (He.ga K "check_number") fd → FnOk P w K mg base CX0 k (He.ga K "check_number") fd ps_check_number sp) : Fl.Has P w K mg base "check_number" k ps_check_number sp := by
  obtain ⟨fd, F⟩ := c.d_check_number
  exact ⟨_, fd, h fd F, c.g_check_number, F.kp, F.bindsN fun _ _ _ _ _ _ us hl => match us, hl with | [_, _, _], _ => rfl⟩
theorem Cn.d_check_many (c : Cn K mg base) : ∃ fd, FnP K "check_many" s_check_many (He.ga K "check_many") fd := c.says.d.def_ 27 (d := K20.d_check_many) rfl
def ps_check_many : List Str := ["many"]
def ns_check_many : List Str := ["many"]
theorem sc_check_many : FnScope ns_check_many ps_check_many (defScope s_check_many) := ⟨rfl, rfl, rfl, by decide +kernel, rfl, by decide +kernel, by decide +kernel⟩
theorem mk_check_many {P : Program} {w : World} {k : Nat} {sp : Sp} (c : Cn K mg base) (h : ∀ fd, FnP K "check_many" s_check_many (He.ga K "check_many") fd → FnOk P w K mg base CX0 k (He.ga K "check_many") fd ps_check_many sp) : Fl.Has P w K mg base "check_many" k ps_check_many sp := by
  obtain ⟨fd, F⟩ := c.d_check_many
  exact ⟨_, fd, h fd F, c.g_check_many, F.kp, F.bindsN fun _ _ _ _ _ _ us hl => match us, hl with | [_], _ => rfl⟩
theorem Cn.d_number_in (c : Cn K mg base) : ∃ fd, FnP K "number_in" s_number_in (He.ga K "number_in") fd := c.says.d.def_ 28 (d := K20.d_number_in) rfl
def ps_number_in : List Str := ["book", "kind", "d", "cell"]
def ns_number_in : List Str := ["book", "kind", "d", "cell", "turn", "x", "y", "wide", "found", "at"]
theorem sc_number_in : FnScope ns_number_in ps_number_in (defScope s_number_in) := ⟨rfl, rfl, rfl, by decide +kernel, rfl, by decide +kernel, by decide +kernel⟩
theorem mk_number_in {P : Program} {w : World} {k : Nat} {sp : Sp} (c : Cn K mg base) (h : ∀ fd, FnP K "number_in" s_number_in (He.ga K "number_in") fd → FnOk P w K mg base CX0 k (He.ga K "number_in") fd ps_number_in sp) : Fl.Has P w K mg base "number_in" k ps_number_in sp := by
  obtain ⟨fd, F⟩ := c.d_number_in
  exact ⟨_, fd, h fd F, c.g_number_in, F.kp, F.bindsN fun _ _ _ _ _ _ us hl => match us, hl with | [_, _, _, _], _ => rfl⟩
theorem Cn.d_number_of (c : Cn K mg base) : ∃ fd, FnP K "number_of" s_number_of (He.ga K "number_of") fd := c.says.d.def_ 29 (d := K20.d_number_of) rfl
def ps_number_of : List Str := ["book", "d", "cell"]
def ns_number_of : List Str := ["book", "d", "cell"]
theorem sc_number_of : FnScope ns_number_of ps_number_of (defScope s_number_of) := ⟨rfl, rfl, rfl, by decide +kernel, rfl, by decide +kernel, by decide +kernel⟩
theorem mk_number_of {P : Program} {w : World} {k : Nat} {sp : Sp} (c : Cn K mg base) (h : ∀ fd, FnP K "number_of" s_number_of (He.ga K "number_of") fd → FnOk P w K mg base CX0 k (He.ga K "number_of") fd ps_number_of sp) : Fl.Has P w K mg base "number_of" k ps_number_of sp := by
  obtain ⟨fd, F⟩ := c.d_number_of
  exact ⟨_, fd, h fd F, c.g_number_of, F.kp, F.bindsN fun _ _ _ _ _ _ us hl => match us, hl with | [_, _, _], _ => rfl⟩
theorem Cn.d_way_to (c : Cn K mg base) : ∃ fd, FnP K "way_to" s_way_to (He.ga K "way_to") fd := c.says.d.def_ 30 (d := K20.d_way_to) rfl
def ps_way_to : List Str := ["book", "kind", "d", "number"]
def ns_way_to : List Str := ["book", "kind", "d", "number", "turn", "wide", "many", "left", "low", "kinds", "x", "y"]
theorem sc_way_to : FnScope ns_way_to ps_way_to (defScope s_way_to) := ⟨rfl, rfl, rfl, by decide +kernel, rfl, by decide +kernel, by decide +kernel⟩
theorem mk_way_to {P : Program} {w : World} {k : Nat} {sp : Sp} (c : Cn K mg base) (h : ∀ fd, FnP K "way_to" s_way_to (He.ga K "way_to") fd → FnOk P w K mg base CX0 k (He.ga K "way_to") fd ps_way_to sp) : Fl.Has P w K mg base "way_to" k ps_way_to sp := by
  obtain ⟨fd, F⟩ := c.d_way_to
  exact ⟨_, fd, h fd F, c.g_way_to, F.kp, F.bindsN fun _ _ _ _ _ _ us hl => match us, hl with | [_, _, _, _], _ => rfl⟩
theorem Cn.d_cell_in (c : Cn K mg base) : ∃ fd, FnP K "cell_in" s_cell_in (He.ga K "cell_in") fd := c.says.d.def_ 31 (d := K20.d_cell_in) rfl
def ps_cell_in : List Str := ["book", "kind", "d", "number"]
def ns_cell_in : List Str := ["book", "kind", "d", "number"]
theorem sc_cell_in : FnScope ns_cell_in ps_cell_in (defScope s_cell_in) := ⟨rfl, rfl, rfl, by decide +kernel, rfl, by decide +kernel, by decide +kernel⟩
theorem mk_cell_in {P : Program} {w : World} {k : Nat} {sp : Sp} (c : Cn K mg base) (h : ∀ fd, FnP K "cell_in" s_cell_in (He.ga K "cell_in") fd → FnOk P w K mg base CX0 k (He.ga K "cell_in") fd ps_cell_in sp) : Fl.Has P w K mg base "cell_in" k ps_cell_in sp := by
  obtain ⟨fd, F⟩ := c.d_cell_in
  exact ⟨_, fd, h fd F, c.g_cell_in, F.kp, F.bindsN fun _ _ _ _ _ _ us hl => match us, hl with | [_, _, _, _], _ => rfl⟩
theorem Cn.d_cell_of (c : Cn K mg base) : ∃ fd, FnP K "cell_of" s_cell_of (He.ga K "cell_of") fd := c.says.d.def_ 32 (d := K20.d_cell_of) rfl
def ps_cell_of : List Str := ["book", "d", "number"]
def ns_cell_of : List Str := ["book", "d", "number"]
theorem sc_cell_of : FnScope ns_cell_of ps_cell_of (defScope s_cell_of) := ⟨rfl, rfl, rfl, by decide +kernel, rfl, by decide +kernel, by decide +kernel⟩
theorem mk_cell_of {P : Program} {w : World} {k : Nat} {sp : Sp} (c : Cn K mg base) (h : ∀ fd, FnP K "cell_of" s_cell_of (He.ga K "cell_of") fd → FnOk P w K mg base CX0 k (He.ga K "cell_of") fd ps_cell_of sp) : Fl.Has P w K mg base "cell_of" k ps_cell_of sp := by
  obtain ⟨fd, F⟩ := c.d_cell_of
  exact ⟨_, fd, h fd F, c.g_cell_of, F.kp, F.bindsN fun _ _ _ _ _ _ us hl => match us, hl with | [_, _, _], _ => rfl⟩
theorem Cn.d_kinds_on (c : Cn K mg base) : ∃ fd, FnP K "kinds_on" s_kinds_on (He.ga K "kinds_on") fd := c.says.d.def_ 33 (d := K20.d_kinds_on) rfl
def ps_kinds_on : List Str := ["book", "d", "number"]
def ns_kinds_on : List Str := ["book", "d", "number"]
theorem sc_kinds_on : FnScope ns_kinds_on ps_kinds_on (defScope s_kinds_on) := ⟨rfl, rfl, rfl, by decide +kernel, rfl, by decide +kernel, by decide +kernel⟩
theorem mk_kinds_on {P : Program} {w : World} {k : Nat} {sp : Sp} (c : Cn K mg base) (h : ∀ fd, FnP K "kinds_on" s_kinds_on (He.ga K "kinds_on") fd → FnOk P w K mg base CX0 k (He.ga K "kinds_on") fd ps_kinds_on sp) : Fl.Has P w K mg base "kinds_on" k ps_kinds_on sp := by
  obtain ⟨fd, F⟩ := c.d_kinds_on
  exact ⟨_, fd, h fd F, c.g_kinds_on, F.kp, F.bindsN fun _ _ _ _ _ _ us hl => match us, hl with | [_, _, _], _ => rfl⟩
theorem Cn.d_thread_of (c : Cn K mg base) : ∃ fd, FnP K "thread_of" s_thread_of (He.ga K "thread_of") fd := c.says.d.def_ 34 (d := K20.d_thread_of) rfl
def ps_thread_of : List Str := ["book", "kind", "d", "first", "many"]
def ns_thread_of : List Str := ["book", "kind", "d", "first", "many", "behind", "number"]
theorem sc_thread_of : FnScope ns_thread_of ps_thread_of (defScope s_thread_of) := ⟨rfl, rfl, rfl, by decide +kernel, rfl, by decide +kernel, by decide +kernel⟩
theorem mk_thread_of {P : Program} {w : World} {k : Nat} {sp : Sp} (c : Cn K mg base) (h : ∀ fd, FnP K "thread_of" s_thread_of (He.ga K "thread_of") fd → FnOk P w K mg base CX0 k (He.ga K "thread_of") fd ps_thread_of sp) : Fl.Has P w K mg base "thread_of" k ps_thread_of sp := by
  obtain ⟨fd, F⟩ := c.d_thread_of
  exact ⟨_, fd, h fd F, c.g_thread_of, F.kp, F.bindsN fun _ _ _ _ _ _ us hl => match us, hl with | [_, _, _, _, _], _ => rfl⟩
theorem Cn.d_thread (c : Cn K mg base) : ∃ fd, FnP K "thread" s_thread (He.ga K "thread") fd := c.says.d.def_ 35 (d := K20.d_thread) rfl
def ps_thread : List Str := ["book", "d", "first", "many"]
def ns_thread : List Str := ["book", "d", "first", "many"]
theorem sc_thread : FnScope ns_thread ps_thread (defScope s_thread) := ⟨rfl, rfl, rfl, by decide +kernel, rfl, by decide +kernel, by decide +kernel⟩
theorem mk_thread {P : Program} {w : World} {k : Nat} {sp : Sp} (c : Cn K mg base) (h : ∀ fd, FnP K "thread" s_thread (He.ga K "thread") fd → FnOk P w K mg base CX0 k (He.ga K "thread") fd ps_thread sp) : Fl.Has P w K mg base "thread" k ps_thread sp := by
  obtain ⟨fd, F⟩ := c.d_thread
  exact ⟨_, fd, h fd F, c.g_thread, F.kp, F.bindsN fun _ _ _ _ _ _ us hl => match us, hl with | [_, _, _, _], _ => rfl⟩
theorem Cn.d_first_cell (c : Cn K mg base) : ∃ fd, FnP K "first_cell" s_first_cell (He.ga K "first_cell") fd := c.says.d.def_ 36 (d := K20.d_first_cell) rfl
def ps_first_cell : List Str := ["book", "d"]
def ns_first_cell : List Str := ["book", "d"]
theorem sc_first_cell : FnScope ns_first_cell ps_first_cell (defScope s_first_cell) := ⟨rfl, rfl, rfl, by decide +kernel, rfl, by decide +kernel, by decide +kernel⟩
theorem mk_first_cell {P : Program} {w : World} {k : Nat} {sp : Sp} (c : Cn K mg base) (h : ∀ fd, FnP K "first_cell" s_first_cell (He.ga K "first_cell") fd → FnOk P w K mg base CX0 k (He.ga K "first_cell") fd ps_first_cell sp) : Fl.Has P w K mg base "first_cell" k ps_first_cell sp := by
  obtain ⟨fd, F⟩ := c.d_first_cell
  exact ⟨_, fd, h fd F, c.g_first_cell, F.kp, F.bindsN fun _ _ _ _ _ _ us hl => match us, hl with | [_, _], _ => rfl⟩
theorem Cn.d_last_cell (c : Cn K mg base) : ∃ fd, FnP K "last_cell" s_last_cell (He.ga K "last_cell") fd := c.says.d.def_ 37 (d := K20.d_last_cell) rfl
def ps_last_cell : List Str := ["book", "d"]
def ns_last_cell : List Str := ["book", "d"]
theorem sc_last_cell : FnScope ns_last_cell ps_last_cell (defScope s_last_cell) := ⟨rfl, rfl, rfl, by decide +kernel, rfl, by decide +kernel, by decide +kernel⟩
theorem mk_last_cell {P : Program} {w : World} {k : Nat} {sp : Sp} (c : Cn K mg base) (h : ∀ fd, FnP K "last_cell" s_last_cell (He.ga K "last_cell") fd → FnOk P w K mg base CX0 k (He.ga K "last_cell") fd ps_last_cell sp) : Fl.Has P w K mg base "last_cell" k ps_last_cell sp := by
  obtain ⟨fd, F⟩ := c.d_last_cell
  exact ⟨_, fd, h fd F, c.g_last_cell, F.kp, F.bindsN fun _ _ _ _ _ _ us hl => match us, hl with | [_, _], _ => rfl⟩
theorem Cn.d_whole (c : Cn K mg base) : ∃ fd, FnP K "whole" s_whole (He.ga K "whole") fd := c.says.d.def_ 38 (d := K20.d_whole) rfl
def ps_whole : List Str := ["book", "d"]
def ns_whole : List Str := ["book", "d"]
theorem sc_whole : FnScope ns_whole ps_whole (defScope s_whole) := ⟨rfl, rfl, rfl, by decide +kernel, rfl, by decide +kernel, by decide +kernel⟩
theorem mk_whole {P : Program} {w : World} {k : Nat} {sp : Sp} (c : Cn K mg base) (h : ∀ fd, FnP K "whole" s_whole (He.ga K "whole") fd → FnOk P w K mg base CX0 k (He.ga K "whole") fd ps_whole sp) : Fl.Has P w K mg base "whole" k ps_whole sp := by
  obtain ⟨fd, F⟩ := c.d_whole
  exact ⟨_, fd, h fd F, c.g_whole, F.kp, F.bindsN fun _ _ _ _ _ _ us hl => match us, hl with | [_, _], _ => rfl⟩
theorem Cn.d_law_pot (c : Cn K mg base) : ∃ fd, FnP K "_law_pot" s_law_pot (He.ga K "_law_pot") fd := c.says.d.def_ 39 (d := K20.d_law_pot) rfl
def ps_law_pot : List Str := ["script"]
def ns_law_pot : List Str := ["script"]
theorem sc_law_pot : FnScope ns_law_pot ps_law_pot (defScope s_law_pot) := ⟨rfl, rfl, rfl, by decide +kernel, rfl, by decide +kernel, by decide +kernel⟩
theorem mk_law_pot {P : Program} {w : World} {k : Nat} {sp : Sp} (c : Cn K mg base) (h : ∀ fd, FnP K "_law_pot" s_law_pot (He.ga K "_law_pot") fd → FnOk P w K mg base CX0 k (He.ga K "_law_pot") fd ps_law_pot sp) : Fl.Has P w K mg base "_law_pot" k ps_law_pot sp := by
  obtain ⟨fd, F⟩ := c.d_law_pot
  exact ⟨_, fd, h fd F, c.g_law_pot, F.kp, F.bindsN fun _ _ _ _ _ _ us hl => match us, hl with | [_], _ => rfl⟩
theorem Cn.d_law_draw (c : Cn K mg base) : ∃ fd, FnP K "_law_draw" s_law_draw (He.ga K "_law_draw") fd := c.says.d.def_ 40 (d := K20.d_law_draw) rfl
def ps_law_draw : List Str := ["pot", "many"]
def ns_law_draw : List Str := ["pot", "many", "mixed", "cell", "found"]
theorem sc_law_draw : FnScope ns_law_draw ps_law_draw (defScope s_law_draw) := ⟨rfl, rfl, rfl, by decide +kernel, rfl, by decide +kernel, by decide +kernel⟩
theorem mk_law_draw {P : Program} {w : World} {k : Nat} {sp : Sp} (c : Cn K mg base) (h : ∀ fd, FnP K "_law_draw" s_law_draw (He.ga K "_law_draw") fd → FnOk P w K mg base CX0 k (He.ga K "_law_draw") fd ps_law_draw sp) : Fl.Has P w K mg base "_law_draw" k ps_law_draw sp := by
  obtain ⟨fd, F⟩ := c.d_law_draw
  exact ⟨_, fd, h fd F, c.g_law_draw, F.kp, F.bindsN fun _ _ _ _ _ _ us hl => match us, hl with | [_, _], _ => rfl⟩
theorem Cn.d_law_power (c : Cn K mg base) : ∃ fd, FnP K "_law_power" s_law_power (He.ga K "_law_power") fd := c.says.d.def_ 41 (d := K20.d_law_power) rfl
def ps_law_power : List Str := ["base", "n"]
def ns_law_power : List Str := ["base", "n", "found", "turn"]
theorem sc_law_power : FnScope ns_law_power ps_law_power (defScope s_law_power) := ⟨rfl, rfl, rfl, by decide +kernel, rfl, by decide +kernel, by decide +kernel⟩
theorem mk_law_power {P : Program} {w : World} {k : Nat} {sp : Sp} (c : Cn K mg base) (h : ∀ fd, FnP K "_law_power" s_law_power (He.ga K "_law_power") fd → FnOk P w K mg base CX0 k (He.ga K "_law_power") fd ps_law_power sp) : Fl.Has P w K mg base "_law_power" k ps_law_power sp := by
  obtain ⟨fd, F⟩ := c.d_law_power
  exact ⟨_, fd, h fd F, c.g_law_power, F.kp, F.bindsN fun _ _ _ _ _ _ us hl => match us, hl with | [_, _], _ => rfl⟩
theorem Cn.d_law_same (c : Cn K mg base) : ∃ fd, FnP K "_law_same" s_law_same (He.ga K "_law_same") fd := c.says.d.def_ 42 (d := K20.d_law_same) rfl
def ps_law_same : List Str := ["told", "due"]
def ns_law_same : List Str := ["told", "due", "at"]
theorem sc_law_same : FnScope ns_law_same ps_law_same (defScope s_law_same) := ⟨rfl, rfl, rfl, by decide +kernel, rfl, by decide +kernel, by decide +kernel⟩
theorem mk_law_same {P : Program} {w : World} {k : Nat} {sp : Sp} (c : Cn K mg base) (h : ∀ fd, FnP K "_law_same" s_law_same (He.ga K "_law_same") fd → FnOk P w K mg base CX0 k (He.ga K "_law_same") fd ps_law_same sp) : Fl.Has P w K mg base "_law_same" k ps_law_same sp := by
  obtain ⟨fd, F⟩ := c.d_law_same
  exact ⟨_, fd, h fd F, c.g_law_same, F.kp, F.bindsN fun _ _ _ _ _ _ us hl => match us, hl with | [_, _], _ => rfl⟩
theorem Cn.d_law_any_book (c : Cn K mg base) : ∃ fd, FnP K "_law_any_book" s_law_any_book (He.ga K "_law_any_book") fd := c.says.d.def_ 43 (d := K20.d_law_any_book) rfl
def ps_law_any_book : List Str := ["pot", "b", "many"]
def ns_law_any_book : List Str := ["pot", "b", "many", "kinds", "turn", "at", "left", "row", "x", "y"]
theorem sc_law_any_book : FnScope ns_law_any_book ps_law_any_book (defScope s_law_any_book) := ⟨rfl, rfl, rfl, by decide +kernel, rfl, by decide +kernel, by decide +kernel⟩
theorem mk_law_any_book {P : Program} {w : World} {k : Nat} {sp : Sp} (c : Cn K mg base) (h : ∀ fd, FnP K "_law_any_book" s_law_any_book (He.ga K "_law_any_book") fd → FnOk P w K mg base CX0 k (He.ga K "_law_any_book") fd ps_law_any_book sp) : Fl.Has P w K mg base "_law_any_book" k ps_law_any_book sp := by
  obtain ⟨fd, F⟩ := c.d_law_any_book
  exact ⟨_, fd, h fd F, c.g_law_any_book, F.kp, F.bindsN fun _ _ _ _ _ _ us hl => match us, hl with | [_, _, _], _ => rfl⟩
theorem Cn.d_law_posed (c : Cn K mg base) : ∃ fd, FnP K "_law_posed" s_law_posed (He.ga K "_law_posed") fd := c.says.d.def_ 44 (d := K20.d_law_posed) rfl
def ps_law_posed : List Str := ["b", "x", "y", "way", "mirror"]
def ns_law_posed : List Str := ["b", "x", "y", "way", "mirror", "turn"]
theorem sc_law_posed : FnScope ns_law_posed ps_law_posed (defScope s_law_posed) := ⟨rfl, rfl, rfl, by decide +kernel, rfl, by decide +kernel, by decide +kernel⟩
theorem mk_law_posed {P : Program} {w : World} {k : Nat} {sp : Sp} (c : Cn K mg base) (h : ∀ fd, FnP K "_law_posed" s_law_posed (He.ga K "_law_posed") fd → FnOk P w K mg base CX0 k (He.ga K "_law_posed") fd ps_law_posed sp) : Fl.Has P w K mg base "_law_posed" k ps_law_posed sp := by
  obtain ⟨fd, F⟩ := c.d_law_posed
  exact ⟨_, fd, h fd F, c.g_law_posed, F.kp, F.bindsN fun _ _ _ _ _ _ us hl => match us, hl with | [_, _, _, _, _], _ => rfl⟩
theorem Cn.d_law_path_book (c : Cn K mg base) : ∃ fd, FnP K "_law_path_book" s_law_path_book (He.ga K "_law_path_book") fd := c.says.d.def_ 45 (d := K20.d_law_path_book) rfl
def ps_law_path_book : List Str := ["pot", "b"]
def ns_law_path_book : List Str := ["pot", "b", "found", "row", "kinds", "flip", "way", "mirror", "back", "posed_v", "at", "kind", "x", "y"]
theorem sc_law_path_book : FnScope ns_law_path_book ps_law_path_book (defScope s_law_path_book) := ⟨rfl, rfl, rfl, by decide +kernel, rfl, by decide +kernel, by decide +kernel⟩
theorem mk_law_path_book {P : Program} {w : World} {k : Nat} {sp : Sp} (c : Cn K mg base) (h : ∀ fd, FnP K "_law_path_book" s_law_path_book (He.ga K "_law_path_book") fd → FnOk P w K mg base CX0 k (He.ga K "_law_path_book") fd ps_law_path_book sp) : Fl.Has P w K mg base "_law_path_book" k ps_law_path_book sp := by
  obtain ⟨fd, F⟩ := c.d_law_path_book
  exact ⟨_, fd, h fd F, c.g_law_path_book, F.kp, F.bindsN fun _ _ _ _ _ _ us hl => match us, hl with | [_, _], _ => rfl⟩
theorem Cn.d_law_drawn_book (c : Cn K mg base) : ∃ fd, FnP K "_law_drawn_book" s_law_drawn_book (He.ga K "_law_drawn_book") fd := c.says.d.def_ 46 (d := K20.d_law_drawn_book) rfl
def ps_law_drawn_book : List Str := ["pot", "most"]
def ns_law_drawn_book : List Str := ["pot", "most", "b"]
theorem sc_law_drawn_book : FnScope ns_law_drawn_book ps_law_drawn_book (defScope s_law_drawn_book) := ⟨rfl, rfl, rfl, by decide +kernel, rfl, by decide +kernel, by decide +kernel⟩
theorem mk_law_drawn_book {P : Program} {w : World} {k : Nat} {sp : Sp} (c : Cn K mg base) (h : ∀ fd, FnP K "_law_drawn_book" s_law_drawn_book (He.ga K "_law_drawn_book") fd → FnOk P w K mg base CX0 k (He.ga K "_law_drawn_book") fd ps_law_drawn_book sp) : Fl.Has P w K mg base "_law_drawn_book" k ps_law_drawn_book sp := by
  obtain ⟨fd, F⟩ := c.d_law_drawn_book
  exact ⟨_, fd, h fd F, c.g_law_drawn_book, F.kp, F.bindsN fun _ _ _ _ _ _ us hl => match us, hl with | [_, _], _ => rfl⟩
theorem Cn.d_law_picture (c : Cn K mg base) : ∃ fd, FnP K "_law_picture" s_law_picture (He.ga K "_law_picture") fd := c.says.d.def_ 47 (d := K20.d_law_picture) rfl
def ps_law_picture : List Str := ["book", "way", "mirror", "back"]
def ns_law_picture : List Str := ["book", "way", "mirror", "back", "kinds", "row", "posed_v", "x", "y", "kind"]
theorem sc_law_picture : FnScope ns_law_picture ps_law_picture (defScope s_law_picture) := ⟨rfl, rfl, rfl, by decide +kernel, rfl, by decide +kernel, by decide +kernel⟩
theorem mk_law_picture {P : Program} {w : World} {k : Nat} {sp : Sp} (c : Cn K mg base) (h : ∀ fd, FnP K "_law_picture" s_law_picture (He.ga K "_law_picture") fd → FnOk P w K mg base CX0 k (He.ga K "_law_picture") fd ps_law_picture sp) : Fl.Has P w K mg base "_law_picture" k ps_law_picture sp := by
  obtain ⟨fd, F⟩ := c.d_law_picture
  exact ⟨_, fd, h fd F, c.g_law_picture, F.kp, F.bindsN fun _ _ _ _ _ _ us hl => match us, hl with | [_, _, _, _], _ => rfl⟩
theorem Cn.d_law_figures (c : Cn K mg base) : ∃ fd, FnP K "_law_figures" s_law_figures (He.ga K "_law_figures") fd := c.says.d.def_ 48 (d := K20.d_law_figures) rfl
def ps_law_figures : List Str := ["k", "d", "number"]
def ns_law_figures : List Str := ["k", "d", "number", "found", "turn"]
theorem sc_law_figures : FnScope ns_law_figures ps_law_figures (defScope s_law_figures) := ⟨rfl, rfl, rfl, by decide +kernel, rfl, by decide +kernel, by decide +kernel⟩
theorem mk_law_figures {P : Program} {w : World} {k : Nat} {sp : Sp} (c : Cn K mg base) (h : ∀ fd, FnP K "_law_figures" s_law_figures (He.ga K "_law_figures") fd → FnOk P w K mg base CX0 k (He.ga K "_law_figures") fd ps_law_figures sp) : Fl.Has P w K mg base "_law_figures" k ps_law_figures sp := by
  obtain ⟨fd, F⟩ := c.d_law_figures
  exact ⟨_, fd, h fd F, c.g_law_figures, F.kp, F.bindsN fun _ _ _ _ _ _ us hl => match us, hl with | [_, _, _], _ => rfl⟩
theorem Cn.d_law_way (c : Cn K mg base) : ∃ fd, FnP K "_law_way" s_law_way (He.ga K "_law_way") fd := c.says.d.def_ 49 (d := K20.d_law_way) rfl
def ps_law_way : List Str := ["book", "d", "number"]
def ns_law_way : List Str := ["book", "d", "number", "figure", "x", "y", "kinds", "part"]
theorem sc_law_way : FnScope ns_law_way ps_law_way (defScope s_law_way) := ⟨rfl, rfl, rfl, by decide +kernel, rfl, by decide +kernel, by decide +kernel⟩
theorem mk_law_way {P : Program} {w : World} {k : Nat} {sp : Sp} (c : Cn K mg base) (h : ∀ fd, FnP K "_law_way" s_law_way (He.ga K "_law_way") fd → FnOk P w K mg base CX0 k (He.ga K "_law_way") fd ps_law_way sp) : Fl.Has P w K mg base "_law_way" k ps_law_way sp := by
  obtain ⟨fd, F⟩ := c.d_law_way
  exact ⟨_, fd, h fd F, c.g_law_way, F.kp, F.bindsN fun _ _ _ _ _ _ us hl => match us, hl with | [_, _, _], _ => rfl⟩
theorem Cn.d_law_renamed (c : Cn K mg base) : ∃ fd, FnP K "_law_renamed" s_law_renamed (He.ga K "_law_renamed") fd := c.says.d.def_ 50 (d := K20.d_law_renamed) rfl
def ps_law_renamed : List Str := ["pot", "book"]
def ns_law_renamed : List Str := ["pot", "book", "many", "at", "kinds", "left", "names", "x", "y", "kind"]
theorem sc_law_renamed : FnScope ns_law_renamed ps_law_renamed (defScope s_law_renamed) := ⟨rfl, rfl, rfl, by decide +kernel, rfl, by decide +kernel, by decide +kernel⟩
theorem mk_law_renamed {P : Program} {w : World} {k : Nat} {sp : Sp} (c : Cn K mg base) (h : ∀ fd, FnP K "_law_renamed" s_law_renamed (He.ga K "_law_renamed") fd → FnOk P w K mg base CX0 k (He.ga K "_law_renamed") fd ps_law_renamed sp) : Fl.Has P w K mg base "_law_renamed" k ps_law_renamed sp := by
  obtain ⟨fd, F⟩ := c.d_law_renamed
  exact ⟨_, fd, h fd F, c.g_law_renamed, F.kp, F.bindsN fun _ _ _ _ _ _ us hl => match us, hl with | [_, _], _ => rfl⟩
theorem Cn.d_law_doubled (c : Cn K mg base) : ∃ fd, FnP K "_law_doubled" s_law_doubled (He.ga K "_law_doubled") fd := c.says.d.def_ 51 (d := K20.d_law_doubled) rfl
def ps_law_doubled : List Str := ["pot", "book"]
def ns_law_doubled : List Str := ["pot", "book", "kinds", "row", "turn", "x", "y", "kind"]
theorem sc_law_doubled : FnScope ns_law_doubled ps_law_doubled (defScope s_law_doubled) := ⟨rfl, rfl, rfl, by decide +kernel, rfl, by decide +kernel, by decide +kernel⟩
theorem mk_law_doubled {P : Program} {w : World} {k : Nat} {sp : Sp} (c : Cn K mg base) (h : ∀ fd, FnP K "_law_doubled" s_law_doubled (He.ga K "_law_doubled") fd → FnOk P w K mg base CX0 k (He.ga K "_law_doubled") fd ps_law_doubled sp) : Fl.Has P w K mg base "_law_doubled" k ps_law_doubled sp := by
  obtain ⟨fd, F⟩ := c.d_law_doubled
  exact ⟨_, fd, h fd F, c.g_law_doubled, F.kp, F.bindsN fun _ _ _ _ _ _ us hl => match us, hl with | [_, _], _ => rfl⟩
theorem Cn.d_law_carried (c : Cn K mg base) : ∃ fd, FnP K "_law_carried" s_law_carried (He.ga K "_law_carried") fd := c.says.d.def_ 52 (d := K20.d_law_carried) rfl
def ps_law_carried : List Str := ["book", "d", "number", "way"]
def ns_law_carried : List Str := ["book", "d", "number", "way", "many", "kinds", "x", "y"]
theorem sc_law_carried : FnScope ns_law_carried ps_law_carried (defScope s_law_carried) := ⟨rfl, rfl, rfl, by decide +kernel, rfl, by decide +kernel, by decide +kernel⟩
theorem mk_law_carried {P : Program} {w : World} {k : Nat} {sp : Sp} (c : Cn K mg base) (h : ∀ fd, FnP K "_law_carried" s_law_carried (He.ga K "_law_carried") fd → FnOk P w K mg base CX0 k (He.ga K "_law_carried") fd ps_law_carried sp) : Fl.Has P w K mg base "_law_carried" k ps_law_carried sp := by
  obtain ⟨fd, F⟩ := c.d_law_carried
  exact ⟨_, fd, h fd F, c.g_law_carried, F.kp, F.bindsN fun _ _ _ _ _ _ us hl => match us, hl with | [_, _, _, _], _ => rfl⟩
theorem Cn.d_law_numbers_right (c : Cn K mg base) : ∃ fd, FnP K "_law_numbers_right" s_law_numbers_right (He.ga K "_law_numbers_right") fd := c.says.d.def_ 53 (d := K20.d_law_numbers_right) rfl
def ps_law_numbers_right : List Str := ["pot", "book", "there", "way"]
def ns_law_numbers_right : List Str := ["pot", "book", "there", "way", "d", "many", "step", "ends", "due", "number", "told", "first", "size", "cell", "kinds"]
theorem sc_law_numbers_right : FnScope ns_law_numbers_right ps_law_numbers_right (defScope s_law_numbers_right) := ⟨rfl, rfl, rfl, by decide +kernel, rfl, by decide +kernel, by decide +kernel⟩
theorem mk_law_numbers_right {P : Program} {w : World} {k : Nat} {sp : Sp} (c : Cn K mg base) (h : ∀ fd, FnP K "_law_numbers_right" s_law_numbers_right (He.ga K "_law_numbers_right") fd → FnOk P w K mg base CX0 k (He.ga K "_law_numbers_right") fd ps_law_numbers_right sp) : Fl.Has P w K mg base "_law_numbers_right" k ps_law_numbers_right sp := by
  obtain ⟨fd, F⟩ := c.d_law_numbers_right
  exact ⟨_, fd, h fd F, c.g_law_numbers_right, F.kp, F.bindsN fun _ _ _ _ _ _ us hl => match us, hl with | [_, _, _, _], _ => rfl⟩
theorem Cn.d_law_whole_right (c : Cn K mg base) : ∃ fd, FnP K "_law_whole_right" s_law_whole_right (He.ga K "_law_whole_right") fd := c.says.d.def_ 54 (d := K20.d_law_whole_right) rfl
def ps_law_whole_right : List Str := ["pot", "book", "there", "way"]
def ns_law_whole_right : List Str := ["pot", "book", "there", "way", "d", "due", "number"]
theorem sc_law_whole_right : FnScope ns_law_whole_right ps_law_whole_right (defScope s_law_whole_right) := ⟨rfl, rfl, rfl, by decide +kernel, rfl, by decide +kernel, by decide +kernel⟩
theorem mk_law_whole_right {P : Program} {w : World} {k : Nat} {sp : Sp} (c : Cn K mg base) (h : ∀ fd, FnP K "_law_whole_right" s_law_whole_right (He.ga K "_law_whole_right") fd → FnOk P w K mg base CX0 k (He.ga K "_law_whole_right") fd ps_law_whole_right sp) : Fl.Has P w K mg base "_law_whole_right" k ps_law_whole_right sp := by
  obtain ⟨fd, F⟩ := c.d_law_whole_right
  exact ⟨_, fd, h fd F, c.g_law_whole_right, F.kp, F.bindsN fun _ _ _ _ _ _ us hl => match us, hl with | [_, _, _, _], _ => rfl⟩
theorem Cn.d_law_begun (c : Cn K mg base) : ∃ fd, FnP K "_law_begun" s_law_begun (He.ga K "_law_begun") fd := c.says.d.def_ 55 (d := K20.d_law_begun) rfl
def ps_law_begun : List Str := ["book", "kind"]
def ns_law_begun : List Str := ["book", "kind", "at", "order", "rows", "row", "x", "y", "part"]
theorem sc_law_begun : FnScope ns_law_begun ps_law_begun (defScope s_law_begun) := ⟨rfl, rfl, rfl, by decide +kernel, rfl, by decide +kernel, by decide +kernel⟩
theorem mk_law_begun {P : Program} {w : World} {k : Nat} {sp : Sp} (c : Cn K mg base) (h : ∀ fd, FnP K "_law_begun" s_law_begun (He.ga K "_law_begun") fd → FnOk P w K mg base CX0 k (He.ga K "_law_begun") fd ps_law_begun sp) : Fl.Has P w K mg base "_law_begun" k ps_law_begun sp := by
  obtain ⟨fd, F⟩ := c.d_law_begun
  exact ⟨_, fd, h fd F, c.g_law_begun, F.kp, F.bindsN fun _ _ _ _ _ _ us hl => match us, hl with | [_, _], _ => rfl⟩
theorem Cn.d_law_names_right (c : Cn K mg base) : ∃ fd, FnP K "_law_names_right" s_law_names_right (He.ga K "_law_names_right") fd := c.says.d.def_ 56 (d := K20.d_law_names_right) rfl
def ps_law_names_right : List Str := ["pot", "book"]
def ns_law_names_right : List Str := ["pot", "book", "number", "told", "twin", "d", "cell", "kinds", "other", "names", "kind"]
theorem sc_law_names_right : FnScope ns_law_names_right ps_law_names_right (defScope s_law_names_right) := ⟨rfl, rfl, rfl, by decide +kernel, rfl, by decide +kernel, by decide +kernel⟩
theorem mk_law_names_right {P : Program} {w : World} {k : Nat} {sp : Sp} (c : Cn K mg base) (h : ∀ fd, FnP K "_law_names_right" s_law_names_right (He.ga K "_law_names_right") fd → FnOk P w K mg base CX0 k (He.ga K "_law_names_right") fd ps_law_names_right sp) : Fl.Has P w K mg base "_law_names_right" k ps_law_names_right sp := by
  obtain ⟨fd, F⟩ := c.d_law_names_right
  exact ⟨_, fd, h fd F, c.g_law_names_right, F.kp, F.bindsN fun _ _ _ _ _ _ us hl => match us, hl with | [_, _], _ => rfl⟩
theorem Cn.d_law (c : Cn K mg base) : ∃ fd, FnP K "law" s_law (He.ga K "law") fd := c.says.d.def_ 57 (d := K20.d_law) rfl
def ps_law : List Str := ["script"]
def ns_law : List Str := ["script", "pot", "turn", "book", "there", "kind", "begun", "way", "kept", "posed_v", "back"]
theorem sc_law : FnScope ns_law ps_law (defScope s_law) := ⟨rfl, rfl, rfl, by decide +kernel, rfl, by decide +kernel, by decide +kernel⟩
theorem mk_law {P : Program} {w : World} {k : Nat} {sp : Sp} (c : Cn K mg base) (h : ∀ fd, FnP K "law" s_law (He.ga K "law") fd → FnOk P w K mg base CX0 k (He.ga K "law") fd ps_law sp) : Fl.Has P w K mg base "law" k ps_law sp := by
  obtain ⟨fd, F⟩ := c.d_law
  exact ⟨_, fd, h fd F, c.g_law, F.kp, F.bindsN fun _ _ _ _ _ _ us hl => match us, hl with | [_], _ => rfl⟩
end
end K20
set_option autoImplicit false
set_option Elab.async false
set_option linter.all false
set_option maxRecDepth 100000
set_option maxHeartbeats 4000000
namespace K20
open PySem PySem.Spec PyProof.Rows L2 Fl Bk
local macro_rules | `(tactic| walk_at "sd") => `(tactic| first | assumption | rfl | omega | exact Nat.le_of_ble_eq_true rfl | (constructor <;> omega) | decide | (left; constructor <;> omega) | (right; constructor <;> omega))
local macro_rules | `(tactic| walk_at "fn") => `(tactic| fail "fn")
local macro_rules | `(tactic| walk_at "rc") => `(tactic| first | exact rc_len rfl | exact rc_tuple rfl | exact rc_all | exact rc_any | exact rc_sum | exact rc_int1 | exact rc_min2 | exact rc_max2)
local macro_rules | `(tactic| walk_at "rcn") => `(tactic| first | exact rcn_list rfl)
local macro_rules | `(tactic| walk_at "rr") => `(tactic| first | exact rr_i | exact rr_b | exact rr_eqI | exact rr_neI | exact rr_eqB | exact rr_neB | exact rr_eqS | exact rr_neS | (apply rr_ixT; first | rfl | assumption) | (apply rr_ixL; first | rfl | assumption) | (apply rr_ic; walk_at "sd") | (apply rr_catT; first | (exact List.cons_ne_nil _ _) | assumption; walk_at "sd"))
local macro_rules | `(tactic| walk_at "ea") => `(tactic| first | exact ea_nil | (apply ea_cons; walk_at "ee"; walk_at "ea"))
local macro_rules | `(tactic| walk_at "et") => `(tactic| first | (apply et_test; walk_at "ee") | (apply et_B; walk_at "ee") | (apply et_not; walk_at "et") | exact et_yes | (apply et_andP; walk_at "et"; walk_at "et") | (apply et_orP; walk_at "et"; walk_at "et"))
local macro_rules | `(tactic| walk_at "en") => `(tactic| first | (apply en_lst; walk_at "ea"; walk_at "sd") | (apply en_cb; walk_at "ea"; walk_at "rcn") | (apply en_revO; rfl) | (apply en_revL; walk_at "ee"))
local macro_rules | `(tactic| walk_at "ex") => `(tactic| first | exact ex_nil | (apply ex_n; walk_at "en"; (intro _ z; cases z); walk_at "ex") | (apply ex_t; walk_at "ee"; walk_at "ex"))
local macro_rules | `(tactic| walk_at "eo") => `(tactic| first | exact eo_no | (apply eo_part; walk_at "ee"))
local macro_rules | `(tactic| walk_at "gg") => `(tactic| first | exact gg_name rfl rfl | exact gg_name rfl (by assumption) | (apply gg_tup; walk_at "ggs"; rfl) | (apply gg_lst; walk_at "ggs"; rfl))
local macro_rules | `(tactic| walk_at "ggs") => `(tactic| first | exact ggs_nil | (apply ggs_cons; walk_at "gg"; walk_at "ggs"))
local macro_rules | `(tactic| walk_at "ei") => `(tactic| first | (apply ei_rangeL1; walk_at "ea") | (apply ei_rangeL2; walk_at "ea") | (apply ei_tup; walk_at "ee") | (apply ei_list; walk_at "ee"))
local macro_rules | `(tactic| walk_at "ee") => `(tactic| first
  | exact ee_var rfl
  | exact ee_int
  | exact ee_bl
  | exact ee_non
  | exact ee_str
  | (apply ee_ixO rfl; walk_at "ee"; rfl; first | rfl | assumption)
  | (apply ee_op; walk_at "ee"; walk_at "ee"; walk_at "rr")
  | (apply ee_tup; walk_at "ea"; walk_at "sd")
  | (apply ee_call; walk_at "ea"; walk_at "fn")
  | (apply ee_isi; walk_at "ee"; rfl; rfl)
  | exact ee_lenO rfl
  | exact ee_tupleO rfl
  | (apply ee_cb; walk_at "ea"; walk_at "rc")
  | (apply ee_andP; walk_at "ee"; walk_at "ee")
  | (apply ee_orP; walk_at "ee"; walk_at "ee")
  | (apply ee_notV; walk_at "ee")
  | (apply ee_neg; walk_at "ee")
  | (apply ee_revT; walk_at "ee")
  | (apply ee_slT; walk_at "ee"; walk_at "eo"; walk_at "eo"; walk_at "sd")
  | (apply EN.tree; walk_at "en"))
local macro_rules | `(tactic| walk_at "asg") => `(tactic| (apply sd_seq; apply sd_asg; apply ed_of; walk_at "ee"; refine ⟨⟨_, rfl, rfl⟩, ?_⟩))
local macro_rules | `(tactic| walk_at "asgN") => `(tactic| (apply sd_seq; apply sd_of; apply ss_asgN; walk_at "en"; rfl; rfl))
local macro_rules | `(tactic| walk_at "asgG") => `(tactic| (apply sd_seq; apply sd_of; apply ss_asgG; walk_at "ee"; walk_at "gg"))
local macro_rules | `(tactic| walk_at "par") => `(tactic| (apply sd_seq; apply sd_of; apply ss_parX; walk_at "ex"; decide; rfl; rfl; rfl; rfl))
local macro_rules | `(tactic| walk_at "par3") => `(tactic| (apply sd_seq; apply sd_of; apply ss_par3X; walk_at "ex"; decide; decide; decide; rfl; rfl; rfl; rfl; rfl; rfl))
local macro_rules | `(tactic| walk_at "ret") => `(tactic| (apply sd_ret; apply ed_of; walk_at "ee"))
local macro_rules | `(tactic| walk_at "no") => `(tactic| (apply sd_seq; apply sd_if; apply td_of; walk_at "et"))
local macro_rules | `(tactic| walk_at "drop") => `(tactic| (apply sd_seq; apply sd_drop; apply ed_of; walk_at "ee"))
section
variable {P : Program} {w : World} {K : PySem.W.Frag} {mg : Str → Option Value} {base : Heap}
/-! ### integers -/
def f_is_integer : List D → D → Prop := fun ds d => ∃ i, ds = [.int i] ∧ d = .bool true
theorem r_is_integer {i : Int} : f_is_integer [.int i] (.bool true) := ⟨i, rfl, rfl⟩
theorem ok_is_integer (c : Cn K mg base) : Has P w K mg base "is_integer" 1 ps_is_integer (spP K f_is_integer) := by
  refine mk_is_integer c fun fd F => fn_D F sc_is_integer (fun ds d h => by obtain ⟨i, rfl, _⟩ := h; rfl) fun cdv A outer s H E hr => ?_
  refine ⟨_, (pss_one (ps_ret (pe_and (pe_callB (cIsi K rfl) (by rfl) c.f_isinstance b_isinstance (pa_cons (pv 0) (pa_cons (pe_bt c.f_int b_int) pa_nil))) (pe_one (pe_not (pe_callB (cIsi K rfl) (by rfl) c.f_isinstance b_isinstance (pa_cons (pv 0) (pa_cons (pe_bt c.f_bool b_bool) pa_nil)))))))), ?_⟩
  rintro ds d ⟨i, rfl, rfl⟩
  show SD K _ [.d (.int i)] _
  walk_at "ret"
  rfl
local macro_rules | `(tactic| walk_at "fn") => `(tactic| exact r_is_integer)
def f_is_natural : List D → D → Prop := fun ds d => ∃ i : Int, ds = [.int i] ∧ d = .bool (decide (0 ≤ i))
theorem r_is_natural {i : Int} : f_is_natural [.int i] (.bool (decide (0 ≤ i))) := ⟨i, rfl, rfl⟩
theorem ok_is_natural (c : Cn K mg base) : Has P w K mg base "is_natural" 2 ps_is_natural (spP K f_is_natural) := by
  refine mk_is_natural c fun fd F => fn_D F sc_is_natural (fun ds d h => by obtain ⟨i, rfl, _⟩ := h; rfl) fun cdv A outer s H E hr => ?_
  refine ⟨_, (pss_one (ps_ret (pe_and (pe_has (ok_is_integer c) hr (pa_cons (pv 0) pa_nil)) (pe_one (pe_cmpR op_ge (pv 0) pe_int (nomark _)))))), ?_⟩
  rintro ds d ⟨i, rfl, rfl⟩
  show SD K _ [.d (.int i)] _
  walk_at "ret"
  rfl
local macro_rules | `(tactic| walk_at "fn") => `(tactic| exact r_is_natural)
def f_is_below : List D → D → Prop := fun ds d => ∃ i n : Int, ds = [.int i, .int n] ∧ d = .bool (decide (0 ≤ i) && decide (i < n))
theorem r_is_below {i n : Int} : f_is_below [.int i, .int n] (.bool (decide (0 ≤ i) && decide (i < n))) := ⟨i, n, rfl, rfl⟩
theorem ok_is_below (c : Cn K mg base) : Has P w K mg base "is_below" 3 ps_is_below (spP K f_is_below) := by
  refine mk_is_below c fun fd F => fn_D F sc_is_below (fun ds d h => by obtain ⟨i, n, rfl, _⟩ := h; rfl) fun cdv A outer s H E hr => ?_
  refine ⟨_, (pss_one (ps_ret (pe_and (pe_has (ok_is_natural c) hr (pa_cons (pv 0) pa_nil)) (pe_one (pe_cmpR op_lt (pv 0) (pv 1) (nomark _)))))), ?_⟩
  rintro ds d ⟨i, n, rfl, rfl⟩
  show SD K _ [.d (.int i), .d (.int n)] _
  walk_at "ret"
  rfl
local macro_rules | `(tactic| walk_at "fn") => `(tactic| exact r_is_below)
def f_is_pair : List D → D → Prop := fun ds d => ∃ xs : List D, ds = [.tuple xs] ∧ xs.length = 2 ∧ d = .bool true
theorem r_is_pair {x y : D} : f_is_pair [.tuple [x, y]] (.bool true) := ⟨_, rfl, rfl, rfl⟩
theorem ok_is_pair (c : Cn K mg base) : Has P w K mg base "is_pair" 1 ps_is_pair (spP K f_is_pair) := by
  refine mk_is_pair c fun fd F => fn_D F sc_is_pair (fun ds d h => by obtain ⟨i, rfl, _⟩ := h; rfl) fun cdv A outer s H E hr => ?_
  refine ⟨_, (pss_one (ps_ret (pe_and (pe_callB (cIsi K rfl) (by rfl) c.f_isinstance b_isinstance (pa_cons (pv 0) (pa_cons (pe_bt c.f_tuple b_tuple) pa_nil))) (pe_one (pe_cmpR op_eq (pe_callB (cLen K rfl) (by rfl) c.f_len b_len (pa_cons (pv 0) pa_nil)) pe_int (nomark _)))))), ?_⟩
  rintro ds d ⟨xs, rfl, hx, rfl⟩
  show SD K _ [.d (.tuple xs)] _
  walk_at "ret"
  show PyData.bool (true && decide ((xs.length : Int) = 2)) = .bool true
  rw [hx]; rfl
local macro_rules | `(tactic| walk_at "fn") => `(tactic| exact r_is_pair)
def f_power : List D → D → Prop := fun ds d => ∃ b n : Nat, ds = [.int b, .int n] ∧ b < 100 ∧ d = .int ((b ^ n : Nat) : Int)
theorem r_power {b n : Nat} (h : b < 100) : f_power [.int b, .int n] (.int ((b ^ n : Nat) : Int)) := ⟨_, _, rfl, h, rfl⟩
theorem ok_power (c : Cn K mg base) : Has P w K mg base "power" 1 ps_power (spP K f_power) := by
  refine mk_power c fun fd F => fn_D F sc_power (fun ds d h => by obtain ⟨i, n, rfl, _⟩ := h; rfl) fun cdv A outer s H E hr => ?_
  refine ⟨_, (pss_cons (ps_set (i := 2) sc_power.nd rfl (by first | exact Or.inl rfl | exact Or.inr rfl) pe_int)
    (pss_cons (ps_for PassesOwn.never rfl (FlRange.pi_rangeL1 (by rfl) c.f_range (pa_cons (pv 1) pa_nil)) (pg_name (i := 3) sc_power.nd rfl (by first | exact Or.inl rfl | exact Or.inr rfl)) (pss_one (ps_set (i := 2) sc_power.nd rfl (by first | exact Or.inl rfl | exact Or.inr rfl) (pe_op op_mul (pv 2) (pv 0)))))
    (pss_one (ps_ret (pv 2))))), ?_⟩
  rintro ds d ⟨b, n, rfl, hb, rfl⟩
  show SD K _ [.d (.int b), .d (.int n), .any, .any] _
  walk_at "asg"
  apply sd_seq
  refine sd_for (by walk_at "ei") (fun i e => ∃ v, S.isPm v = false ∧ e = [.d (.int b), .d (.int n), .d (.int ((b ^ i : Nat) : Int)), v]) ⟨.any, rfl, rfl⟩ ?_ ?_
  · rintro i d e hd ⟨v, hv, rfl⟩
    refine ⟨_, _, gg_name rfl hv, ?_⟩
    apply sd_asg; apply ed_of; walk_at "ee"; refine ⟨⟨_, rfl, rfl⟩, ?_⟩
    exact ⟨.d d, rfl, by rw [Nat.pow_succ]; push_cast; rfl⟩
  · rintro e ⟨v, hv, rfl⟩
    walk_at "ret"
    rw [rangeD_len]; rfl
local macro_rules | `(tactic| walk_at "fn") => `(tactic| (apply r_power; walk_at "sd"))
end
end K20
set_option autoImplicit false
set_option Elab.async false
set_option linter.all false
set_option maxRecDepth 100000
set_option maxHeartbeats 4000000
namespace K20
open PySem PySem.Spec PyProof.Rows L2 Fl Bk
local macro_rules | `(tactic| walk_at "sd") => `(tactic| first | assumption | rfl | omega | exact Nat.le_of_ble_eq_true rfl | (constructor <;> omega) | decide | (left; constructor <;> omega) | (right; constructor <;> omega))
local macro_rules | `(tactic| walk_at "fn") => `(tactic| fail "fn")
local macro_rules | `(tactic| walk_at "rc") => `(tactic| first | exact rc_len rfl | exact rc_tuple rfl | exact rc_all | exact rc_any | exact rc_sum | exact rc_int1 | exact rc_min2 | exact rc_max2)
local macro_rules | `(tactic| walk_at "rcn") => `(tactic| first | exact rcn_list rfl)
local macro_rules | `(tactic| walk_at "rr") => `(tactic| first | exact rr_i | exact rr_b | exact rr_eqI | exact rr_neI | exact rr_eqB | exact rr_neB | exact rr_eqS | exact rr_neS | (apply rr_ixT; first | rfl | assumption) | (apply rr_ixL; first | rfl | assumption) | (apply rr_ic; walk_at "sd") | (apply rr_catT; first | (exact List.cons_ne_nil _ _) | assumption; walk_at "sd"))
local macro_rules | `(tactic| walk_at "ea") => `(tactic| first | exact ea_nil | (apply ea_cons; walk_at "ee"; walk_at "ea"))
local macro_rules | `(tactic| walk_at "et") => `(tactic| first | (apply et_test; walk_at "ee") | (apply et_B; walk_at "ee") | (apply et_not; walk_at "et") | exact et_yes | (apply et_andP; walk_at "et"; walk_at "et") | (apply et_orP; walk_at "et"; walk_at "et"))
local macro_rules | `(tactic| walk_at "en") => `(tactic| first | (apply en_lst; walk_at "ea"; walk_at "sd") | (apply en_cb; walk_at "ea"; walk_at "rcn") | (apply en_revO; rfl) | (apply en_revL; walk_at "ee"))
local macro_rules | `(tactic| walk_at "ex") => `(tactic| first | exact ex_nil | (apply ex_n; walk_at "en"; (intro _ z; cases z); walk_at "ex") | (apply ex_t; walk_at "ee"; walk_at "ex"))
local macro_rules | `(tactic| walk_at "eo") => `(tactic| first | exact eo_no | (apply eo_part; walk_at "ee"))
local macro_rules | `(tactic| walk_at "gg") => `(tactic| first | exact gg_name rfl rfl | exact gg_name rfl (by assumption) | (apply gg_tup; walk_at "ggs"; rfl) | (apply gg_lst; walk_at "ggs"; rfl))
local macro_rules | `(tactic| walk_at "ggs") => `(tactic| first | exact ggs_nil | (apply ggs_cons; walk_at "gg"; walk_at "ggs"))
local macro_rules | `(tactic| walk_at "ei") => `(tactic| first | (apply ei_rangeL1; walk_at "ea") | (apply ei_rangeL2; walk_at "ea") | (apply ei_tup; walk_at "ee") | (apply ei_list; walk_at "ee"))
local macro_rules | `(tactic| walk_at "ee") => `(tactic| first
  | exact ee_var rfl
  | exact ee_int
  | exact ee_bl
  | exact ee_non
  | exact ee_str
  | (apply ee_ixO rfl; walk_at "ee"; rfl; first | rfl | assumption)
  | (apply ee_op; walk_at "ee"; walk_at "ee"; walk_at "rr")
  | (apply ee_tup; walk_at "ea"; walk_at "sd")
  | (apply ee_call; walk_at "ea"; walk_at "fn")
  | (apply ee_isi; walk_at "ee"; rfl; rfl)
  | exact ee_lenO rfl
  | exact ee_tupleO rfl
  | (apply ee_cb; walk_at "ea"; walk_at "rc")
  | (apply ee_andP; walk_at "ee"; walk_at "ee")
  | (apply ee_orP; walk_at "ee"; walk_at "ee")
  | (apply ee_notV; walk_at "ee")
  | (apply ee_neg; walk_at "ee")
  | (apply ee_revT; walk_at "ee")
  | (apply ee_slT; walk_at "ee"; walk_at "eo"; walk_at "eo"; walk_at "sd")
  | (apply EN.tree; walk_at "en"))
local macro_rules | `(tactic| walk_at "asg") => `(tactic| (apply sd_seq; apply sd_asg; apply ed_of; walk_at "ee"; refine ⟨⟨_, rfl, rfl⟩, ?_⟩))
local macro_rules | `(tactic| walk_at "asgN") => `(tactic| (apply sd_seq; apply sd_of; apply ss_asgN; walk_at "en"; rfl; rfl))
local macro_rules | `(tactic| walk_at "asgG") => `(tactic| (apply sd_seq; apply sd_of; apply ss_asgG; walk_at "ee"; walk_at "gg"))
local macro_rules | `(tactic| walk_at "par") => `(tactic| (apply sd_seq; apply sd_of; apply ss_parX; walk_at "ex"; decide; rfl; rfl; rfl; rfl))
local macro_rules | `(tactic| walk_at "par3") => `(tactic| (apply sd_seq; apply sd_of; apply ss_par3X; walk_at "ex"; decide; decide; decide; rfl; rfl; rfl; rfl; rfl; rfl))
local macro_rules | `(tactic| walk_at "ret") => `(tactic| (apply sd_ret; apply ed_of; walk_at "ee"))
local macro_rules | `(tactic| walk_at "no") => `(tactic| (apply sd_seq; apply sd_if; apply td_of; walk_at "et"))
local macro_rules | `(tactic| walk_at "drop") => `(tactic| (apply sd_seq; apply sd_drop; apply ed_of; walk_at "ee"))
local macro_rules | `(tactic| walk_at "fn") => `(tactic| exact r_is_integer)
local macro_rules | `(tactic| walk_at "fn") => `(tactic| exact r_is_natural)
local macro_rules | `(tactic| walk_at "fn") => `(tactic| exact r_is_below)
local macro_rules | `(tactic| walk_at "fn") => `(tactic| exact r_is_pair)
local macro_rules | `(tactic| walk_at "fn") => `(tactic| (apply r_power; walk_at "sd"))
section
variable {P : Program} {w : World} {K : PySem.W.Frag} {mg : Str → Option Value} {base : Heap}
theorem ee_SIDES {env : Fl.Env} (c : Cn K mg base) : EE K (tC (.ref (He.ga K "SIDES"))) env env (.tuple [.int 2, .int 3]) := ee_kt (c.says.tup 0 rfl H0) fun _ _ => .cons (.int _) (.cons (.int _) .nil)
/-! ### cells, postures -/
def CellIn (w : Int) (c : Int × Int) : Prop := 0 ≤ c.1 ∧ c.1 < w ∧ 0 ≤ c.2 ∧ c.2 < w
def f_is_cell_below : List D → D → Prop := fun ds d => ∃ (c : Int × Int) (w : Int), ds = [dCell c, .int w] ∧ CellIn w c ∧ d = .bool true
theorem r_is_cell_below {c : Int × Int} {w : Int} (h : CellIn w c) : f_is_cell_below [dCell c, .int w] (.bool true) := ⟨_, _, rfl, h, rfl⟩
theorem ok_is_cell_below (c : Cn K mg base) : Has P w K mg base "is_cell_below" 4 ps_is_cell_below (spP K f_is_cell_below) := by
  refine mk_is_cell_below c fun fd F => fn_D F sc_is_cell_below (fun ds d h => by obtain ⟨i, n, rfl, _⟩ := h; rfl) fun cdv A outer s H E hr => ?_
  refine ⟨_, (pss_one (ps_ret (pe_and (pe_has (ok_is_pair c) hr (pa_cons (pv 0) pa_nil)) (pe_one (pe_callB (cAll K rfl rfl) (by rfl) c.f_all b_all (pa_cons (pe_lc (own := [("a", 2)]) rfl sc_is_cell_below.nd (piT K rfl (pv 0)) (blkOk_by rfl) (fun _ _ _ _ _ => (pg_name (i := 2) sc_is_cell_below.nd rfl (by first | exact Or.inl rfl | exact Or.inr rfl))) (fun _ _ _ _ _ => pts_nil) (fun _ _ _ _ _ => (pe_has (ok_is_below c) hr (pa_cons (pv 2) (pa_cons (pv 1) pa_nil))))) pa_nil)))))), ?_⟩
  rintro ds d ⟨q, w, rfl, ⟨h1, h2, h3, h4⟩, rfl⟩
  show SD K _ [.d (.tuple [.int q.1, .int q.2]), .d (.int w), .any] _
  apply sd_ret; apply ed_of; apply ee_andP
  · walk_at "ee"
  · apply ee_allLc
    · walk_at "ei"
    · exact (show 2 ≤ 1000000 by decide)
    · rfl
    · intro i d hd
      have hb : ∃ n : Int, d = .int n ∧ 0 ≤ n ∧ n < w := by
        match i, hd with
        | 0, hd => cases hd; exact ⟨_, rfl, h1, h2⟩
        | 1, hd => cases hd; exact ⟨_, rfl, h3, h4⟩
      obtain ⟨n, rfl, g1, g2⟩ := hb
      refine ⟨_, _, gg_name rfl rfl, et_yes, ?_, rfl, rfl⟩
      refine EE.is (x := .bool (decide (0 ≤ n) && decide (n < w))) (by walk_at "ee") ?_
      simp [g1, g2]
  rfl
local macro_rules | `(tactic| walk_at "fn") => `(tactic| (apply r_is_cell_below; walk_at "sd"))
def dPos (r m : Nat) : D := .tuple [.int (r : Nat), .int (m : Nat)]
def f_is_posture : List D → D → Prop := fun ds d => ∃ r m : Nat, ds = [dPos r m] ∧ r < 4 ∧ m < 2 ∧ d = .bool true
theorem r_is_posture {r m : Nat} (h1 : r < 4) (h2 : m < 2) : f_is_posture [dPos r m] (.bool true) := ⟨_, _, rfl, h1, h2, rfl⟩
theorem ok_is_posture (c : Cn K mg base) : Has P w K mg base "is_posture" 4 ps_is_posture (spP K f_is_posture) := by
  refine mk_is_posture c fun fd F => fn_D F sc_is_posture (fun ds d h => by obtain ⟨i, n, rfl, _⟩ := h; rfl) fun cdv A outer s H E hr => ?_
  refine ⟨_, (pss_one (ps_ret (pe_and (pe_has (ok_is_pair c) hr (pa_cons (pv 0) pa_nil)) (pe_and (pe_has (ok_is_below c) hr (pa_cons (pe_ix (ixT K rfl) (pv 0) pe_int (fun _ _ => rfl)) (pa_cons pe_int pa_nil))) (pe_one (pe_has (ok_is_below c) hr (pa_cons (pe_ix (ixT K rfl) (pv 0) pe_int (fun _ _ => rfl)) (pa_cons pe_int pa_nil)))))))), ?_⟩
  rintro ds d ⟨r, m, rfl, h1, h2, rfl⟩
  show SD K _ [.d (.tuple [.int (r : Nat), .int (m : Nat)])] _
  walk_at "ret"
  have a1 : (r : Int) < 4 := by omega
  have a2 : (m : Int) < 2 := by omega
  have a3 : (0 : Int) ≤ r := by omega
  have a4 : (0 : Int) ≤ m := by omega
  show PyData.bool _ = .bool true
  simp [a1, a2, a3, a4]
local macro_rules | `(tactic| walk_at "fn") => `(tactic| (apply r_is_posture; walk_at "sd"; walk_at "sd"))
def f_posed : List D → D → Prop := fun ds d => ∃ (w : Int) (q : Int × Int) (r m : Nat), ds = [.int w, dCell q, dPos r m] ∧ d = dCell (Bk.posed w q r m)
theorem r_posed {w : Int} {q : Int × Int} {r m : Nat} : f_posed [.int w, dCell q, dPos r m] (dCell (Bk.posed w q r m)) := ⟨_, _, _, _, rfl, rfl⟩
theorem ok_posed (c : Cn K mg base) : Has P w K mg base "posed" 1 ps_posed (spP K f_posed) := by
  refine mk_posed c fun fd F => fn_D F sc_posed (fun ds d h => by obtain ⟨i, n, _, _, rfl, _⟩ := h; rfl) fun cdv A outer s H E hr => ?_
  refine ⟨_, (pss_cons (ps_asg (pv 1) (pgT K rfl (n := 2) rfl (pgs_cons (pg_name (i := 4) sc_posed.nd rfl (by first | exact Or.inl rfl | exact Or.inr rfl)) (pgs_cons (pg_name (i := 5) sc_posed.nd rfl (by first | exact Or.inl rfl | exact Or.inr rfl)) pgs_nil))))
    (pss_cons (ps_for PassesOwn.never rfl (FlRange.pi_rangeL1 (by rfl) c.f_range (pa_cons (pe_ix (ixT K rfl) (pv 2) pe_int (fun _ _ => rfl)) pa_nil)) (pg_name (i := 3) sc_posed.nd rfl (by first | exact Or.inl rfl | exact Or.inr rfl)) (pss_one (ps_par (i := 4) (j := 5) rfl sc_posed.nd rfl rfl (by decide) rfl rfl (pa_cons (pe_op op_sub (pe_op op_sub (pv 0) pe_int) (pv 5)) (pa_cons (pv 4) pa_nil)) rfl)))
    (pss_one (ps_ret (pe_ifExp (pt_cmpR op_eq (pe_ix (ixT K rfl) (pv 2) pe_int (fun _ _ => rfl)) pe_int (nomark _)) (pe_tup (pa_cons (pv 5) (pa_cons (pv 4) pa_nil))) (pe_tup (pa_cons (pv 4) (pa_cons (pv 5) pa_nil)))))))), ?_⟩
  rintro ds d ⟨w, q, r, m, rfl, rfl⟩
  show SD K _ [.d (.int w), .d (.tuple [.int q.1, .int q.2]), .d (.tuple [.int (r : Nat), .int (m : Nat)]), .any, .any, .any] _
  walk_at "asgG"
  apply sd_seq
  refine sd_for (by walk_at "ei") (fun i e => ∃ v, S.isPm v = false ∧ e = [.d (.int w), .d (.tuple [.int q.1, .int q.2]), .d (.tuple [.int (r : Nat), .int (m : Nat)]), v, .d (.int (Bk.turns w i q).1), .d (.int (Bk.turns w i q).2)]) ⟨.any, rfl, rfl⟩ ?_ ?_
  · rintro i d e hd ⟨v, hv, rfl⟩
    refine ⟨_, _, gg_name rfl hv, ?_⟩
    apply sd_of; apply ss_parX; walk_at "ex"; decide; rfl; rfl; rfl; rfl
    exact ⟨.d d, rfl, rfl⟩
  · rintro e ⟨v, hv, rfl⟩
    rw [rangeD_len, Int.toNat_natCast]
    apply sd_ret; apply ed_of
    · refine ee_ifP (b := decide ((m : Int) = 1)) ?_ (d := dCell (Bk.posed w q r m)) ?_ ?_
      · exact et_test (by walk_at "ee")
      · intro hb
        have e1 : m = 1 := by have := of_decide_eq_true hb; omega
        refine EE.is (by walk_at "ee") ?_
        rw [e1]; rfl
      · intro hb
        have e1 : m ≠ 1 := fun z => by rw [z] at hb; exact absurd hb (by decide)
        refine EE.is (by walk_at "ee") ?_
        unfold Bk.posed dCell
        rw [if_neg e1]
    · rfl
local macro_rules | `(tactic| walk_at "fn") => `(tactic| exact r_posed)
end
end K20
set_option autoImplicit false
set_option Elab.async false
set_option linter.all false
set_option maxRecDepth 100000
set_option maxHeartbeats 4000000
namespace K20
open PySem PySem.Spec PyProof.Rows L2 Fl Bk
local macro_rules | `(tactic| walk_at "sd") => `(tactic| first | assumption | rfl | omega | exact Nat.le_of_ble_eq_true rfl | (constructor <;> omega) | decide | (left; constructor <;> omega) | (right; constructor <;> omega))
local macro_rules | `(tactic| walk_at "fn") => `(tactic| fail "fn")
local macro_rules | `(tactic| walk_at "rc") => `(tactic| first | exact rc_len rfl | exact rc_tuple rfl | exact rc_all | exact rc_any | exact rc_sum | exact rc_int1 | exact rc_min2 | exact rc_max2)
local macro_rules | `(tactic| walk_at "rcn") => `(tactic| first | exact rcn_list rfl)
local macro_rules | `(tactic| walk_at "rr") => `(tactic| first | exact rr_i | exact rr_b | exact rr_eqI | exact rr_neI | exact rr_eqB | exact rr_neB | exact rr_eqS | exact rr_neS | (apply rr_ixT; first | rfl | assumption) | (apply rr_ixL; first | rfl | assumption) | (apply rr_ic; walk_at "sd") | (apply rr_catT; first | (exact List.cons_ne_nil _ _) | assumption; walk_at "sd"))
local macro_rules | `(tactic| walk_at "ea") => `(tactic| first | exact ea_nil | (apply ea_cons; walk_at "ee"; walk_at "ea"))
local macro_rules | `(tactic| walk_at "et") => `(tactic| first | (apply et_test; walk_at "ee") | (apply et_B; walk_at "ee") | (apply et_not; walk_at "et") | exact et_yes | (apply et_andP; walk_at "et"; walk_at "et") | (apply et_orP; walk_at "et"; walk_at "et"))
local macro_rules | `(tactic| walk_at "en") => `(tactic| first | (apply en_lst; walk_at "ea"; walk_at "sd") | (apply en_cb; walk_at "ea"; walk_at "rcn") | (apply en_revO; rfl) | (apply en_revL; walk_at "ee"))
local macro_rules | `(tactic| walk_at "ex") => `(tactic| first | exact ex_nil | (apply ex_n; walk_at "en"; (intro _ z; cases z); walk_at "ex") | (apply ex_t; walk_at "ee"; walk_at "ex"))
local macro_rules | `(tactic| walk_at "eo") => `(tactic| first | exact eo_no | (apply eo_part; walk_at "ee"))
local macro_rules | `(tactic| walk_at "gg") => `(tactic| first | exact gg_name rfl rfl | exact gg_name rfl (by assumption) | (apply gg_tup; walk_at "ggs"; rfl) | (apply gg_lst; walk_at "ggs"; rfl))
local macro_rules | `(tactic| walk_at "ggs") => `(tactic| first | exact ggs_nil | (apply ggs_cons; walk_at "gg"; walk_at "ggs"))
local macro_rules | `(tactic| walk_at "ei") => `(tactic| first | (apply ei_rangeL1; walk_at "ea") | (apply ei_rangeL2; walk_at "ea") | (apply ei_tup; walk_at "ee") | (apply ei_list; walk_at "ee"))
local macro_rules | `(tactic| walk_at "ee") => `(tactic| first
  | exact ee_var rfl
  | exact ee_int
  | exact ee_bl
  | exact ee_non
  | exact ee_str
  | (apply ee_ixO rfl; walk_at "ee"; rfl; first | rfl | assumption)
  | (apply ee_op; walk_at "ee"; walk_at "ee"; walk_at "rr")
  | (apply ee_tup; walk_at "ea"; walk_at "sd")
  | (apply ee_call; walk_at "ea"; walk_at "fn")
  | (apply ee_isi; walk_at "ee"; rfl; rfl)
  | exact ee_lenO rfl
  | exact ee_tupleO rfl
  | (apply ee_cb; walk_at "ea"; walk_at "rc")
  | (apply ee_andP; walk_at "ee"; walk_at "ee")
  | (apply ee_orP; walk_at "ee"; walk_at "ee")
  | (apply ee_notV; walk_at "ee")
  | (apply ee_neg; walk_at "ee")
  | (apply ee_revT; walk_at "ee")
  | (apply ee_slT; walk_at "ee"; walk_at "eo"; walk_at "eo"; walk_at "sd")
  | (apply EN.tree; walk_at "en"))
local macro_rules | `(tactic| walk_at "asg") => `(tactic| (apply sd_seq; apply sd_asg; apply ed_of; walk_at "ee"; refine ⟨⟨_, rfl, rfl⟩, ?_⟩))
local macro_rules | `(tactic| walk_at "asgN") => `(tactic| (apply sd_seq; apply sd_of; apply ss_asgN; walk_at "en"; rfl; rfl))
local macro_rules | `(tactic| walk_at "asgG") => `(tactic| (apply sd_seq; apply sd_of; apply ss_asgG; walk_at "ee"; walk_at "gg"))
local macro_rules | `(tactic| walk_at "par") => `(tactic| (apply sd_seq; apply sd_of; apply ss_parX; walk_at "ex"; decide; rfl; rfl; rfl; rfl))
local macro_rules | `(tactic| walk_at "par3") => `(tactic| (apply sd_seq; apply sd_of; apply ss_par3X; walk_at "ex"; decide; decide; decide; rfl; rfl; rfl; rfl; rfl; rfl))
local macro_rules | `(tactic| walk_at "ret") => `(tactic| (apply sd_ret; apply ed_of; walk_at "ee"))
local macro_rules | `(tactic| walk_at "no") => `(tactic| (apply sd_seq; apply sd_if; apply td_of; walk_at "et"))
local macro_rules | `(tactic| walk_at "drop") => `(tactic| (apply sd_seq; apply sd_drop; apply ed_of; walk_at "ee"))
local macro_rules | `(tactic| walk_at "fn") => `(tactic| exact r_is_integer)
local macro_rules | `(tactic| walk_at "fn") => `(tactic| exact r_is_natural)
local macro_rules | `(tactic| walk_at "fn") => `(tactic| exact r_is_below)
local macro_rules | `(tactic| walk_at "fn") => `(tactic| exact r_is_pair)
local macro_rules | `(tactic| walk_at "fn") => `(tactic| (apply r_power; walk_at "sd"))
local macro_rules | `(tactic| walk_at "fn") => `(tactic| (apply r_is_cell_below; walk_at "sd"))
local macro_rules | `(tactic| walk_at "fn") => `(tactic| (apply r_is_posture; walk_at "sd"; walk_at "sd"))
local macro_rules | `(tactic| walk_at "fn") => `(tactic| exact r_posed)
section
variable {P : Program} {w : World} {K : PySem.W.Frag} {mg : Str → Option Value} {base : Heap}
/-! ### books are told as such -/
theorem dIn {b : Int} {n : Int} (h0 : 0 ≤ n) (h1 : n < b) : (decide (0 ≤ n) && decide (n < b)) = true := by simp [h0, h1]
def f_is_part : List D → D → Prop := fun ds d => ∃ (b many : Nat) (p : Part), ds = [.int b, .int many, dPart p] ∧ (0 ≤ p.1 ∧ p.1 < b ∧ 0 ≤ p.2.1 ∧ p.2.1 < b ∧ p.2.2 < many) ∧ d = .bool true
theorem r_is_part {b many : Nat} {p : Part} (h : 0 ≤ p.1 ∧ p.1 < b ∧ 0 ≤ p.2.1 ∧ p.2.1 < b ∧ p.2.2 < many) : f_is_part [.int b, .int many, dPart p] (.bool true) := ⟨_, _, _, rfl, h, rfl⟩
theorem ok_is_part (c : Cn K mg base) : Has P w K mg base "is_part" 4 ps_is_part (spP K f_is_part) := by
  refine mk_is_part c fun fd F => fn_D F sc_is_part (fun ds d h => by obtain ⟨_, _, _, rfl, _⟩ := h; rfl) fun cdv A outer s H E hr => ?_
  refine ⟨_, (pss_cons (ps_if (pw_or (pt_not (pt_val (pe_callB (cIsi K rfl) (by rfl) c.f_isinstance b_isinstance (pa_cons (pv 2) (pa_cons (pe_bt c.f_tuple b_tuple) pa_nil))))) (pw_or1 (pt_cmpR op_ne (pe_callB (cLen K rfl) (by rfl) c.f_len b_len (pa_cons (pv 2) pa_nil)) pe_int (nomark _)))).pt (pss_one (ps_ret pe_bl)) pss_nil)
    (pss_one (ps_ret (pe_and (pe_has (ok_is_below c) hr (pa_cons (pe_ix (ixT K rfl) (pv 2) pe_int (fun _ _ => rfl)) (pa_cons (pv 0) pa_nil))) (pe_and (pe_has (ok_is_below c) hr (pa_cons (pe_ix (ixT K rfl) (pv 2) pe_int (fun _ _ => rfl)) (pa_cons (pv 0) pa_nil))) (pe_one (pe_has (ok_is_below c) hr (pa_cons (pe_ix (ixT K rfl) (pv 2) pe_int (fun _ _ => rfl)) (pa_cons (pv 1) pa_nil))))))))), ?_⟩
  rintro ds d ⟨b, many, p, rfl, ⟨h1, h2, h3, h4, h5⟩, rfl⟩
  show SD K _ [.d (.int (b : Int)), .d (.int (many : Int)), .d (.tuple [.int p.1, .int p.2.1, .int p.2.2])] _
  apply sd_seq; apply sd_ifF; walk_at "et"; rfl
  apply sd_next
  walk_at "ret"
  have a1 : (0 : Int) ≤ p.2.2 := by omega
  have a2 : (p.2.2 : Int) < many := by omega
  show PyData.bool _ = .bool true
  rw [dIn h1 h2, dIn h3 h4, dIn a1 a2]; rfl
local macro_rules | `(tactic| walk_at "fn") => `(tactic| (apply r_is_part; assumption))
def f_is_kind_of : List D → D → Prop := fun ds d => ∃ (b many : Nat) (r : Bk.Row), ds = [.int b, .int many, dRow r] ∧ b ≤ 3 ∧ RowOk b many r ∧ d = .bool true
theorem r_is_kind_of {b many : Nat} {r : Bk.Row} (hb : b ≤ 3) (h : RowOk b many r) : f_is_kind_of [.int b, .int many, dRow r] (.bool true) := ⟨_, _, _, rfl, hb, h, rfl⟩
theorem ok_is_kind_of (c : Cn K mg base) : Has P w K mg base "is_kind_of" 5 ps_is_kind_of (spP K f_is_kind_of) := by
  refine mk_is_kind_of c fun fd F => fn_D F sc_is_kind_of (fun ds d h => by obtain ⟨_, _, _, rfl, _⟩ := h; rfl) fun cdv A outer s H E hr => ?_
  refine ⟨_, (pss_cons (ps_if (pw_or (pt_not (pt_val (pe_callB (cIsi K rfl) (by rfl) c.f_isinstance b_isinstance (pa_cons (pv 2) (pa_cons (pe_bt c.f_tuple b_tuple) pa_nil))))) (pw_or (pt_cmpR op_ne (pe_callB (cLen K rfl) (by rfl) c.f_len b_len (pa_cons (pv 2) pa_nil)) (pe_op op_mul (pv 0) (pv 0)) (nomark _)) (pw_or1 (pt_not (pt_val (pe_callB (cAll K rfl rfl) (by rfl) c.f_all b_all (pa_cons (pe_lc (own := [("part", 3)]) rfl sc_is_kind_of.nd (piT K rfl (pv 2)) (blkOk_by rfl) (fun _ _ _ _ _ => (pg_name (i := 3) sc_is_kind_of.nd rfl (by first | exact Or.inl rfl | exact Or.inr rfl))) (fun _ _ _ _ _ => pts_nil) (fun _ _ _ _ _ => (pe_has (ok_is_part c) hr (pa_cons (pv 0) (pa_cons (pv 1) (pa_cons (pv 3) pa_nil)))))) pa_nil))))))).pt (pss_one (ps_ret pe_bl)) pss_nil)
    (pss_one (ps_ret (pe_cmpR op_eq (pe_callB call_len_dT (by rfl) c.f_len b_len (pa_cons (FlDc.pe_dcT (own := [("part", 3)]) (hu_of hr) rfl sc_is_kind_of.nd (piT K rfl (pv 2)) (blkOk_by rfl) (fun _ _ _ _ _ => (pg_name (i := 3) sc_is_kind_of.nd rfl (by first | exact Or.inl rfl | exact Or.inr rfl))) (fun _ _ _ _ _ => pts_nil) (fun _ _ _ _ _ => (pe_slice (slT K rfl) (pv 3) po_none (po_some pe_int))) (fun _ _ _ _ _ => pe_bl)) pa_nil)) (pe_op op_mul (pv 0) (pv 0)) (nomark _))))), ?_⟩
  rintro ds d ⟨b, many, r, rfl, hb, ho, rfl⟩
  show SD K _ [.d (.int (b : Int)), .d (.int (many : Int)), .d (.tuple (r.map dPart)), .any] _
  have hl : (r.map dPart).length = b * b := by rw [List.length_map]; exact ho.len
  have hz : (r.map dPart).length ≤ 1000000 := by
    rw [hl]
    have := Nat.mul_le_mul hb hb
    omega
  have hall : EE K (tCB (rAll K) (tCons (tLc (iTup K (tVar 2)) (gName 3) tYes (tCall (spP K f_is_part) [] E0 (tCons (tVar 0) (tCons (tVar 1) (tCons (tVar 3) tNil)))) [3]) tNil)) [.d (.int (b : Int)), .d (.int (many : Int)), .d (.tuple (r.map dPart)), .any] [.d (.int (b : Int)), .d (.int (many : Int)), .d (.tuple (r.map dPart)), .any] (.bool true) := by
    apply ee_allLc
    · walk_at "ei"
    · exact hz
    · rfl
    · intro i d hd
      rw [List.getElem?_map] at hd
      obtain ⟨p, hp, rfl⟩ := Option.map_eq_some_iff.mp hd
      have hin := ho.inn p (List.mem_of_getElem? hp)
      exact ⟨_, _, gg_name rfl rfl, et_yes, by walk_at "ee", rfl, rfl⟩
  apply sd_seq; apply sd_ifF
  · apply et_orP
    · walk_at "et"
    apply et_orP
    · walk_at "et"
    · exact et_not (et_test hall)
  · have e : (((r.map dPart).length : Nat) : Int) = (b : Int) * b := by rw [hl]; push_cast; rfl
    rw [e]; simp
  apply sd_next
  apply sd_ret; apply ed_of
  · refine ee_op (y := .int ((b : Int) * b)) (z := .bool true) (ee_lenDc (ks := r.map keyPart) (b := true) (by walk_at "ei") rfl (by simp) hz ?_) (by walk_at "ee") ?_
    · intro i d k hd hk
      rw [List.getElem?_map] at hd hk
      obtain ⟨p, hp, rfl⟩ := Option.map_eq_some_iff.mp hd
      rw [hp] at hk
      cases hk
      exact ef_slT (lo := none) (hi := some 2) (ds := [.int p.1, .int p.2.1, .int p.2.2]) (ee_var rfl) eo_no (eo_part ee_int) (fun h => absurd (show (2 : Nat) = 3 from h.2) (by decide))
    · have e : ((keysV true (r.map keyPart)).length : Int) = (b : Int) * b := by
        rw [keysV_len (keys_nodup ho), List.length_map, ho.len]; push_cast; rfl
      rw [e]
      have := rr_eqI (K := K) (i := (b : Int) * b) (j := (b : Int) * b)
      rw [decide_eq_true rfl] at this
      exact this
  · rfl
local macro_rules | `(tactic| walk_at "fn") => `(tactic| (apply r_is_kind_of; assumption; assumption))
def f_is_book : List D → D → Prop := fun ds d => ∃ B : Book, ds = [dBook B] ∧ BookOk B ∧ d = .bool true
theorem r_is_book {B : Book} (h : BookOk B) : f_is_book [dBook B] (.bool true) := ⟨_, rfl, h, rfl⟩
theorem ok_is_book (c : Cn K mg base) : Has P w K mg base "is_book" 6 ps_is_book (spP K f_is_book) := by
  refine mk_is_book c fun fd F => fn_D F sc_is_book (fun ds d h => by obtain ⟨_, rfl, _⟩ := h; rfl) fun cdv A outer s H E hr => ?_
  refine ⟨_, (pss_cons (ps_if (pw_or (pt_not (pt_val (pe_has (ok_is_pair c) hr (pa_cons (pv 0) pa_nil)))) (pw_or (pt_not (pt_val (pe_has (ok_is_integer c) hr (pa_cons (pe_ix (ixT K rfl) (pv 0) pe_int (fun _ _ => rfl)) pa_nil)))) (pw_or1 (pt_cmpR (notInS K rfl) (pe_ix (ixT K rfl) (pv 0) pe_int (fun _ _ => rfl)) (pe_gT c.g_SIDES) rfl)))).pt (pss_one (ps_ret pe_bl)) pss_nil)
    (pss_cons (ps_if (pw_or (pt_not (pt_val (pe_callB (cIsi K rfl) (by rfl) c.f_isinstance b_isinstance (pa_cons (pe_ix (ixT K rfl) (pv 0) pe_int (fun _ _ => rfl)) (pa_cons (pe_bt c.f_tuple b_tuple) pa_nil))))) (pw_or1 (pt_cmpR op_eq (pe_callB (cLen K rfl) (by rfl) c.f_len b_len (pa_cons (pe_ix (ixT K rfl) (pv 0) pe_int (fun _ _ => rfl)) pa_nil)) pe_int (nomark _)))).pt (pss_one (ps_ret pe_bl)) pss_nil)
    (pss_one (ps_ret (pe_callB (cAll K rfl rfl) (by rfl) c.f_all b_all (pa_cons (pe_lc (own := [("kind", 1)]) rfl sc_is_book.nd (piT K rfl (pe_ix (ixT K rfl) (pv 0) pe_int (fun _ _ => rfl))) (blkOk_by rfl) (fun _ _ _ _ _ => (pg_name (i := 1) sc_is_book.nd rfl (by first | exact Or.inl rfl | exact Or.inr rfl))) (fun _ _ _ _ _ => pts_nil) (fun _ _ _ _ _ => (pe_has (ok_is_kind_of c) hr (pa_cons (pe_ix (ixT K rfl) (pv 0) pe_int (fun _ _ => rfl)) (pa_cons (pe_callB (cLen K rfl) (by rfl) c.f_len b_len (pa_cons (pe_ix (ixT K rfl) (pv 0) pe_int (fun _ _ => rfl)) pa_nil)) (pa_cons (pv 1) pa_nil)))))) pa_nil)))))), ?_⟩
  rintro ds d ⟨B, rfl, ho, rfl⟩
  show SD K _ [.d (.tuple [.int (B.b : Nat), .tuple (B.kinds.map dRow)]), .any] _
  have hb := ho.b2
  have hl : (B.kinds.map dRow).length = B.kinds.length := List.length_map _
  have hf := ho.few
  apply sd_seq; apply sd_ifF
  · apply et_orP
    · walk_at "et"
    apply et_orP
    · walk_at "et"
    apply et_test; apply ee_op; walk_at "ee"; exact ee_SIDES c
    exact rr_in rfl rfl rfl rfl
  · rcases ho.side with h | h <;> rw [h] <;> rfl
  apply sd_next
  apply sd_seq; apply sd_ifF
  · walk_at "et"
  · have : B.kinds.length ≠ 0 := fun z => ho.ne (List.eq_nil_of_length_eq_zero z)
    simp [this]
  apply sd_next
  apply sd_ret; apply ed_of
  · apply ee_allLc
    · walk_at "ei"
    · omega
    · rfl
    · intro i d hd
      rw [List.getElem?_map] at hd
      obtain ⟨r, hr, rfl⟩ := Option.map_eq_some_iff.mp hd
      have hro := ho.rows r (List.mem_of_getElem? hr)
      rw [← hl] at hro
      have hb3 := hb.2
      exact ⟨_, _, gg_name rfl rfl, et_yes, by walk_at "ee", rfl, rfl⟩
  · rfl
local macro_rules | `(tactic| walk_at "fn") => `(tactic| (apply r_is_book; assumption))
def f_check_book : List D → D → Prop := fun ds d => ∃ B : Book, ds = [dBook B] ∧ BookOk B ∧ d = .none
theorem r_check_book {B : Book} (h : BookOk B) : f_check_book [dBook B] .none := ⟨_, rfl, h, rfl⟩
theorem ok_check_book (c : Cn K mg base) : Has P w K mg base "check_book" 7 ps_check_book (spP K f_check_book) := by
  refine mk_check_book c fun fd F => fn_D F sc_check_book (fun ds d h => by obtain ⟨_, rfl, _⟩ := h; rfl) fun cdv A outer s H E hr => ?_
  refine ⟨_, (pss_one (ps_if (pt_not (pt_val (pe_has (ok_is_book c) hr (pa_cons (pv 0) pa_nil)))) (pss_one ps_never) pss_nil)), ?_⟩
  rintro ds d ⟨B, rfl, ho, rfl⟩
  show SD K _ [.d (dBook B)] _
  apply sd_ifF; walk_at "et"; rfl
  apply sd_next; rfl
local macro_rules | `(tactic| walk_at "fn") => `(tactic| (apply r_check_book; assumption))
def f_check_kind : List D → D → Prop := fun ds d => ∃ (B : Book) (k : Nat), ds = [dBook B, .int k] ∧ k < B.kinds.length ∧ d = .none
theorem r_check_kind {B : Book} {k : Nat} (h : k < B.kinds.length) : f_check_kind [dBook B, .int k] .none := ⟨_, _, rfl, h, rfl⟩
theorem ok_check_kind (c : Cn K mg base) : Has P w K mg base "check_kind" 4 ps_check_kind (spP K f_check_kind) := by
  refine mk_check_kind c fun fd F => fn_D F sc_check_kind (fun ds d h => by obtain ⟨_, _, rfl, _⟩ := h; rfl) fun cdv A outer s H E hr => ?_
  refine ⟨_, (pss_one (ps_if (pt_not (pt_val (pe_has (ok_is_below c) hr (pa_cons (pv 1) (pa_cons (pe_callB (cLen K rfl) (by rfl) c.f_len b_len (pa_cons (pe_ix (ixT K rfl) (pv 0) pe_int (fun _ _ => rfl)) pa_nil)) pa_nil))))) (pss_one ps_never) pss_nil)), ?_⟩
  rintro ds d ⟨B, k, rfl, hk, rfl⟩
  show SD K _ [.d (.tuple [.int (B.b : Nat), .tuple (B.kinds.map dRow)]), .d (.int (k : Int))] _
  apply sd_ifF; walk_at "et"
  · rw [List.length_map]
    have a1 : (k : Int) < B.kinds.length := by omega
    rw [dIn (by omega) a1]; rfl
  apply sd_next; rfl
local macro_rules | `(tactic| walk_at "fn") => `(tactic| (apply r_check_kind; assumption))
end
end K20
set_option autoImplicit false
set_option Elab.async false
set_option linter.all false
set_option maxRecDepth 100000
set_option maxHeartbeats 4000000
namespace K20
open PySem PySem.Spec PyProof.Rows L2 Fl Bk
local macro_rules | `(tactic| walk_at "sd") => `(tactic| first | assumption | rfl | omega | exact Nat.le_of_ble_eq_true rfl | (constructor <;> omega) | decide | (left; constructor <;> omega) | (right; constructor <;> omega))
local macro_rules | `(tactic| walk_at "fn") => `(tactic| fail "fn")
local macro_rules | `(tactic| walk_at "rc") => `(tactic| first | exact rc_len rfl | exact rc_tuple rfl | exact rc_all | exact rc_any | exact rc_sum | exact rc_int1 | exact rc_min2 | exact rc_max2)
local macro_rules | `(tactic| walk_at "rcn") => `(tactic| first | exact rcn_list rfl)
local macro_rules | `(tactic| walk_at "rr") => `(tactic| first | exact rr_i | exact rr_b | exact rr_eqI | exact rr_neI | exact rr_eqB | exact rr_neB | exact rr_eqS | exact rr_neS | (apply rr_ixT; first | rfl | assumption) | (apply rr_ixL; first | rfl | assumption) | (apply rr_ic; walk_at "sd") | (apply rr_catT; first | (exact List.cons_ne_nil _ _) | assumption; walk_at "sd"))
local macro_rules | `(tactic| walk_at "ea") => `(tactic| first | exact ea_nil | (apply ea_cons; walk_at "ee"; walk_at "ea"))
local macro_rules | `(tactic| walk_at "et") => `(tactic| first | (apply et_test; walk_at "ee") | (apply et_B; walk_at "ee") | (apply et_not; walk_at "et") | exact et_yes | (apply et_andP; walk_at "et"; walk_at "et") | (apply et_orP; walk_at "et"; walk_at "et"))
local macro_rules | `(tactic| walk_at "en") => `(tactic| first | (apply en_lst; walk_at "ea"; walk_at "sd") | (apply en_cb; walk_at "ea"; walk_at "rcn") | (apply en_revO; rfl) | (apply en_revL; walk_at "ee"))
local macro_rules | `(tactic| walk_at "ex") => `(tactic| first | exact ex_nil | (apply ex_n; walk_at "en"; (intro _ z; cases z); walk_at "ex") | (apply ex_t; walk_at "ee"; walk_at "ex"))
local macro_rules | `(tactic| walk_at "eo") => `(tactic| first | exact eo_no | (apply eo_part; walk_at "ee"))
local macro_rules | `(tactic| walk_at "gg") => `(tactic| first | exact gg_name rfl rfl | exact gg_name rfl (by assumption) | (apply gg_tup; walk_at "ggs"; rfl) | (apply gg_lst; walk_at "ggs"; rfl))
local macro_rules | `(tactic| walk_at "ggs") => `(tactic| first | exact ggs_nil | (apply ggs_cons; walk_at "gg"; walk_at "ggs"))
local macro_rules | `(tactic| walk_at "ei") => `(tactic| first | (apply ei_rangeL1; walk_at "ea") | (apply ei_rangeL2; walk_at "ea") | (apply ei_tup; walk_at "ee") | (apply ei_list; walk_at "ee"))
local macro_rules | `(tactic| walk_at "ee") => `(tactic| first
  | exact ee_var rfl
  | exact ee_int
  | exact ee_bl
  | exact ee_non
  | exact ee_str
  | (apply ee_ixO rfl; walk_at "ee"; rfl; first | rfl | assumption)
  | (apply ee_op; walk_at "ee"; walk_at "ee"; walk_at "rr")
  | (apply ee_tup; walk_at "ea"; walk_at "sd")
  | (apply ee_call; walk_at "ea"; walk_at "fn")
  | (apply ee_isi; walk_at "ee"; rfl; rfl)
  | exact ee_lenO rfl
  | exact ee_tupleO rfl
  | (apply ee_cb; walk_at "ea"; walk_at "rc")
  | (apply ee_andP; walk_at "ee"; walk_at "ee")
  | (apply ee_orP; walk_at "ee"; walk_at "ee")
  | (apply ee_notV; walk_at "ee")
  | (apply ee_neg; walk_at "ee")
  | (apply ee_revT; walk_at "ee")
  | (apply ee_slT; walk_at "ee"; walk_at "eo"; walk_at "eo"; walk_at "sd")
  | (apply EN.tree; walk_at "en"))
local macro_rules | `(tactic| walk_at "asg") => `(tactic| (apply sd_seq; apply sd_asg; apply ed_of; walk_at "ee"; refine ⟨⟨_, rfl, rfl⟩, ?_⟩))
local macro_rules | `(tactic| walk_at "asgN") => `(tactic| (apply sd_seq; apply sd_of; apply ss_asgN; walk_at "en"; rfl; rfl))
local macro_rules | `(tactic| walk_at "asgG") => `(tactic| (apply sd_seq; apply sd_of; apply ss_asgG; walk_at "ee"; walk_at "gg"))
local macro_rules | `(tactic| walk_at "par") => `(tactic| (apply sd_seq; apply sd_of; apply ss_parX; walk_at "ex"; decide; rfl; rfl; rfl; rfl))
local macro_rules | `(tactic| walk_at "par3") => `(tactic| (apply sd_seq; apply sd_of; apply ss_par3X; walk_at "ex"; decide; decide; decide; rfl; rfl; rfl; rfl; rfl; rfl))
local macro_rules | `(tactic| walk_at "ret") => `(tactic| (apply sd_ret; apply ed_of; walk_at "ee"))
local macro_rules | `(tactic| walk_at "no") => `(tactic| (apply sd_seq; apply sd_if; apply td_of; walk_at "et"))
local macro_rules | `(tactic| walk_at "drop") => `(tactic| (apply sd_seq; apply sd_drop; apply ed_of; walk_at "ee"))
local macro_rules | `(tactic| walk_at "fn") => `(tactic| exact r_is_integer)
local macro_rules | `(tactic| walk_at "fn") => `(tactic| exact r_is_natural)
local macro_rules | `(tactic| walk_at "fn") => `(tactic| exact r_is_below)
local macro_rules | `(tactic| walk_at "fn") => `(tactic| exact r_is_pair)
local macro_rules | `(tactic| walk_at "fn") => `(tactic| (apply r_power; walk_at "sd"))
local macro_rules | `(tactic| walk_at "fn") => `(tactic| (apply r_is_cell_below; walk_at "sd"))
local macro_rules | `(tactic| walk_at "fn") => `(tactic| (apply r_is_posture; walk_at "sd"; walk_at "sd"))
local macro_rules | `(tactic| walk_at "fn") => `(tactic| exact r_posed)
local macro_rules | `(tactic| walk_at "fn") => `(tactic| (apply r_is_part; assumption))
local macro_rules | `(tactic| walk_at "fn") => `(tactic| (apply r_is_kind_of; assumption; assumption))
local macro_rules | `(tactic| walk_at "fn") => `(tactic| (apply r_is_book; assumption))
local macro_rules | `(tactic| walk_at "fn") => `(tactic| (apply r_check_book; assumption))
local macro_rules | `(tactic| walk_at "fn") => `(tactic| (apply r_check_kind; assumption))
section
variable {P : Program} {w : World} {K : PySem.W.Frag} {mg : Str → Option Value} {base : Heap}
/-! ### books turned, backward -/
def cellD (p : Part) : D := dCell (p.1, p.2.1)
def f_places_of : List D → List D → Prop := fun ds rs => ∃ (B : Book) (k : Nat), ds = [dBook B, .int k] ∧ BookOk B ∧ k < B.kinds.length ∧ rs = (B.row k).map cellD
theorem RowOk.few {b many : Nat} {r : Bk.Row} (h : RowOk b many r) (hb : b ≤ 3) : r.length ≤ 9 := by
  rw [h.len]
  have := Nat.mul_le_mul hb hb
  omega
theorem ok_places_of (c : Cn K mg base) : Has P w K mg base "places_of" 1 ps_places_of (spF K f_places_of) := by
  refine mk_places_of c fun fd F => fn_tupF F sc_places_of (fun ds d h => by obtain ⟨_, _, rfl, _⟩ := h; rfl) fun cdv A outer s H E hr => ?_
  refine ⟨_, (pss_one (ps_ret (pe_callTy (cTupF K rfl) (by rfl) c.f_tuple b_tuple (pa_cons (pe_lc (own := [("x", 2), ("y", 3), ("own", 4)]) rfl sc_places_of.nd (piT K rfl (pe_ix (ixT K rfl) (pe_ix (ixT K rfl) (pv 0) pe_int (fun _ _ => rfl)) (pv 1) (fun _ _ => rfl))) (blkOk_by rfl) (fun _ _ _ _ _ => (pgT K rfl (n := 3) rfl (pgs_cons (pg_name (i := 2) sc_places_of.nd rfl (by first | exact Or.inl rfl | exact Or.inr rfl)) (pgs_cons (pg_name (i := 3) sc_places_of.nd rfl (by first | exact Or.inl rfl | exact Or.inr rfl)) (pgs_cons (pg_name (i := 4) sc_places_of.nd rfl (by first | exact Or.inl rfl | exact Or.inr rfl)) pgs_nil))))) (fun _ _ _ _ _ => pts_nil) (fun _ _ _ _ _ => (pe_tup (pa_cons (pv 2) (pa_cons (pv 3) pa_nil))))) pa_nil)))), ?_⟩
  rintro ds rs ⟨B, k, rfl, ho, hk, rfl⟩
  show SZ K _ [.d (.tuple [.int (B.b : Nat), .tuple (B.kinds.map dRow)]), .d (.int (k : Int)), .any, .any, .any] _
  have h1 := at_row hk
  have hl := RowOk.few (ho.row hk) ho.b2.2
  apply sz_ret; apply ez_tup; apply en_lcF
  · apply ei_tup (ds := (B.row k).map dPart); walk_at "ee"
  · simp
  · rw [List.length_map]; omega
  · rfl
  · intro i d y hd hy
    rw [List.getElem?_map] at hd hy
    obtain ⟨p, hp, rfl⟩ := Option.map_eq_some_iff.mp hd
    rw [hp] at hy
    cases hy
    refine ⟨_, _, gg_tup (ds := [.int p.1, .int p.2.1, .int p.2.2]) (by walk_at "ggs") rfl, et_yes, EE.is (by walk_at "ee") rfl, rfl, rfl⟩
def f_turned_of : List D → D → Prop := fun ds d => ∃ (B : Book) (r m : Nat), ds = [dBook B, dPos r m] ∧ BookOk B ∧ d = dBook (Bk.turned B r m)
theorem r_turned_of {B : Book} {r m : Nat} (h : BookOk B) : f_turned_of [dBook B, dPos r m] (dBook (Bk.turned B r m)) := ⟨_, _, _, rfl, h, rfl⟩
theorem take_map_succ {α β : Type} {l : List α} {i : Nat} {x : α} {f : α → β} (h : l[i]? = some x) : (l.take (i + 1)).map f = (l.take i).map f ++ [f x] := by
  rw [List.take_add_one, h]; simp
theorem dRow_map {row : Bk.Row} {f : Part → Part} : dRow (row.map f) = .tuple (row.map fun p => dPart (f p)) := by
  unfold dRow; rw [List.map_map]; rfl
theorem ok_turned_of (c : Cn K mg base) : Has P w K mg base "turned_of" 2 ps_turned_of (spP K f_turned_of) := by
  refine mk_turned_of c fun fd F => fn_D F sc_turned_of (fun ds d h => by obtain ⟨_, _, _, rfl, _⟩ := h; rfl) fun cdv A outer s H E hr => ?_
  refine ⟨_, (pss_cons (ps_asg (pv 0) (pgT K rfl (n := 2) rfl (pgs_cons (pg_name (i := 4) sc_turned_of.nd rfl (by first | exact Or.inl rfl | exact Or.inr rfl)) (pgs_cons (pg_name (i := 5) sc_turned_of.nd rfl (by first | exact Or.inl rfl | exact Or.inr rfl)) pgs_nil))))
    (pss_cons (ps_set (i := 2) sc_turned_of.nd rfl (by first | exact Or.inl rfl | exact Or.inr rfl) (pe_lst pa_nil))
    (pss_cons (ps_for PassesOwn.never rfl (piT K rfl (pv 5)) (pg_name (i := 3) sc_turned_of.nd rfl (by first | exact Or.inl rfl | exact Or.inr rfl)) (pss_one (ps_expr (bM K rfl PySem.F.plainAttrs_list PySem.F.slot_list_append PySem.F.type_list_append mt_append (pv 2) (pa_cons (pe_callTy (cTup K rfl) (by rfl) c.f_tuple b_tuple (pa_cons (pe_lc (own := [("x", 6), ("y", 7), ("own", 8)]) rfl sc_turned_of.nd (piT K rfl (pv 3)) (blkOk_by rfl) (fun _ _ _ _ _ => (pgT K rfl (n := 3) rfl (pgs_cons (pg_name (i := 6) sc_turned_of.nd rfl (by first | exact Or.inl rfl | exact Or.inr rfl)) (pgs_cons (pg_name (i := 7) sc_turned_of.nd rfl (by first | exact Or.inl rfl | exact Or.inr rfl)) (pgs_cons (pg_name (i := 8) sc_turned_of.nd rfl (by first | exact Or.inl rfl | exact Or.inr rfl)) pgs_nil))))) (fun _ _ _ _ _ => pts_nil) (fun _ _ _ _ _ => (pe_op (catT K rfl) (pe_has (ok_posed c) hr (pa_cons (pv 4) (pa_cons (pe_tup (pa_cons (pv 6) (pa_cons (pv 7) pa_nil))) (pa_cons (pv 1) pa_nil)))) (pe_tup (pa_cons (pv 8) pa_nil))))) pa_nil)) pa_nil)))))
    (pss_one (ps_ret (pe_tup (pa_cons (pv 4) (pa_cons (pe_callTy (cTup K rfl) (by rfl) c.f_tuple b_tuple (pa_cons (pv 2) pa_nil)) pa_nil)))))))), ?_⟩
  rintro ds d ⟨B, r, m, rfl, ho, rfl⟩
  show SD K _ [.d (.tuple [.int (B.b : Nat), .tuple (B.kinds.map dRow)]), .d (dPos r m), .any, .any, .any, .any, .any, .any, .any] _
  have hf := ho.few
  walk_at "asgG"
  walk_at "asgN"
  apply sd_seq
  refine sd_for (by walk_at "ei") (fun i e => ∃ v, S.isPm v = false ∧ e = [.d (.tuple [.int (B.b : Nat), .tuple (B.kinds.map dRow)]), .d (dPos r m), .o false (.lst ((B.kinds.take i).map fun row => dRow (row.map (posePart B.b r m)))), v, .d (.int (B.b : Nat)), .d (.tuple (B.kinds.map dRow)), .any, .any, .any]) ⟨.any, rfl, rfl⟩ ?_ ?_
  · rintro i d e hd ⟨v, hv, rfl⟩
    rw [List.getElem?_map] at hd
    obtain ⟨row, hrow, rfl⟩ := Option.map_eq_some_iff.mp hd
    have hro := ho.rows row (List.mem_of_getElem? hrow)
    have hl := RowOk.few hro ho.b2.2
    refine ⟨_, _, gg_name rfl hv, ?_⟩
    apply sd_of
    · apply ss_append rfl
      · apply ee_cb
        · apply ea_cons
          · apply EN.tree
            apply en_lcF (ys := row.map fun p => dPart (posePart B.b r m p))
            · apply ei_tup (ds := row.map dPart); walk_at "ee"
            · simp
            · rw [List.length_map]; omega
            · rfl
            · intro j d y hd hy
              rw [List.getElem?_map] at hd hy
              obtain ⟨p, hp, rfl⟩ := Option.map_eq_some_iff.mp hd
              rw [hp] at hy
              cases hy
              refine ⟨_, _, gg_tup (ds := [.int p.1, .int p.2.1, .int p.2.2]) (by walk_at "ggs") rfl, et_yes, ?_, rfl, rfl⟩
              apply ee_op
              · exact ee_call (ds := [.int (B.b : Nat), dCell (p.1, p.2.1), dPos r m]) (d := dCell (Bk.posed B.b (p.1, p.2.1) r m)) (by walk_at "ea") r_posed
              · walk_at "ee"
              · exact rr_catT (List.cons_ne_nil _ _) (Nat.le_of_ble_eq_true rfl)
          · exact ea_nil
        · exact rc_tuple rfl
      · rfl
      · simp only [List.length_map, List.length_take]; omega
    · refine ⟨.d (dRow row), rfl, ?_⟩
      rw [take_map_succ hrow, dRow_map]
      rfl
  · rintro e ⟨v, hv, rfl⟩
    walk_at "ret"
    rw [List.length_map, List.take_length]
    show PyData.tuple _ = dBook (Bk.turned B r m)
    unfold dBook Bk.turned
    rw [List.map_map]; rfl
local macro_rules | `(tactic| walk_at "fn") => `(tactic| (apply r_turned_of; assumption))
def f_check_posture : List D → D → Prop := fun ds d => ∃ r m : Nat, ds = [dPos r m] ∧ r < 4 ∧ m < 2 ∧ d = .none
theorem r_check_posture {r m : Nat} (h1 : r < 4) (h2 : m < 2) : f_check_posture [dPos r m] .none := ⟨_, _, rfl, h1, h2, rfl⟩
theorem ok_check_posture (c : Cn K mg base) : Has P w K mg base "check_posture" 5 ps_check_posture (spP K f_check_posture) := by
  refine mk_check_posture c fun fd F => fn_D F sc_check_posture (fun ds d h => by obtain ⟨_, _, rfl, _⟩ := h; rfl) fun cdv A outer s H E hr => ?_
  refine ⟨_, (pss_one (ps_if (pt_not (pt_val (pe_has (ok_is_posture c) hr (pa_cons (pv 0) pa_nil)))) (pss_one ps_never) pss_nil)), ?_⟩
  rintro ds d ⟨r, m, rfl, h1, h2, rfl⟩
  show SD K _ [.d (dPos r m)] _
  apply sd_ifF; walk_at "et"; rfl
  apply sd_next; rfl
local macro_rules | `(tactic| walk_at "fn") => `(tactic| (apply r_check_posture; assumption; assumption))
def f_turned : List D → D → Prop := fun ds d => ∃ (B : Book) (r m : Nat), ds = [dBook B, dPos r m] ∧ BookOk B ∧ r < 4 ∧ m < 2 ∧ d = dBook (Bk.turned B r m)
theorem r_turned {B : Book} {r m : Nat} (h : BookOk B) (h1 : r < 4) (h2 : m < 2) : f_turned [dBook B, dPos r m] (dBook (Bk.turned B r m)) := ⟨_, _, _, rfl, h, h1, h2, rfl⟩
theorem fo_turned (c : Cn K mg base) (fd : FuncData) (F : FnP K "turned" s_turned (He.ga K "turned") fd) : FnOk P w K mg base CX0 8 (He.ga K "turned") fd ps_turned (spP K f_turned) := by
  refine fn_D F sc_turned (fun ds d h => by obtain ⟨_, _, _, rfl, _⟩ := h; rfl) fun cdv A outer s H E hr => ?_
  refine ⟨_, (pss_cons (ps_expr (pe_has (ok_check_book c) hr (pa_cons (pv 0) pa_nil)))
    (pss_cons (ps_expr (pe_has (ok_check_posture c) hr (pa_cons (pv 1) pa_nil)))
    (pss_one (ps_ret (pe_has (ok_turned_of c) hr (pa_cons (pv 0) (pa_cons (pv 1) pa_nil))))))), ?_⟩
  rintro ds d ⟨B, r, m, rfl, ho, h1, h2, rfl⟩
  show SD K _ [.d (dBook B), .d (dPos r m)] _
  walk_at "drop"
  walk_at "drop"
  walk_at "ret"
  rfl
theorem ok_turned (c : Cn K mg base) : Has P w K mg base "turned" 8 ps_turned (spP K f_turned) := mk_turned c fun fd F => fo_turned c fd F
theorem okK_turned (c : Cn K mg base) : HasK P w K mg base "turned" 8 ps_turned ["posture", "book"] [1, 0] (spP K f_turned) := by
  obtain ⟨fd, F⟩ := c.d_turned
  exact ⟨_, fd, fo_turned c fd F, c.g_turned, F.kp, kbn_of F fun _ _ _ _ _ _ ws hl => match ws, hl with | [_, _], _ => rfl⟩
local macro_rules | `(tactic| walk_at "fn") => `(tactic| (apply r_turned; assumption; assumption; assumption))
def f_backward_of : List D → D → Prop := fun ds d => ∃ B : Book, ds = [dBook B] ∧ BookOk B ∧ d = dBook (Bk.backward B)
theorem r_backward_of {B : Book} (h : BookOk B) : f_backward_of [dBook B] (dBook (Bk.backward B)) := ⟨_, rfl, h, rfl⟩
theorem ok_backward_of (c : Cn K mg base) : Has P w K mg base "backward_of" 1 ps_backward_of (spP K f_backward_of) := by
  refine mk_backward_of c fun fd F => fn_D F sc_backward_of (fun ds d h => by obtain ⟨_, rfl, _⟩ := h; rfl) fun cdv A outer s H E hr => ?_
  refine ⟨_, (pss_one (ps_ret (pe_tup (pa_cons (pe_ix (ixT K rfl) (pv 0) pe_int (fun _ _ => rfl)) (pa_cons (pe_callTy (cTup K rfl) (by rfl) c.f_tuple b_tuple (pa_cons (pe_lc (own := [("parts", 1)]) rfl sc_backward_of.nd (piT K rfl (pe_ix (ixT K rfl) (pv 0) pe_int (fun _ _ => rfl))) (blkOk_by rfl) (fun _ _ _ _ _ => (pg_name (i := 1) sc_backward_of.nd rfl (by first | exact Or.inl rfl | exact Or.inr rfl))) (fun _ _ _ _ _ => pts_nil) (fun _ _ _ _ _ => (revT K rfl (pv 1)))) pa_nil)) pa_nil))))), ?_⟩
  rintro ds d ⟨B, rfl, ho, rfl⟩
  show SD K _ [.d (.tuple [.int (B.b : Nat), .tuple (B.kinds.map dRow)]), .any] _
  have hf := ho.few
  apply sd_ret; apply ed_of
  · apply ee_tup
    · apply ea_cons; walk_at "ee"
      apply ea_cons
      · apply ee_cb
        · apply ea_cons
          · apply EN.tree
            apply en_lcF (ys := B.kinds.map fun row => dRow row.reverse)
            · apply ei_tup (ds := B.kinds.map dRow); walk_at "ee"
            · simp
            · rw [List.length_map]; omega
            · rfl
            · intro j d y hd hy
              rw [List.getElem?_map] at hd hy
              obtain ⟨row, hp, rfl⟩ := Option.map_eq_some_iff.mp hd
              rw [hp] at hy
              cases hy
              refine ⟨_, _, gg_name rfl rfl, et_yes, ?_, rfl, rfl⟩
              refine EE.is (ee_revT (ds := row.map dPart) (ee_var rfl)) ?_
              show PyData.tuple _ = PyData.tuple (List.map dPart row.reverse)
              rw [List.map_reverse]
          · exact ea_nil
        · exact rc_tuple rfl
      · exact ea_nil
    · walk_at "sd"
  · show PyData.tuple _ = dBook (Bk.backward B)
    unfold dBook Bk.backward
    rw [List.map_map]; rfl
local macro_rules | `(tactic| walk_at "fn") => `(tactic| (apply r_backward_of; assumption))
def f_backward : List D → D → Prop := fun ds d => ∃ B : Book, ds = [dBook B] ∧ BookOk B ∧ d = dBook (Bk.backward B)
theorem r_backward {B : Book} (h : BookOk B) : f_backward [dBook B] (dBook (Bk.backward B)) := ⟨_, rfl, h, rfl⟩
theorem ok_backward (c : Cn K mg base) : Has P w K mg base "backward" 8 ps_backward (spP K f_backward) := by
  refine mk_backward c fun fd F => fn_D F sc_backward (fun ds d h => by obtain ⟨_, rfl, _⟩ := h; rfl) fun cdv A outer s H E hr => ?_
  refine ⟨_, (pss_cons (ps_expr (pe_has (ok_check_book c) hr (pa_cons (pv 0) pa_nil)))
    (pss_one (ps_ret (pe_has (ok_backward_of c) hr (pa_cons (pv 0) pa_nil))))), ?_⟩
  rintro ds d ⟨B, rfl, ho, rfl⟩
  show SD K _ [.d (dBook B)] _
  walk_at "drop"
  walk_at "ret"
  rfl
local macro_rules | `(tactic| walk_at "fn") => `(tactic| (apply r_backward; assumption))
end
end K20
set_option autoImplicit false
set_option Elab.async false
set_option linter.all false
set_option maxRecDepth 100000
set_option maxHeartbeats 4000000
namespace K20
open PySem PySem.Spec PyProof.Rows L2 Fl Bk
local macro_rules | `(tactic| walk_at "sd") => `(tactic| first | assumption | rfl | omega | exact Nat.le_of_ble_eq_true rfl | (constructor <;> omega) | decide | (left; constructor <;> omega) | (right; constructor <;> omega))
local macro_rules | `(tactic| walk_at "fn") => `(tactic| fail "fn")
local macro_rules | `(tactic| walk_at "rc") => `(tactic| first | exact rc_len rfl | exact rc_tuple rfl | exact rc_all | exact rc_any | exact rc_sum | exact rc_int1 | exact rc_min2 | exact rc_max2)
local macro_rules | `(tactic| walk_at "rcn") => `(tactic| first | exact rcn_list rfl)
local macro_rules | `(tactic| walk_at "rr") => `(tactic| first | exact rr_i | exact rr_b | exact rr_eqI | exact rr_neI | exact rr_eqB | exact rr_neB | exact rr_eqS | exact rr_neS | (apply rr_ixT; first | rfl | assumption) | (apply rr_ixL; first | rfl | assumption) | (apply rr_ic; walk_at "sd") | (apply rr_catT; first | (exact List.cons_ne_nil _ _) | assumption; walk_at "sd"))
local macro_rules | `(tactic| walk_at "ea") => `(tactic| first | exact ea_nil | (apply ea_cons; walk_at "ee"; walk_at "ea"))
local macro_rules | `(tactic| walk_at "et") => `(tactic| first | (apply et_test; walk_at "ee") | (apply et_B; walk_at "ee") | (apply et_not; walk_at "et") | exact et_yes | (apply et_andP; walk_at "et"; walk_at "et") | (apply et_orP; walk_at "et"; walk_at "et"))
local macro_rules | `(tactic| walk_at "en") => `(tactic| first | (apply en_lst; walk_at "ea"; walk_at "sd") | (apply en_cb; walk_at "ea"; walk_at "rcn") | (apply en_revO; rfl) | (apply en_revL; walk_at "ee"))
local macro_rules | `(tactic| walk_at "ex") => `(tactic| first | exact ex_nil | (apply ex_n; walk_at "en"; (intro _ z; cases z); walk_at "ex") | (apply ex_t; walk_at "ee"; walk_at "ex"))
local macro_rules | `(tactic| walk_at "eo") => `(tactic| first | exact eo_no | (apply eo_part; walk_at "ee"))
local macro_rules | `(tactic| walk_at "gg") => `(tactic| first | exact gg_name rfl rfl | exact gg_name rfl (by assumption) | (apply gg_tup; walk_at "ggs"; rfl) | (apply gg_lst; walk_at "ggs"; rfl))
local macro_rules | `(tactic| walk_at "ggs") => `(tactic| first | exact ggs_nil | (apply ggs_cons; walk_at "gg"; walk_at "ggs"))
local macro_rules | `(tactic| walk_at "ei") => `(tactic| first | (apply ei_rangeL1; walk_at "ea") | (apply ei_rangeL2; walk_at "ea") | (apply ei_tup; walk_at "ee") | (apply ei_list; walk_at "ee"))
local macro_rules | `(tactic| walk_at "ee") => `(tactic| first
  | exact ee_var rfl
  | exact ee_int
  | exact ee_bl
  | exact ee_non
  | exact ee_str
  | (apply ee_ixO rfl; walk_at "ee"; rfl; first | rfl | assumption)
  | (apply ee_op; walk_at "ee"; walk_at "ee"; walk_at "rr")
  | (apply ee_tup; walk_at "ea"; walk_at "sd")
  | (apply ee_call; walk_at "ea"; walk_at "fn")
  | (apply ee_isi; walk_at "ee"; rfl; rfl)
  | exact ee_lenO rfl
  | exact ee_tupleO rfl
  | (apply ee_cb; walk_at "ea"; walk_at "rc")
  | (apply ee_andP; walk_at "ee"; walk_at "ee")
  | (apply ee_orP; walk_at "ee"; walk_at "ee")
  | (apply ee_notV; walk_at "ee")
  | (apply ee_neg; walk_at "ee")
  | (apply ee_revT; walk_at "ee")
  | (apply ee_slT; walk_at "ee"; walk_at "eo"; walk_at "eo"; walk_at "sd")
  | (apply EN.tree; walk_at "en"))
local macro_rules | `(tactic| walk_at "asg") => `(tactic| (apply sd_seq; apply sd_asg; apply ed_of; walk_at "ee"; refine ⟨⟨_, rfl, rfl⟩, ?_⟩))
local macro_rules | `(tactic| walk_at "asgN") => `(tactic| (apply sd_seq; apply sd_of; apply ss_asgN; walk_at "en"; rfl; rfl))
local macro_rules | `(tactic| walk_at "asgG") => `(tactic| (apply sd_seq; apply sd_of; apply ss_asgG; walk_at "ee"; walk_at "gg"))
local macro_rules | `(tactic| walk_at "par") => `(tactic| (apply sd_seq; apply sd_of; apply ss_parX; walk_at "ex"; decide; rfl; rfl; rfl; rfl))
local macro_rules | `(tactic| walk_at "par3") => `(tactic| (apply sd_seq; apply sd_of; apply ss_par3X; walk_at "ex"; decide; decide; decide; rfl; rfl; rfl; rfl; rfl; rfl))
local macro_rules | `(tactic| walk_at "ret") => `(tactic| (apply sd_ret; apply ed_of; walk_at "ee"))
local macro_rules | `(tactic| walk_at "no") => `(tactic| (apply sd_seq; apply sd_if; apply td_of; walk_at "et"))
local macro_rules | `(tactic| walk_at "drop") => `(tactic| (apply sd_seq; apply sd_drop; apply ed_of; walk_at "ee"))
local macro_rules | `(tactic| walk_at "fn") => `(tactic| exact r_is_integer)
local macro_rules | `(tactic| walk_at "fn") => `(tactic| exact r_is_natural)
local macro_rules | `(tactic| walk_at "fn") => `(tactic| exact r_is_below)
local macro_rules | `(tactic| walk_at "fn") => `(tactic| exact r_is_pair)
local macro_rules | `(tactic| walk_at "fn") => `(tactic| (apply r_power; walk_at "sd"))
local macro_rules | `(tactic| walk_at "fn") => `(tactic| (apply r_is_cell_below; walk_at "sd"))
local macro_rules | `(tactic| walk_at "fn") => `(tactic| (apply r_is_posture; walk_at "sd"; walk_at "sd"))
local macro_rules | `(tactic| walk_at "fn") => `(tactic| exact r_posed)
local macro_rules | `(tactic| walk_at "fn") => `(tactic| (apply r_is_part; assumption))
local macro_rules | `(tactic| walk_at "fn") => `(tactic| (apply r_is_kind_of; assumption; assumption))
local macro_rules | `(tactic| walk_at "fn") => `(tactic| (apply r_is_book; assumption))
local macro_rules | `(tactic| walk_at "fn") => `(tactic| (apply r_check_book; assumption))
local macro_rules | `(tactic| walk_at "fn") => `(tactic| (apply r_check_kind; assumption))
local macro_rules | `(tactic| walk_at "fn") => `(tactic| (apply r_turned_of; assumption))
local macro_rules | `(tactic| walk_at "fn") => `(tactic| (apply r_check_posture; assumption; assumption))
local macro_rules | `(tactic| walk_at "fn") => `(tactic| (apply r_turned; assumption; assumption; assumption))
local macro_rules | `(tactic| walk_at "fn") => `(tactic| (apply r_backward_of; assumption))
local macro_rules | `(tactic| walk_at "fn") => `(tactic| (apply r_backward; assumption))
section
variable {P : Program} {w : World} {K : PySem.W.Frag} {mg : Str → Option Value} {base : Heap}
/-! ### threads: checks -/
theorem nn (n : Nat) : decide ((0 : Int) ≤ (n : Int)) = true := decide_eq_true (by omega)
def f_check_depth : List D → D → Prop := fun ds d => ∃ n : Nat, ds = [.int n] ∧ d = .none
theorem r_check_depth {n : Nat} : f_check_depth [.int n] .none := ⟨_, rfl, rfl⟩
theorem ok_check_depth (c : Cn K mg base) : Has P w K mg base "check_depth" 3 ps_check_depth (spP K f_check_depth) := by
  refine mk_check_depth c fun fd F => fn_D F sc_check_depth (fun ds d h => by obtain ⟨_, rfl, _⟩ := h; rfl) fun cdv A outer s H E hr => ?_
  refine ⟨_, (pss_one (ps_if (pt_not (pt_val (pe_has (ok_is_natural c) hr (pa_cons (pv 0) pa_nil)))) (pss_one ps_never) pss_nil)), ?_⟩
  rintro ds d ⟨n, rfl, rfl⟩
  show SD K _ [.d (.int (n : Nat))] _
  apply sd_ifF; walk_at "et"; rw [nn]; rfl
  apply sd_next; rfl
local macro_rules | `(tactic| walk_at "fn") => `(tactic| exact r_check_depth)
def f_check_many : List D → D → Prop := fun ds d => ∃ n : Nat, ds = [.int n] ∧ d = .none
theorem r_check_many {n : Nat} : f_check_many [.int n] .none := ⟨_, rfl, rfl⟩
theorem ok_check_many (c : Cn K mg base) : Has P w K mg base "check_many" 3 ps_check_many (spP K f_check_many) := by
  refine mk_check_many c fun fd F => fn_D F sc_check_many (fun ds d h => by obtain ⟨_, rfl, _⟩ := h; rfl) fun cdv A outer s H E hr => ?_
  refine ⟨_, (pss_one (ps_if (pt_not (pt_val (pe_has (ok_is_natural c) hr (pa_cons (pv 0) pa_nil)))) (pss_one ps_never) pss_nil)), ?_⟩
  rintro ds d ⟨n, rfl, rfl⟩
  show SD K _ [.d (.int (n : Nat))] _
  apply sd_ifF; walk_at "et"; rw [nn]; rfl
  apply sd_next; rfl
local macro_rules | `(tactic| walk_at "fn") => `(tactic| exact r_check_many)
def f_cells_each_way : List D → D → Prop := fun ds d => ∃ (B : Book) (n : Nat), ds = [dBook B, .int n] ∧ BookOk B ∧ d = .int (side B n : Nat)
theorem r_cells_each_way {B : Book} {n : Nat} (h : BookOk B) : f_cells_each_way [dBook B, .int n] (.int (side B n : Nat)) := ⟨_, _, rfl, h, rfl⟩
theorem ok_cells_each_way (c : Cn K mg base) : Has P w K mg base "cells_each_way" 2 ps_cells_each_way (spP K f_cells_each_way) := by
  refine mk_cells_each_way c fun fd F => fn_D F sc_cells_each_way (fun ds d h => by obtain ⟨_, _, rfl, _⟩ := h; rfl) fun cdv A outer s H E hr => ?_
  refine ⟨_, (pss_one (ps_ret (pe_has (ok_power c) hr (pa_cons (pe_ix (ixT K rfl) (pv 0) pe_int (fun _ _ => rfl)) (pa_cons (pv 1) pa_nil))))), ?_⟩
  rintro ds d ⟨B, n, rfl, ho, rfl⟩
  show SD K _ [.d (.tuple [.int (B.b : Nat), .tuple (B.kinds.map dRow)]), .d (.int (n : Nat))] _
  have hb := ho.b2
  walk_at "ret"
  rfl
local macro_rules | `(tactic| walk_at "fn") => `(tactic| (apply r_cells_each_way; assumption))
def f_how_many_cells : List D → D → Prop := fun ds d => ∃ (B : Book) (n : Nat), ds = [dBook B, .int n] ∧ BookOk B ∧ d = .int (cells B n : Nat)
theorem r_how_many_cells {B : Book} {n : Nat} (h : BookOk B) : f_how_many_cells [dBook B, .int n] (.int (cells B n : Nat)) := ⟨_, _, rfl, h, rfl⟩
theorem bb9 {B : Book} (ho : BookOk B) : 4 ≤ B.b * B.b ∧ B.b * B.b ≤ 9 := by rcases ho.side with h | h <;> rw [h] <;> decide
theorem ok_how_many_cells (c : Cn K mg base) : Has P w K mg base "how_many_cells" 2 ps_how_many_cells (spP K f_how_many_cells) := by
  refine mk_how_many_cells c fun fd F => fn_D F sc_how_many_cells (fun ds d h => by obtain ⟨_, _, rfl, _⟩ := h; rfl) fun cdv A outer s H E hr => ?_
  refine ⟨_, (pss_one (ps_ret (pe_has (ok_power c) hr (pa_cons (pe_op op_mul (pe_ix (ixT K rfl) (pv 0) pe_int (fun _ _ => rfl)) (pe_ix (ixT K rfl) (pv 0) pe_int (fun _ _ => rfl))) (pa_cons (pv 1) pa_nil))))), ?_⟩
  rintro ds d ⟨B, n, rfl, ho, rfl⟩
  show SD K _ [.d (.tuple [.int (B.b : Nat), .tuple (B.kinds.map dRow)]), .d (.int (n : Nat))] _
  have hb := ho.b2
  have h9 := bb9 ho
  apply sd_ret; apply ed_of
  · refine ee_callP (ds := [.int ((B.b * B.b : Nat) : Int), .int (n : Nat)]) ?_ (r_power (by omega))
    apply ea_consP
    · refine EE.is (by walk_at "ee") ?_
      push_cast; rfl
    · walk_at "ea"
  · rfl
local macro_rules | `(tactic| walk_at "fn") => `(tactic| (apply r_how_many_cells; assumption))
def f_check_cell : List D → D → Prop := fun ds d => ∃ (B : Book) (n : Nat) (c : Int × Int), ds = [dBook B, .int n, dCell c] ∧ BookOk B ∧ CellIn (side B n : Nat) c ∧ d = .none
theorem r_check_cell {B : Book} {n : Nat} {c : Int × Int} (h : BookOk B) (h2 : CellIn (side B n : Nat) c) : f_check_cell [dBook B, .int n, dCell c] .none := ⟨_, _, _, rfl, h, h2, rfl⟩
theorem ok_check_cell (c : Cn K mg base) : Has P w K mg base "check_cell" 5 ps_check_cell (spP K f_check_cell) := by
  refine mk_check_cell c fun fd F => fn_D F sc_check_cell (fun ds d h => by obtain ⟨_, _, _, rfl, _⟩ := h; rfl) fun cdv A outer s H E hr => ?_
  refine ⟨_, (pss_one (ps_if (pt_not (pt_val (pe_has (ok_is_cell_below c) hr (pa_cons (pv 2) (pa_cons (pe_has (ok_cells_each_way c) hr (pa_cons (pv 0) (pa_cons (pv 1) pa_nil))) pa_nil))))) (pss_one ps_never) pss_nil)), ?_⟩
  rintro ds d ⟨B, n, q, rfl, ho, hc, rfl⟩
  show SD K _ [.d (dBook B), .d (.int (n : Nat)), .d (dCell q)] _
  apply sd_ifF; walk_at "et"; rfl
  apply sd_next; rfl
local macro_rules | `(tactic| walk_at "fn") => `(tactic| (apply r_check_cell; assumption; assumption))
def f_check_number : List D → D → Prop := fun ds d => ∃ (B : Book) (n m : Nat), ds = [dBook B, .int n, .int m] ∧ BookOk B ∧ m < cells B n ∧ d = .none
theorem r_check_number {B : Book} {n m : Nat} (h : BookOk B) (h2 : m < cells B n) : f_check_number [dBook B, .int n, .int m] .none := ⟨_, _, _, rfl, h, h2, rfl⟩
theorem ok_check_number (c : Cn K mg base) : Has P w K mg base "check_number" 4 ps_check_number (spP K f_check_number) := by
  refine mk_check_number c fun fd F => fn_D F sc_check_number (fun ds d h => by obtain ⟨_, _, _, rfl, _⟩ := h; rfl) fun cdv A outer s H E hr => ?_
  refine ⟨_, (pss_one (ps_if (pt_not (pt_val (pe_has (ok_is_below c) hr (pa_cons (pv 2) (pa_cons (pe_has (ok_how_many_cells c) hr (pa_cons (pv 0) (pa_cons (pv 1) pa_nil))) pa_nil))))) (pss_one ps_never) pss_nil)), ?_⟩
  rintro ds d ⟨B, n, m, rfl, ho, hm, rfl⟩
  show SD K _ [.d (dBook B), .d (.int (n : Nat)), .d (.int (m : Nat))] _
  apply sd_ifF; walk_at "et"
  · rw [dIn (by omega) (by omega)]; rfl
  apply sd_next; rfl
local macro_rules | `(tactic| walk_at "fn") => `(tactic| (apply r_check_number; assumption; walk_at "sd"))
end
end K20
set_option autoImplicit false
set_option Elab.async false
set_option linter.all false
set_option maxRecDepth 100000
set_option maxHeartbeats 4000000
namespace K20
open PySem PySem.Spec PyProof.Rows L2 Fl Bk
local macro_rules | `(tactic| walk_at "sd") => `(tactic| first | assumption | rfl | omega | exact Nat.le_of_ble_eq_true rfl | (constructor <;> omega) | decide | (left; constructor <;> omega) | (right; constructor <;> omega))
local macro_rules | `(tactic| walk_at "fn") => `(tactic| fail "fn")
local macro_rules | `(tactic| walk_at "rc") => `(tactic| first | exact rc_len rfl | exact rc_tuple rfl | exact rc_all | exact rc_any | exact rc_sum | exact rc_int1 | exact rc_min2 | exact rc_max2)
local macro_rules | `(tactic| walk_at "rcn") => `(tactic| first | exact rcn_list rfl)
local macro_rules | `(tactic| walk_at "rr") => `(tactic| first | exact rr_i | exact rr_b | exact rr_eqI | exact rr_neI | exact rr_eqB | exact rr_neB | exact rr_eqS | exact rr_neS | (apply rr_ixT; first | rfl | assumption) | (apply rr_ixL; first | rfl | assumption) | (apply rr_ic; walk_at "sd") | (apply rr_catT; first | (exact List.cons_ne_nil _ _) | assumption; walk_at "sd"))
local macro_rules | `(tactic| walk_at "ea") => `(tactic| first | exact ea_nil | (apply ea_cons; walk_at "ee"; walk_at "ea"))
local macro_rules | `(tactic| walk_at "et") => `(tactic| first | (apply et_test; walk_at "ee") | (apply et_B; walk_at "ee") | (apply et_not; walk_at "et") | exact et_yes | (apply et_andP; walk_at "et"; walk_at "et") | (apply et_orP; walk_at "et"; walk_at "et"))
local macro_rules | `(tactic| walk_at "en") => `(tactic| first | (apply en_lst; walk_at "ea"; walk_at "sd") | (apply en_cb; walk_at "ea"; walk_at "rcn") | (apply en_revO; rfl) | (apply en_revL; walk_at "ee"))
local macro_rules | `(tactic| walk_at "ex") => `(tactic| first | exact ex_nil | (apply ex_n; walk_at "en"; (intro _ z; cases z); walk_at "ex") | (apply ex_t; walk_at "ee"; walk_at "ex"))
local macro_rules | `(tactic| walk_at "eo") => `(tactic| first | exact eo_no | (apply eo_part; walk_at "ee"))
local macro_rules | `(tactic| walk_at "gg") => `(tactic| first | exact gg_name rfl rfl | exact gg_name rfl (by assumption) | (apply gg_tup; walk_at "ggs"; rfl) | (apply gg_lst; walk_at "ggs"; rfl))
local macro_rules | `(tactic| walk_at "ggs") => `(tactic| first | exact ggs_nil | (apply ggs_cons; walk_at "gg"; walk_at "ggs"))
local macro_rules | `(tactic| walk_at "ei") => `(tactic| first | (apply ei_rangeL1; walk_at "ea") | (apply ei_rangeL2; walk_at "ea") | (apply ei_tup; walk_at "ee") | (apply ei_list; walk_at "ee"))
local macro_rules | `(tactic| walk_at "ee") => `(tactic| first
  | exact ee_var rfl
  | exact ee_int
  | exact ee_bl
  | exact ee_non
  | exact ee_str
  | (apply ee_ixO rfl; walk_at "ee"; rfl; first | rfl | assumption)
  | (apply ee_op; walk_at "ee"; walk_at "ee"; walk_at "rr")
  | (apply ee_tup; walk_at "ea"; walk_at "sd")
  | (apply ee_call; walk_at "ea"; walk_at "fn")
  | (apply ee_isi; walk_at "ee"; rfl; rfl)
  | exact ee_lenO rfl
  | exact ee_tupleO rfl
  | (apply ee_cb; walk_at "ea"; walk_at "rc")
  | (apply ee_andP; walk_at "ee"; walk_at "ee")
  | (apply ee_orP; walk_at "ee"; walk_at "ee")
  | (apply ee_notV; walk_at "ee")
  | (apply ee_neg; walk_at "ee")
  | (apply ee_revT; walk_at "ee")
  | (apply ee_slT; walk_at "ee"; walk_at "eo"; walk_at "eo"; walk_at "sd")
  | (apply EN.tree; walk_at "en"))
local macro_rules | `(tactic| walk_at "asg") => `(tactic| (apply sd_seq; apply sd_asg; apply ed_of; walk_at "ee"; refine ⟨⟨_, rfl, rfl⟩, ?_⟩))
local macro_rules | `(tactic| walk_at "asgN") => `(tactic| (apply sd_seq; apply sd_of; apply ss_asgN; walk_at "en"; rfl; rfl))
local macro_rules | `(tactic| walk_at "asgG") => `(tactic| (apply sd_seq; apply sd_of; apply ss_asgG; walk_at "ee"; walk_at "gg"))
local macro_rules | `(tactic| walk_at "par") => `(tactic| (apply sd_seq; apply sd_of; apply ss_parX; walk_at "ex"; decide; rfl; rfl; rfl; rfl))
local macro_rules | `(tactic| walk_at "par3") => `(tactic| (apply sd_seq; apply sd_of; apply ss_par3X; walk_at "ex"; decide; decide; decide; rfl; rfl; rfl; rfl; rfl; rfl))
local macro_rules | `(tactic| walk_at "ret") => `(tactic| (apply sd_ret; apply ed_of; walk_at "ee"))
local macro_rules | `(tactic| walk_at "no") => `(tactic| (apply sd_seq; apply sd_if; apply td_of; walk_at "et"))
local macro_rules | `(tactic| walk_at "drop") => `(tactic| (apply sd_seq; apply sd_drop; apply ed_of; walk_at "ee"))
local macro_rules | `(tactic| walk_at "fn") => `(tactic| exact r_is_integer)
local macro_rules | `(tactic| walk_at "fn") => `(tactic| exact r_is_natural)
local macro_rules | `(tactic| walk_at "fn") => `(tactic| exact r_is_below)
local macro_rules | `(tactic| walk_at "fn") => `(tactic| exact r_is_pair)
local macro_rules | `(tactic| walk_at "fn") => `(tactic| (apply r_power; walk_at "sd"))
local macro_rules | `(tactic| walk_at "fn") => `(tactic| (apply r_is_cell_below; walk_at "sd"))
local macro_rules | `(tactic| walk_at "fn") => `(tactic| (apply r_is_posture; walk_at "sd"; walk_at "sd"))
local macro_rules | `(tactic| walk_at "fn") => `(tactic| exact r_posed)
local macro_rules | `(tactic| walk_at "fn") => `(tactic| (apply r_is_part; assumption))
local macro_rules | `(tactic| walk_at "fn") => `(tactic| (apply r_is_kind_of; assumption; assumption))
local macro_rules | `(tactic| walk_at "fn") => `(tactic| (apply r_is_book; assumption))
local macro_rules | `(tactic| walk_at "fn") => `(tactic| (apply r_check_book; assumption))
local macro_rules | `(tactic| walk_at "fn") => `(tactic| (apply r_check_kind; assumption))
local macro_rules | `(tactic| walk_at "fn") => `(tactic| (apply r_turned_of; assumption))
local macro_rules | `(tactic| walk_at "fn") => `(tactic| (apply r_check_posture; assumption; assumption))
local macro_rules | `(tactic| walk_at "fn") => `(tactic| (apply r_turned; assumption; assumption; assumption))
local macro_rules | `(tactic| walk_at "fn") => `(tactic| (apply r_backward_of; assumption))
local macro_rules | `(tactic| walk_at "fn") => `(tactic| (apply r_backward; assumption))
local macro_rules | `(tactic| walk_at "fn") => `(tactic| exact r_check_depth)
local macro_rules | `(tactic| walk_at "fn") => `(tactic| exact r_check_many)
local macro_rules | `(tactic| walk_at "fn") => `(tactic| (apply r_cells_each_way; assumption))
local macro_rules | `(tactic| walk_at "fn") => `(tactic| (apply r_how_many_cells; assumption))
local macro_rules | `(tactic| walk_at "fn") => `(tactic| (apply r_check_cell; assumption; assumption))
local macro_rules | `(tactic| walk_at "fn") => `(tactic| (apply r_check_number; assumption; walk_at "sd"))
section
variable {P : Program} {w : World} {K : PySem.W.Frag} {mg : Str → Option Value} {base : Heap}
/-! ### threads: ways -/
def f_way_to : List D → D → Prop := fun ds r => ∃ (B : Book) (k d n : Nat), ds = [dBook B, .int k, .int d, .int n] ∧ BookOk B ∧ k < B.kinds.length ∧ d ≤ 2000 ∧ n < cells B d ∧ r = .tuple [dCell (cellAt B k d n), .tuple (dNats (kindsAt B k d n))]
theorem r_way_to {B : Book} {k d n : Nat} (h : BookOk B) (h1 : k < B.kinds.length) (h2 : d ≤ 2000) (h3 : n < cells B d) : f_way_to [dBook B, .int k, .int d, .int n] (.tuple [dCell (cellAt B k d n), .tuple (dNats (kindsAt B k d n))]) := ⟨_, _, _, _, rfl, h, h1, h2, h3, rfl⟩
theorem cast_div (a b : Nat) : ((a : Nat) : Int) / (b : Int) = ((a / b : Nat) : Int) := (Int.natCast_ediv a b).symm
theorem cast_mod (a b : Nat) : ((a : Nat) : Int) % (b : Int) = ((a % b : Nat) : Int) := (Int.natCast_emod a b).symm
/-- ahead of turn i: what is left to do -/
structure WayAt (B : Book) (k d n i : Nat) (kd rest : Nat) (left low : Int) (kinds : List Nat) : Prop where
  hkd : kd < B.kinds.length
  hrest : rest < cells B (d - i)
  x : (cellAt B k d n).1 = left + (cellAt B kd (d - i) rest).1
  y : (cellAt B k d n).2 = low + (cellAt B kd (d - i) rest).2
  ks : kinds ++ kindsAt B kd (d - i) rest = kindsAt B k d n
  len : kinds.length = i
theorem WayAt.next {B : Book} {k d n i kd rest : Nat} {left low : Int} {kinds : List Nat} (ho : BookOk B) (h : WayAt B k d n i kd rest left low kinds) (hi : i < d) :
    let e := d - (i + 1)
    let p := B.part kd (rest / cells B e)
    WayAt B k d n (i + 1) p.2.2 (rest % cells B e) (left + p.1 * side B e) (low + p.2.1 * side B e) (kinds ++ [kd]) ∧ rest / cells B e < B.b * B.b := by
  intro e p
  have he : d - i = e + 1 := by omega
  have h2 := h.hrest
  have hx := h.x
  have hy := h.y
  have hk := h.ks
  rw [he] at h2 hx hy hk
  have hd := dig_lt ho h2
  have hp := ho.part h.hkd hd
  rw [cellAt_fst] at hx
  rw [cellAt_snd] at hy
  rw [kindsAt_succ] at hk
  refine ⟨⟨hp.2.2.2.2, rest_lt ho e rest, ?_, ?_, ?_, ?_⟩, hd⟩
  · rw [hx, Int.add_assoc]
  · rw [hy, Int.add_assoc]
  · rw [← hk, List.append_assoc]; rfl
  · rw [List.length_append, h.len]; rfl
theorem dNats_snoc {l : List Nat} {n : Nat} : dNats (l ++ [n]) = dNats l ++ [.int (n : Int)] := by
  unfold dNats; rw [List.map_append]; rfl
theorem ok_way_to (c : Cn K mg base) : Has P w K mg base "way_to" 3 ps_way_to (spP K f_way_to) := by
  refine mk_way_to c fun fd F => fn_D F sc_way_to (fun ds d h => by obtain ⟨_, _, _, _, rfl, _⟩ := h; rfl) fun cdv A outer s H E hr => ?_
  refine ⟨_, (pss_cons (ps_par (i := 5) (j := 6) rfl sc_way_to.nd rfl rfl (by decide) rfl rfl (pa_cons (pe_has (ok_cells_each_way c) hr (pa_cons (pv 0) (pa_cons (pv 2) pa_nil))) (pa_cons (pe_has (ok_how_many_cells c) hr (pa_cons (pv 0) (pa_cons (pv 2) pa_nil))) pa_nil)) rfl)
    (pss_cons (ps_par3 (i := 7) (j := 8) (l := 9) rfl sc_way_to.nd rfl rfl rfl (by decide) (by decide) (by decide) rfl rfl rfl (pa_cons pe_int (pa_cons pe_int (pa_cons (pe_lst (pa_cons (pv 1) pa_nil)) pa_nil))) rfl)
    (pss_cons (ps_for PassesOwn.never rfl (FlRange.pi_rangeL1 (by rfl) c.f_range (pa_cons (pv 2) pa_nil)) (pg_name (i := 4) sc_way_to.nd rfl (by first | exact Or.inl rfl | exact Or.inr rfl)) (pss_cons (ps_par (i := 5) (j := 6) rfl sc_way_to.nd rfl rfl (by decide) rfl rfl (pa_cons (pe_op op_fdivW (pv 5) (pe_ix (ixT K rfl) (pv 0) pe_int (fun _ _ => rfl))) (pa_cons (pe_op op_fdivW (pv 6) (pe_op op_mul (pe_ix (ixT K rfl) (pv 0) pe_int (fun _ _ => rfl)) (pe_ix (ixT K rfl) (pv 0) pe_int (fun _ _ => rfl)))) pa_nil)) rfl)
    (pss_cons (ps_asg (pe_ix (ixT K rfl) (pe_ix (ixT K rfl) (pe_ix (ixT K rfl) (pv 0) pe_int (fun _ _ => rfl)) (pv 1) (fun _ _ => rfl)) (pe_op op_fdivW (pv 3) (pv 6)) (fun _ _ => rfl)) (pgT K rfl (n := 3) rfl (pgs_cons (pg_name (i := 10) sc_way_to.nd rfl (by first | exact Or.inl rfl | exact Or.inr rfl)) (pgs_cons (pg_name (i := 11) sc_way_to.nd rfl (by first | exact Or.inl rfl | exact Or.inr rfl)) (pgs_cons (pg_name (i := 1) sc_way_to.nd rfl (by first | exact Or.inl rfl | exact Or.inr rfl)) pgs_nil)))))
    (pss_cons (ps_par3 (i := 7) (j := 8) (l := 3) rfl sc_way_to.nd rfl rfl rfl (by decide) (by decide) (by decide) rfl rfl rfl (pa_cons (pe_op op_add (pv 7) (pe_op op_mul (pv 10) (pv 5))) (pa_cons (pe_op op_add (pv 8) (pe_op op_mul (pv 11) (pv 5))) (pa_cons (pe_op op_mod (pv 3) (pv 6)) pa_nil))) rfl)
    (pss_one (ps_expr (bM K rfl PySem.F.plainAttrs_list PySem.F.slot_list_append PySem.F.type_list_append mt_append (pv 9) (pa_cons (pv 1) pa_nil))))))))
    (pss_one (ps_ret (pe_tup (pa_cons (pe_tup (pa_cons (pv 7) (pa_cons (pv 8) pa_nil))) (pa_cons (pe_callTy (cTup K rfl) (by rfl) c.f_tuple b_tuple (pa_cons (pv 9) pa_nil)) pa_nil)))))))), ?_⟩
  rintro ds r ⟨B, k, d, n, rfl, ho, hk, hd, hn, rfl⟩
  show SD K _ [.d (.tuple [.int (B.b : Nat), .tuple (B.kinds.map dRow)]), .d (.int (k : Nat)), .d (.int (d : Nat)), .d (.int (n : Nat)), .any, .any, .any, .any, .any, .any, .any, .any] _
  have hb := ho.b2
  have h9 := bb9 ho
  apply sd_seq; apply sd_of; apply ss_parX
  · apply ex_t; exact ee_call (ds := [dBook B, .int (d : Nat)]) (by walk_at "ea") (r_cells_each_way ho)
    apply ex_t; exact ee_call (ds := [dBook B, .int (d : Nat)]) (by walk_at "ea") (r_how_many_cells ho)
    exact ex_nil
  · decide
  · rfl
  · rfl
  · rfl
  · rfl
  walk_at "par3"
  apply sd_seq
  refine sd_for (by walk_at "ei") (fun i e => ∃ (kd rest : Nat) (left low : Int) (kinds : List Nat) (v vx vy : S), WayAt B k d n i kd rest left low kinds ∧ S.isPm v = false ∧ S.isPm vx = false ∧ S.isPm vy = false ∧ e = [.d (.tuple [.int (B.b : Nat), .tuple (B.kinds.map dRow)]), .d (.int (kd : Nat)), .d (.int (d : Nat)), .d (.int (rest : Nat)), v, .d (.int (side B (d - i) : Nat)), .d (.int (cells B (d - i) : Nat)), .d (.int left), .d (.int low), .o false (.lst (dNats (kinds ++ [kd]))), vx, vy]) ?_ ?_ ?_
  · exact ⟨k, n, 0, 0, [], .any, .any, .any, ⟨hk, hn, (Int.zero_add _).symm, (Int.zero_add _).symm, rfl, rfl⟩, rfl, rfl, rfl, rfl⟩
  · rintro i dd e hdd ⟨kd, rest, left, low, kinds, v, vx, vy, hw, hv, hvx, hvy, rfl⟩
    have hi : i < d := by
      have := (List.getElem?_eq_some_iff.mp hdd).1
      rw [rangeD_len, Int.toNat_natCast] at this
      exact this
    obtain ⟨hw2, hdig⟩ := hw.next ho hi
    have he : d - i = (d - (i + 1)) + 1 := by omega
    have hle : d - (i + 1) ≤ 2000 := by omega
    have hrow := at_row hw.hkd
    have hpart := at_part ho hw.hkd hdig
    have hcp := cells_pos ho (d - (i + 1))
    refine ⟨_, _, gg_name rfl hv, ?_⟩
    apply sd_seq; apply sd_of; apply ss_parX
    · apply ex_t
      · refine EE.is (y := .int (side B (d - (i + 1)) : Nat)) (ee_op (ee_var rfl) (by walk_at "ee") (rr_ic (j := (B.b : Nat)) (small_div (n := B.b) (by omega) (by omega)))) ?_
        rw [he, side_down ho]
      apply ex_t
      · refine EE.is (y := .int (cells B (d - (i + 1)) : Nat)) (ee_op (ee_var rfl) (y := .int ((B.b : Int) * B.b)) (by walk_at "ee") (rr_ic ?_)) ?_
        · have := small_div (n := B.b * B.b) (by omega) (by omega)
          push_cast at this
          exact this
        · rw [he, cells_down ho]
      exact ex_nil
    · decide
    · rfl
    · rfl
    · rfl
    · rfl
    apply sd_seq; apply sd_of
    · apply ss_asgG (d := .tuple [.int (B.part kd (rest / cells B (d - (i + 1)))).1, .int (B.part kd (rest / cells B (d - (i + 1)))).2.1, .int (B.part kd (rest / cells B (d - (i + 1)))).2.2])
      · apply ee_op (x := dRow (B.row kd)) (y := .int (rest / cells B (d - (i + 1)) : Nat))
        · walk_at "ee"
        · refine EE.is (ee_op (ee_var rfl) (ee_var rfl) (rr_ic (cells_div ho hle))) ?_
          rw [cast_div]
        · exact rr_ixT hpart
      · apply gg_tup
        · walk_at "ggs"
        · rfl
    apply sd_seq; apply sd_of; apply ss_par3X
    · apply ex_t
      · apply ee_op; walk_at "ee"
        · exact ee_op (ee_var rfl) (ee_var rfl) (rr_ic (Or.inl ⟨by have := (ho.part hw.hkd hdig).1; omega, by have := (ho.part hw.hkd hdig).2.1; omega⟩))
        · walk_at "rr"
      apply ex_t
      · apply ee_op; walk_at "ee"
        · exact ee_op (ee_var rfl) (ee_var rfl) (rr_ic (Or.inl ⟨by have := (ho.part hw.hkd hdig).2.2.1; omega, by have := (ho.part hw.hkd hdig).2.2.2.1; omega⟩))
        · walk_at "rr"
      apply ex_t
      · exact ee_op (ee_var rfl) (ee_var rfl) (rr_ic (by omega))
      exact ex_nil
    · decide
    · decide
    · decide
    · rfl
    · rfl
    · rfl
    · rfl
    · rfl
    · rfl
    apply sd_of
    · apply ss_append rfl
      · walk_at "ee"
      · rfl
      · unfold dNats
        rw [List.length_map, List.length_append, hw.len]
        show i + 1 ≤ 1000000
        omega
    · refine ⟨_, _, _, _, _, .d dd, .d (.int (B.part kd (rest / cells B (d - (i + 1)))).1), .d (.int (B.part kd (rest / cells B (d - (i + 1)))).2.1), hw2, rfl, rfl, rfl, ?_⟩
      rw [cast_mod, dNats_snoc (l := kinds ++ [kd])]
      rfl
  · rintro e ⟨kd, rest, left, low, kinds, v, vx, vy, hw, hv, hvx, hvy, rfl⟩
    rw [rangeD_len, Int.toNat_natCast] at hw
    walk_at "ret"
    have hx := hw.x
    have hy := hw.y
    have hks := hw.ks
    rw [Nat.sub_self] at hx hy hks
    rw [cellAt_zero, Int.add_zero] at hx hy
    rw [kindsAt_zero] at hks
    show PyData.tuple _ = PyData.tuple _
    rw [← hx, ← hy, ← hks]
    rfl
local macro_rules | `(tactic| walk_at "fn") => `(tactic| (apply r_way_to; assumption; assumption; assumption; assumption))
end
end K20
set_option autoImplicit false
set_option Elab.async false
set_option linter.all false
set_option maxRecDepth 100000
set_option maxHeartbeats 4000000
namespace K20
open PySem PySem.Spec PyProof.Rows L2 Fl Bk
local macro_rules | `(tactic| walk_at "sd") => `(tactic| first | assumption | rfl | omega | exact Nat.le_of_ble_eq_true rfl | (constructor <;> omega) | decide | (left; constructor <;> omega) | (right; constructor <;> omega))
local macro_rules | `(tactic| walk_at "fn") => `(tactic| fail "fn")
local macro_rules | `(tactic| walk_at "rc") => `(tactic| first | exact rc_len rfl | exact rc_tuple rfl | exact rc_all | exact rc_any | exact rc_sum | exact rc_int1 | exact rc_min2 | exact rc_max2)
local macro_rules | `(tactic| walk_at "rcn") => `(tactic| first | exact rcn_list rfl)
local macro_rules | `(tactic| walk_at "rr") => `(tactic| first | exact rr_i | exact rr_b | exact rr_eqI | exact rr_neI | exact rr_eqB | exact rr_neB | exact rr_eqS | exact rr_neS | (apply rr_ixT; first | rfl | assumption) | (apply rr_ixL; first | rfl | assumption) | (apply rr_ic; walk_at "sd") | (apply rr_catT; first | (exact List.cons_ne_nil _ _) | assumption; walk_at "sd"))
local macro_rules | `(tactic| walk_at "ea") => `(tactic| first | exact ea_nil | (apply ea_cons; walk_at "ee"; walk_at "ea"))
local macro_rules | `(tactic| walk_at "et") => `(tactic| first | (apply et_test; walk_at "ee") | (apply et_B; walk_at "ee") | (apply et_not; walk_at "et") | exact et_yes | (apply et_andP; walk_at "et"; walk_at "et") | (apply et_orP; walk_at "et"; walk_at "et"))
local macro_rules | `(tactic| walk_at "en") => `(tactic| first | (apply en_lst; walk_at "ea"; walk_at "sd") | (apply en_cb; walk_at "ea"; walk_at "rcn") | (apply en_revO; rfl) | (apply en_revL; walk_at "ee"))
local macro_rules | `(tactic| walk_at "ex") => `(tactic| first | exact ex_nil | (apply ex_n; walk_at "en"; (intro _ z; cases z); walk_at "ex") | (apply ex_t; walk_at "ee"; walk_at "ex"))
local macro_rules | `(tactic| walk_at "eo") => `(tactic| first | exact eo_no | (apply eo_part; walk_at "ee"))
local macro_rules | `(tactic| walk_at "gg") => `(tactic| first | exact gg_name rfl rfl | exact gg_name rfl (by assumption) | (apply gg_tup; walk_at "ggs"; rfl) | (apply gg_lst; walk_at "ggs"; rfl))
local macro_rules | `(tactic| walk_at "ggs") => `(tactic| first | exact ggs_nil | (apply ggs_cons; walk_at "gg"; walk_at "ggs"))
local macro_rules | `(tactic| walk_at "ei") => `(tactic| first | (apply ei_rangeL1; walk_at "ea") | (apply ei_rangeL2; walk_at "ea") | (apply ei_tup; walk_at "ee") | (apply ei_list; walk_at "ee"))
local macro_rules | `(tactic| walk_at "ee") => `(tactic| first
  | exact ee_var rfl
  | exact ee_int
  | exact ee_bl
  | exact ee_non
  | exact ee_str
  | (apply ee_ixO rfl; walk_at "ee"; rfl; first | rfl | assumption)
  | (apply ee_op; walk_at "ee"; walk_at "ee"; walk_at "rr")
  | (apply ee_tup; walk_at "ea"; walk_at "sd")
  | (apply ee_call; walk_at "ea"; walk_at "fn")
  | (apply ee_isi; walk_at "ee"; rfl; rfl)
  | exact ee_lenO rfl
  | exact ee_tupleO rfl
  | (apply ee_cb; walk_at "ea"; walk_at "rc")
  | (apply ee_andP; walk_at "ee"; walk_at "ee")
  | (apply ee_orP; walk_at "ee"; walk_at "ee")
  | (apply ee_notV; walk_at "ee")
  | (apply ee_neg; walk_at "ee")
  | (apply ee_revT; walk_at "ee")
  | (apply ee_slT; walk_at "ee"; walk_at "eo"; walk_at "eo"; walk_at "sd")
  | (apply EN.tree; walk_at "en"))
local macro_rules | `(tactic| walk_at "asg") => `(tactic| (apply sd_seq; apply sd_asg; apply ed_of; walk_at "ee"; refine ⟨⟨_, rfl, rfl⟩, ?_⟩))
local macro_rules | `(tactic| walk_at "asgN") => `(tactic| (apply sd_seq; apply sd_of; apply ss_asgN; walk_at "en"; rfl; rfl))
local macro_rules | `(tactic| walk_at "asgG") => `(tactic| (apply sd_seq; apply sd_of; apply ss_asgG; walk_at "ee"; walk_at "gg"))
local macro_rules | `(tactic| walk_at "par") => `(tactic| (apply sd_seq; apply sd_of; apply ss_parX; walk_at "ex"; decide; rfl; rfl; rfl; rfl))
local macro_rules | `(tactic| walk_at "par3") => `(tactic| (apply sd_seq; apply sd_of; apply ss_par3X; walk_at "ex"; decide; decide; decide; rfl; rfl; rfl; rfl; rfl; rfl))
local macro_rules | `(tactic| walk_at "ret") => `(tactic| (apply sd_ret; apply ed_of; walk_at "ee"))
local macro_rules | `(tactic| walk_at "no") => `(tactic| (apply sd_seq; apply sd_if; apply td_of; walk_at "et"))
local macro_rules | `(tactic| walk_at "drop") => `(tactic| (apply sd_seq; apply sd_drop; apply ed_of; walk_at "ee"))
local macro_rules | `(tactic| walk_at "fn") => `(tactic| exact r_is_integer)
local macro_rules | `(tactic| walk_at "fn") => `(tactic| exact r_is_natural)
local macro_rules | `(tactic| walk_at "fn") => `(tactic| exact r_is_below)
local macro_rules | `(tactic| walk_at "fn") => `(tactic| exact r_is_pair)
local macro_rules | `(tactic| walk_at "fn") => `(tactic| (apply r_power; walk_at "sd"))
local macro_rules | `(tactic| walk_at "fn") => `(tactic| (apply r_is_cell_below; walk_at "sd"))
local macro_rules | `(tactic| walk_at "fn") => `(tactic| (apply r_is_posture; walk_at "sd"; walk_at "sd"))
local macro_rules | `(tactic| walk_at "fn") => `(tactic| exact r_posed)
local macro_rules | `(tactic| walk_at "fn") => `(tactic| (apply r_is_part; assumption))
local macro_rules | `(tactic| walk_at "fn") => `(tactic| (apply r_is_kind_of; assumption; assumption))
local macro_rules | `(tactic| walk_at "fn") => `(tactic| (apply r_is_book; assumption))
local macro_rules | `(tactic| walk_at "fn") => `(tactic| (apply r_check_book; assumption))
local macro_rules | `(tactic| walk_at "fn") => `(tactic| (apply r_check_kind; assumption))
local macro_rules | `(tactic| walk_at "fn") => `(tactic| (apply r_turned_of; assumption))
local macro_rules | `(tactic| walk_at "fn") => `(tactic| (apply r_check_posture; assumption; assumption))
local macro_rules | `(tactic| walk_at "fn") => `(tactic| (apply r_turned; assumption; assumption; assumption))
local macro_rules | `(tactic| walk_at "fn") => `(tactic| (apply r_backward_of; assumption))
local macro_rules | `(tactic| walk_at "fn") => `(tactic| (apply r_backward; assumption))
local macro_rules | `(tactic| walk_at "fn") => `(tactic| exact r_check_depth)
local macro_rules | `(tactic| walk_at "fn") => `(tactic| exact r_check_many)
local macro_rules | `(tactic| walk_at "fn") => `(tactic| (apply r_cells_each_way; assumption))
local macro_rules | `(tactic| walk_at "fn") => `(tactic| (apply r_how_many_cells; assumption))
local macro_rules | `(tactic| walk_at "fn") => `(tactic| (apply r_check_cell; assumption; assumption))
local macro_rules | `(tactic| walk_at "fn") => `(tactic| (apply r_check_number; assumption; walk_at "sd"))
local macro_rules | `(tactic| walk_at "fn") => `(tactic| (apply r_way_to; assumption; assumption; assumption; assumption))
section
variable {P : Program} {w : World} {K : PySem.W.Frag} {mg : Str → Option Value} {base : Heap}
/-! ### threads: numbers of cells -/
def f_number_in : List D → D → Prop := fun ds r => ∃ (B : Book) (k d n : Nat), ds = [dBook B, .int k, .int d, dCell (cellAt B k d n)] ∧ BookOk B ∧ k < B.kinds.length ∧ d ≤ 2000 ∧ n < cells B d ∧ r = .int (n : Nat)
theorem r_number_in {B : Book} {k d n : Nat} (h : BookOk B) (h1 : k < B.kinds.length) (h2 : d ≤ 2000) (h3 : n < cells B d) : f_number_in [dBook B, .int k, .int d, dCell (cellAt B k d n)] (.int (n : Nat)) := ⟨_, _, _, _, rfl, h, h1, h2, h3, rfl⟩
theorem place_at {B : Book} (ho : BookOk B) {k j : Nat} (hk : k < B.kinds.length) (hj : j < B.b * B.b) : ((B.row k).map cellD)[j]? = some (cellD (B.part k j)) := by rw [List.getElem?_map, ho.part_get hk hj]; rfl
theorem place_no {B : Book} (ho : BookOk B) {k j m : Nat} {z : D} (hk : k < B.kinds.length) (hj : j < B.b * B.b) (hm : m < j) (hz : ((B.row k).map cellD)[m]? = some z) : PyData.eqv z (cellD (B.part k j)) = false := by
  have hm2 : m < B.b * B.b := by omega
  rw [place_at ho hk hm2] at hz
  cases hz
  unfold cellD
  rw [eqv_cell, decide_eq_false]
  have h1 : ((B.row k).map fun p => (p.1, p.2.1))[m]? = some ((B.part k m).1, (B.part k m).2.1) := by rw [List.getElem?_map, ho.part_get hk hm2]; rfl
  have h2 : ((B.row k).map fun p => (p.1, p.2.1))[j]? = some ((B.part k j).1, (B.part k j).2.1) := by rw [List.getElem?_map, ho.part_get hk hj]; rfl
  exact nodup_ne (ho.row hk).nod h1 h2 hm
theorem shaped_places {B : Book} {k : Nat} : SeqAt.shaped (.tuple ((B.row k).map cellD)) = true := by
  have e : (B.row k).map cellD = ((B.row k).map fun p => (p.1, p.2.1)).map dCell := by rw [List.map_map]; rfl
  rw [e]; exact shaped_cells
theorem ok_number_in (c : Cn K mg base) : Has P w K mg base "number_in" 3 ps_number_in (spP K f_number_in) := by
  refine mk_number_in c fun fd F => fn_D F sc_number_in (fun ds d h => by obtain ⟨_, _, _, _, rfl, _⟩ := h; rfl) fun cdv A outer s H E hr => ?_
  refine ⟨_, (pss_cons (ps_asg (pv 3) (pgT K rfl (n := 2) rfl (pgs_cons (pg_name (i := 5) sc_number_in.nd rfl (by first | exact Or.inl rfl | exact Or.inr rfl)) (pgs_cons (pg_name (i := 6) sc_number_in.nd rfl (by first | exact Or.inl rfl | exact Or.inr rfl)) pgs_nil))))
    (pss_cons (ps_par (i := 7) (j := 8) rfl sc_number_in.nd rfl rfl (by decide) rfl rfl (pa_cons (pe_has (ok_cells_each_way c) hr (pa_cons (pv 0) (pa_cons (pv 2) pa_nil))) (pa_cons pe_int pa_nil)) rfl)
    (pss_cons (ps_for PassesOwn.never rfl (FlRange.pi_rangeL1 (by rfl) c.f_range (pa_cons (pv 2) pa_nil)) (pg_name (i := 4) sc_number_in.nd rfl (by first | exact Or.inl rfl | exact Or.inr rfl)) (pss_cons (ps_set (i := 7) sc_number_in.nd rfl (by first | exact Or.inl rfl | exact Or.inr rfl) (pe_op op_fdivW (pv 7) (pe_ix (ixT K rfl) (pv 0) pe_int (fun _ _ => rfl))))
    (pss_cons (ps_set (i := 9) sc_number_in.nd rfl (by first | exact Or.inl rfl | exact Or.inr rfl) (FlTup.pe_bmF PySem.F.plainAttrs_tuple PySem.F.slot_tuple_index PySem.F.type_tuple_index (mIdxT K (hu65 hr) rfl) (pe_has (ok_places_of c) hr (pa_cons (pv 0) (pa_cons (pv 1) pa_nil))) (pa_cons (pe_tup (pa_cons (pe_op op_fdivW (pv 5) (pv 7)) (pa_cons (pe_op op_fdivW (pv 6) (pv 7)) pa_nil))) pa_nil)))
    (pss_cons (ps_set (i := 8) sc_number_in.nd rfl (by first | exact Or.inl rfl | exact Or.inr rfl) (pe_op op_add (pe_op op_mul (pe_op op_mul (pv 8) (pe_ix (ixT K rfl) (pv 0) pe_int (fun _ _ => rfl))) (pe_ix (ixT K rfl) (pv 0) pe_int (fun _ _ => rfl))) (pv 9)))
    (pss_one (ps_par3 (i := 5) (j := 6) (l := 1) rfl sc_number_in.nd rfl rfl rfl (by decide) (by decide) (by decide) rfl rfl rfl (pa_cons (pe_op op_mod (pv 5) (pv 7)) (pa_cons (pe_op op_mod (pv 6) (pv 7)) (pa_cons (pe_ix (ixT K rfl) (pe_ix (ixT K rfl) (pe_ix (ixT K rfl) (pe_ix (ixT K rfl) (pv 0) pe_int (fun _ _ => rfl)) (pv 1) (fun _ _ => rfl)) (pv 9) (fun _ _ => rfl)) pe_int (fun _ _ => rfl)) pa_nil))) rfl))))))
    (pss_one (ps_ret (pv 8)))))), ?_⟩
  rintro ds r ⟨B, k, d, n, rfl, ho, hk, hd, hn, rfl⟩
  show SD K _ [.d (.tuple [.int (B.b : Nat), .tuple (B.kinds.map dRow)]), .d (.int (k : Nat)), .d (.int (d : Nat)), .d (.tuple [.int (cellAt B k d n).1, .int (cellAt B k d n).2]), .any, .any, .any, .any, .any, .any] _
  have hb := ho.b2
  have h9 := bb9 ho
  walk_at "asgG"
  apply sd_seq; apply sd_of; apply ss_parX
  · apply ex_t; exact ee_call (ds := [dBook B, .int (d : Nat)]) (by walk_at "ea") (r_cells_each_way ho)
    apply ex_t; walk_at "ee"
    exact ex_nil
  · decide
  · rfl
  · rfl
  · rfl
  · rfl
  apply sd_seq
  refine sd_for (by walk_at "ei") (fun i e => ∃ (kd rest found : Nat) (v vat : S), kd < B.kinds.length ∧ rest < cells B (d - i) ∧ found * cells B (d - i) + rest = n ∧ S.isPm v = false ∧ S.isPm vat = false ∧ e = [.d (.tuple [.int (B.b : Nat), .tuple (B.kinds.map dRow)]), .d (.int (kd : Nat)), .d (.int (d : Nat)), .d (.tuple [.int (cellAt B k d n).1, .int (cellAt B k d n).2]), v, .d (.int (cellAt B kd (d - i) rest).1), .d (.int (cellAt B kd (d - i) rest).2), .d (.int (side B (d - i) : Nat)), .d (.int (found : Nat)), vat]) ?_ ?_ ?_
  · exact ⟨k, n, 0, .any, .any, hk, hn, by simp, rfl, rfl, rfl⟩
  · rintro i dd e hdd ⟨kd, rest, found, v, vat, hkd, hrest, hfound, hv, hvat, rfl⟩
    have hi : i < d := by
      have := (List.getElem?_eq_some_iff.mp hdd).1
      rw [rangeD_len, Int.toNat_natCast] at this
      exact this
    have he : d - i = (d - (i + 1)) + 1 := by omega
    have hle : d - (i + 1) ≤ 2000 := by omega
    rw [he] at hrest hfound
    have hdig := dig_lt ho hrest
    have hpt := ho.part hkd hdig
    have hin := cellAt_in ho (d - (i + 1)) _ _ hpt.2.2.2.2 (rest_lt ho (d - (i + 1)) rest)
    have hrow := at_row hkd
    have hpart := at_part ho hkd hdig
    have hsp : (0 : Int) < side B (d - (i + 1)) := by have := side_pos ho (d - (i + 1)); omega
    rw [he, cellAt_fst, cellAt_snd]
    refine ⟨_, _, gg_name rfl hv, ?_⟩
    apply sd_seq; apply sd_asg; apply ed_of
    · refine EE.is (y := .int (side B (d - (i + 1)) : Nat)) (ee_opP (ee_var rfl) (by walk_at "ee") (rr_ic (j := (B.b : Nat)) (small_div (n := B.b) (by omega) (by omega)))) ?_
      rw [side_down ho]
    refine ⟨⟨_, rfl, rfl⟩, ?_⟩
    apply sd_seq; apply sd_asg; apply ed_of
    · apply ee_idxT (d := cellD (B.part kd (rest / cells B (d - (i + 1))))) (z := cellD (B.part kd (rest / cells B (d - (i + 1)))))
      · exact ez_call (ds := [dBook B, .int (kd : Nat)]) (by walk_at "ea") ⟨B, kd, rfl, ho, hkd, rfl⟩
      · apply ee_tup
        · apply ea_cons
          · refine EE.is (y := .int (B.part kd (rest / cells B (d - (i + 1)))).1) (ee_opP (ee_var rfl) (ee_var rfl) (rr_ic (side_div ho hle))) ?_
            rw [split_div hin.1 hin.2.1]
          apply ea_cons
          · refine EE.is (y := .int (B.part kd (rest / cells B (d - (i + 1)))).2.1) (ee_opP (ee_var rfl) (ee_var rfl) (rr_ic (side_div ho hle))) ?_
            rw [split_div hin.2.2.1 hin.2.2.2]
          exact ea_nil
        · walk_at "sd"
      · exact shaped_places
      · exact shaped_cell
      · exact place_at ho hkd hdig
      · unfold cellD; rw [eqv_cell]; simp
      · exact fun m z hm hz => place_no ho hkd hdig hm hz
    refine ⟨⟨_, rfl, hvat⟩, ?_⟩
    apply sd_seq; apply sd_asg; apply ed_of
    · refine EE.is (y := .int ((found * (B.b * B.b) + rest / cells B (d - (i + 1)) : Nat) : Int)) (by walk_at "ee") ?_
      push_cast
      rw [Int.mul_assoc]
    refine ⟨⟨_, rfl, rfl⟩, ?_⟩
    apply sd_of; apply ss_par3X
    · apply ex_t
      · exact ee_op (ee_var rfl) (ee_var rfl) (rr_ic hsp)
      apply ex_t
      · exact ee_op (ee_var rfl) (ee_var rfl) (rr_ic hsp)
      apply ex_t
      · apply ee_op (x := dPart (B.part kd (rest / cells B (d - (i + 1)))))
        · apply ee_op (x := dRow (B.row kd)) (y := .int (rest / cells B (d - (i + 1)) : Nat))
          · walk_at "ee"
          · walk_at "ee"
          · exact rr_ixT hpart
        · walk_at "ee"
        · exact rr_ixT (ds := [.int (B.part kd (rest / cells B (d - (i + 1)))).1, .int (B.part kd (rest / cells B (d - (i + 1)))).2.1, .int (B.part kd (rest / cells B (d - (i + 1)))).2.2]) rfl
      exact ex_nil
    · decide
    · decide
    · decide
    · rfl
    · rfl
    · rfl
    · rfl
    · rfl
    · rfl
    refine ⟨_, rest % cells B (d - (i + 1)), found * (B.b * B.b) + rest / cells B (d - (i + 1)), .d dd, .d (.int (rest / cells B (d - (i + 1)) : Nat)), hpt.2.2.2.2, rest_lt ho _ _, ?_, rfl, rfl, ?_⟩
    · rw [← hfound, cells_succ, Nat.add_mul, Nat.add_assoc]
      have := div_cells ho (d := d - (i + 1)) (n := rest)
      rw [← this, Nat.mul_assoc, Nat.mul_comm (B.b * B.b)]
    · have e1 := split_mod (x := (B.part kd (rest / cells B (d - (i + 1)))).1) hin.1 hin.2.1
      have e2 := split_mod (x := (B.part kd (rest / cells B (d - (i + 1)))).2.1) hin.2.2.1 hin.2.2.2
      rw [e1, e2]
      rfl
  · rintro e ⟨kd, rest, found, v, vat, hkd, hrest, hfound, hv, hvat, rfl⟩
    rw [rangeD_len, Int.toNat_natCast, Nat.sub_self] at hrest hfound
    walk_at "ret"
    have e1 : cells B 0 = 1 := rfl
    rw [e1] at hrest hfound
    have e2 : found = n := by omega
    rw [e2]; rfl
local macro_rules | `(tactic| walk_at "fn") => `(tactic| (apply r_number_in; assumption; assumption; assumption; assumption))
end
end K20
set_option autoImplicit false
set_option Elab.async false
set_option linter.all false
set_option maxRecDepth 100000
set_option maxHeartbeats 4000000
namespace K20
open PySem PySem.Spec PyProof.Rows L2 Fl Bk
local macro_rules | `(tactic| walk_at "sd") => `(tactic| first | assumption | rfl | omega | exact Nat.le_of_ble_eq_true rfl | (constructor <;> omega) | decide | (left; constructor <;> omega) | (right; constructor <;> omega))
local macro_rules | `(tactic| walk_at "fn") => `(tactic| fail "fn")
local macro_rules | `(tactic| walk_at "rc") => `(tactic| first | exact rc_len rfl | exact rc_tuple rfl | exact rc_all | exact rc_any | exact rc_sum | exact rc_int1 | exact rc_min2 | exact rc_max2)
local macro_rules | `(tactic| walk_at "rcn") => `(tactic| first | exact rcn_list rfl)
local macro_rules | `(tactic| walk_at "rr") => `(tactic| first | exact rr_i | exact rr_b | exact rr_eqI | exact rr_neI | exact rr_eqB | exact rr_neB | exact rr_eqS | exact rr_neS | (apply rr_ixT; first | rfl | assumption) | (apply rr_ixL; first | rfl | assumption) | (apply rr_ic; walk_at "sd") | (apply rr_catT; first | (exact List.cons_ne_nil _ _) | assumption; walk_at "sd"))
local macro_rules | `(tactic| walk_at "ea") => `(tactic| first | exact ea_nil | (apply ea_cons; walk_at "ee"; walk_at "ea"))
local macro_rules | `(tactic| walk_at "et") => `(tactic| first | (apply et_test; walk_at "ee") | (apply et_B; walk_at "ee") | (apply et_not; walk_at "et") | exact et_yes | (apply et_andP; walk_at "et"; walk_at "et") | (apply et_orP; walk_at "et"; walk_at "et"))
local macro_rules | `(tactic| walk_at "en") => `(tactic| first | (apply en_lst; walk_at "ea"; walk_at "sd") | (apply en_cb; walk_at "ea"; walk_at "rcn") | (apply en_revO; rfl) | (apply en_revL; walk_at "ee"))
local macro_rules | `(tactic| walk_at "ex") => `(tactic| first | exact ex_nil | (apply ex_n; walk_at "en"; (intro _ z; cases z); walk_at "ex") | (apply ex_t; walk_at "ee"; walk_at "ex"))
local macro_rules | `(tactic| walk_at "eo") => `(tactic| first | exact eo_no | (apply eo_part; walk_at "ee"))
local macro_rules | `(tactic| walk_at "gg") => `(tactic| first | exact gg_name rfl rfl | exact gg_name rfl (by assumption) | (apply gg_tup; walk_at "ggs"; rfl) | (apply gg_lst; walk_at "ggs"; rfl))
local macro_rules | `(tactic| walk_at "ggs") => `(tactic| first | exact ggs_nil | (apply ggs_cons; walk_at "gg"; walk_at "ggs"))
local macro_rules | `(tactic| walk_at "ei") => `(tactic| first | (apply ei_rangeL1; walk_at "ea") | (apply ei_rangeL2; walk_at "ea") | (apply ei_tup; walk_at "ee") | (apply ei_list; walk_at "ee"))
local macro_rules | `(tactic| walk_at "ee") => `(tactic| first
  | exact ee_var rfl
  | exact ee_int
  | exact ee_bl
  | exact ee_non
  | exact ee_str
  | (apply ee_ixO rfl; walk_at "ee"; rfl; first | rfl | assumption)
  | (apply ee_op; walk_at "ee"; walk_at "ee"; walk_at "rr")
  | (apply ee_tup; walk_at "ea"; walk_at "sd")
  | (apply ee_call; walk_at "ea"; walk_at "fn")
  | (apply ee_isi; walk_at "ee"; rfl; rfl)
  | exact ee_lenO rfl
  | exact ee_tupleO rfl
  | (apply ee_cb; walk_at "ea"; walk_at "rc")
  | (apply ee_andP; walk_at "ee"; walk_at "ee")
  | (apply ee_orP; walk_at "ee"; walk_at "ee")
  | (apply ee_notV; walk_at "ee")
  | (apply ee_neg; walk_at "ee")
  | (apply ee_revT; walk_at "ee")
  | (apply ee_slT; walk_at "ee"; walk_at "eo"; walk_at "eo"; walk_at "sd")
  | (apply EN.tree; walk_at "en"))
local macro_rules | `(tactic| walk_at "asg") => `(tactic| (apply sd_seq; apply sd_asg; apply ed_of; walk_at "ee"; refine ⟨⟨_, rfl, rfl⟩, ?_⟩))
local macro_rules | `(tactic| walk_at "asgN") => `(tactic| (apply sd_seq; apply sd_of; apply ss_asgN; walk_at "en"; rfl; rfl))
local macro_rules | `(tactic| walk_at "asgG") => `(tactic| (apply sd_seq; apply sd_of; apply ss_asgG; walk_at "ee"; walk_at "gg"))
local macro_rules | `(tactic| walk_at "par") => `(tactic| (apply sd_seq; apply sd_of; apply ss_parX; walk_at "ex"; decide; rfl; rfl; rfl; rfl))
local macro_rules | `(tactic| walk_at "par3") => `(tactic| (apply sd_seq; apply sd_of; apply ss_par3X; walk_at "ex"; decide; decide; decide; rfl; rfl; rfl; rfl; rfl; rfl))
local macro_rules | `(tactic| walk_at "ret") => `(tactic| (apply sd_ret; apply ed_of; walk_at "ee"))
local macro_rules | `(tactic| walk_at "no") => `(tactic| (apply sd_seq; apply sd_if; apply td_of; walk_at "et"))
local macro_rules | `(tactic| walk_at "drop") => `(tactic| (apply sd_seq; apply sd_drop; apply ed_of; walk_at "ee"))
local macro_rules | `(tactic| walk_at "fn") => `(tactic| exact r_is_integer)
local macro_rules | `(tactic| walk_at "fn") => `(tactic| exact r_is_natural)
local macro_rules | `(tactic| walk_at "fn") => `(tactic| exact r_is_below)
local macro_rules | `(tactic| walk_at "fn") => `(tactic| exact r_is_pair)
local macro_rules | `(tactic| walk_at "fn") => `(tactic| (apply r_power; walk_at "sd"))
local macro_rules | `(tactic| walk_at "fn") => `(tactic| (apply r_is_cell_below; walk_at "sd"))
local macro_rules | `(tactic| walk_at "fn") => `(tactic| (apply r_is_posture; walk_at "sd"; walk_at "sd"))
local macro_rules | `(tactic| walk_at "fn") => `(tactic| exact r_posed)
local macro_rules | `(tactic| walk_at "fn") => `(tactic| (apply r_is_part; assumption))
local macro_rules | `(tactic| walk_at "fn") => `(tactic| (apply r_is_kind_of; assumption; assumption))
local macro_rules | `(tactic| walk_at "fn") => `(tactic| (apply r_is_book; assumption))
local macro_rules | `(tactic| walk_at "fn") => `(tactic| (apply r_check_book; assumption))
local macro_rules | `(tactic| walk_at "fn") => `(tactic| (apply r_check_kind; assumption))
local macro_rules | `(tactic| walk_at "fn") => `(tactic| (apply r_turned_of; assumption))
local macro_rules | `(tactic| walk_at "fn") => `(tactic| (apply r_check_posture; assumption; assumption))
local macro_rules | `(tactic| walk_at "fn") => `(tactic| (apply r_turned; assumption; assumption; assumption))
local macro_rules | `(tactic| walk_at "fn") => `(tactic| (apply r_backward_of; assumption))
local macro_rules | `(tactic| walk_at "fn") => `(tactic| (apply r_backward; assumption))
local macro_rules | `(tactic| walk_at "fn") => `(tactic| exact r_check_depth)
local macro_rules | `(tactic| walk_at "fn") => `(tactic| exact r_check_many)
local macro_rules | `(tactic| walk_at "fn") => `(tactic| (apply r_cells_each_way; assumption))
local macro_rules | `(tactic| walk_at "fn") => `(tactic| (apply r_how_many_cells; assumption))
local macro_rules | `(tactic| walk_at "fn") => `(tactic| (apply r_check_cell; assumption; assumption))
local macro_rules | `(tactic| walk_at "fn") => `(tactic| (apply r_check_number; assumption; walk_at "sd"))
local macro_rules | `(tactic| walk_at "fn") => `(tactic| (apply r_way_to; assumption; assumption; assumption; assumption))
local macro_rules | `(tactic| walk_at "fn") => `(tactic| (apply r_number_in; assumption; assumption; assumption; assumption))
section
variable {P : Program} {w : World} {K : PySem.W.Frag} {mg : Str → Option Value} {base : Heap}
/-! ### threads: what is asked from outside -/
def f_number_of : List D → D → Prop := fun ds r => ∃ (B : Book) (d n : Nat), ds = [dBook B, .int d, dCell (cellAt B 0 d n)] ∧ BookOk B ∧ d ≤ 2000 ∧ n < cells B d ∧ r = .int (n : Nat)
theorem r_number_of {B : Book} {d n : Nat} (h : BookOk B) (h2 : d ≤ 2000) (h3 : n < cells B d) : f_number_of [dBook B, .int d, dCell (cellAt B 0 d n)] (.int (n : Nat)) := ⟨_, _, _, rfl, h, h2, h3, rfl⟩
theorem kind0 {B : Book} (h : BookOk B) : 0 < B.kinds.length := List.length_pos_iff.mpr h.ne
theorem ok_number_of (c : Cn K mg base) : Has P w K mg base "number_of" 8 ps_number_of (spP K f_number_of) := by
  refine mk_number_of c fun fd F => fn_D F sc_number_of (fun ds d h => by obtain ⟨_, _, _, rfl, _⟩ := h; rfl) fun cdv A outer s H E hr => ?_
  refine ⟨_, (pss_cons (ps_expr (pe_has (ok_check_book c) hr (pa_cons (pv 0) pa_nil)))
    (pss_cons (ps_expr (pe_has (ok_check_depth c) hr (pa_cons (pv 1) pa_nil)))
    (pss_cons (ps_expr (pe_has (ok_check_cell c) hr (pa_cons (pv 0) (pa_cons (pv 1) (pa_cons (pv 2) pa_nil)))))
    (pss_one (ps_ret (pe_has (ok_number_in c) hr (pa_cons (pv 0) (pa_cons pe_int (pa_cons (pv 1) (pa_cons (pv 2) pa_nil)))))))))), ?_⟩
  rintro ds r ⟨B, d, n, rfl, ho, hd, hn, rfl⟩
  show SD K _ [.d (dBook B), .d (.int (d : Nat)), .d (dCell (cellAt B 0 d n))] _
  have hc : CellIn (side B d : Nat) (cellAt B 0 d n) := cellAt_in ho d 0 n (kind0 ho) hn
  have h0 := kind0 ho
  walk_at "drop"
  walk_at "drop"
  walk_at "drop"
  apply sd_ret; apply ed_of
  · exact ee_callP (ds := [dBook B, .int ((0 : Nat) : Int), .int (d : Nat), dCell (cellAt B 0 d n)]) (by walk_at "ea") (r_number_in ho h0 hd hn)
  · rfl
local macro_rules | `(tactic| walk_at "fn") => `(tactic| (apply r_number_of; assumption; assumption; assumption))
def f_cell_in : List D → D → Prop := fun ds r => ∃ (B : Book) (k d n : Nat), ds = [dBook B, .int k, .int d, .int n] ∧ BookOk B ∧ k < B.kinds.length ∧ d ≤ 2000 ∧ n < cells B d ∧ r = dCell (cellAt B k d n)
theorem r_cell_in {B : Book} {k d n : Nat} (h : BookOk B) (h1 : k < B.kinds.length) (h2 : d ≤ 2000) (h3 : n < cells B d) : f_cell_in [dBook B, .int k, .int d, .int n] (dCell (cellAt B k d n)) := ⟨_, _, _, _, rfl, h, h1, h2, h3, rfl⟩
theorem ok_cell_in (c : Cn K mg base) : Has P w K mg base "cell_in" 4 ps_cell_in (spP K f_cell_in) := by
  refine mk_cell_in c fun fd F => fn_D F sc_cell_in (fun ds d h => by obtain ⟨_, _, _, _, rfl, _⟩ := h; rfl) fun cdv A outer s H E hr => ?_
  refine ⟨_, (pss_one (ps_ret (pe_ix (ixT K rfl) (pe_has (ok_way_to c) hr (pa_cons (pv 0) (pa_cons (pv 1) (pa_cons (pv 2) (pa_cons (pv 3) pa_nil))))) pe_int (fun _ _ => rfl)))), ?_⟩
  rintro ds r ⟨B, k, d, n, rfl, ho, hk, hd, hn, rfl⟩
  show SD K _ [.d (dBook B), .d (.int (k : Nat)), .d (.int (d : Nat)), .d (.int (n : Nat))] _
  walk_at "ret"
  rfl
local macro_rules | `(tactic| walk_at "fn") => `(tactic| (apply r_cell_in; assumption; assumption; assumption; assumption))
def f_cell_of : List D → D → Prop := fun ds r => ∃ (B : Book) (d n : Nat), ds = [dBook B, .int d, .int n] ∧ BookOk B ∧ d ≤ 2000 ∧ n < cells B d ∧ r = dCell (cellAt B 0 d n)
theorem r_cell_of {B : Book} {d n : Nat} (h : BookOk B) (h2 : d ≤ 2000) (h3 : n < cells B d) : f_cell_of [dBook B, .int d, .int n] (dCell (cellAt B 0 d n)) := ⟨_, _, _, rfl, h, h2, h3, rfl⟩
theorem ok_cell_of (c : Cn K mg base) : Has P w K mg base "cell_of" 8 ps_cell_of (spP K f_cell_of) := by
  refine mk_cell_of c fun fd F => fn_D F sc_cell_of (fun ds d h => by obtain ⟨_, _, _, rfl, _⟩ := h; rfl) fun cdv A outer s H E hr => ?_
  refine ⟨_, (pss_cons (ps_expr (pe_has (ok_check_book c) hr (pa_cons (pv 0) pa_nil)))
    (pss_cons (ps_expr (pe_has (ok_check_depth c) hr (pa_cons (pv 1) pa_nil)))
    (pss_cons (ps_expr (pe_has (ok_check_number c) hr (pa_cons (pv 0) (pa_cons (pv 1) (pa_cons (pv 2) pa_nil)))))
    (pss_one (ps_ret (pe_has (ok_cell_in c) hr (pa_cons (pv 0) (pa_cons pe_int (pa_cons (pv 1) (pa_cons (pv 2) pa_nil)))))))))), ?_⟩
  rintro ds r ⟨B, d, n, rfl, ho, hd, hn, rfl⟩
  show SD K _ [.d (dBook B), .d (.int (d : Nat)), .d (.int (n : Nat))] _
  have h0 := kind0 ho
  walk_at "drop"
  walk_at "drop"
  walk_at "drop"
  apply sd_ret; apply ed_of
  · exact ee_callP (ds := [dBook B, .int ((0 : Nat) : Int), .int (d : Nat), .int (n : Nat)]) (by walk_at "ea") (r_cell_in ho h0 hd hn)
  · rfl
local macro_rules | `(tactic| walk_at "fn") => `(tactic| (apply r_cell_of; assumption; assumption; assumption))
def f_kinds_on : List D → D → Prop := fun ds r => ∃ (B : Book) (d n : Nat), ds = [dBook B, .int d, .int n] ∧ BookOk B ∧ d ≤ 2000 ∧ n < cells B d ∧ r = .tuple (dNats (kindsAt B 0 d n))
theorem r_kinds_on {B : Book} {d n : Nat} (h : BookOk B) (h2 : d ≤ 2000) (h3 : n < cells B d) : f_kinds_on [dBook B, .int d, .int n] (.tuple (dNats (kindsAt B 0 d n))) := ⟨_, _, _, rfl, h, h2, h3, rfl⟩
theorem ok_kinds_on (c : Cn K mg base) : Has P w K mg base "kinds_on" 8 ps_kinds_on (spP K f_kinds_on) := by
  refine mk_kinds_on c fun fd F => fn_D F sc_kinds_on (fun ds d h => by obtain ⟨_, _, _, rfl, _⟩ := h; rfl) fun cdv A outer s H E hr => ?_
  refine ⟨_, (pss_cons (ps_expr (pe_has (ok_check_book c) hr (pa_cons (pv 0) pa_nil)))
    (pss_cons (ps_expr (pe_has (ok_check_depth c) hr (pa_cons (pv 1) pa_nil)))
    (pss_cons (ps_expr (pe_has (ok_check_number c) hr (pa_cons (pv 0) (pa_cons (pv 1) (pa_cons (pv 2) pa_nil)))))
    (pss_one (ps_ret (pe_ix (ixT K rfl) (pe_has (ok_way_to c) hr (pa_cons (pv 0) (pa_cons pe_int (pa_cons (pv 1) (pa_cons (pv 2) pa_nil))))) pe_int (fun _ _ => rfl))))))), ?_⟩
  rintro ds r ⟨B, d, n, rfl, ho, hd, hn, rfl⟩
  show SD K _ [.d (dBook B), .d (.int (d : Nat)), .d (.int (n : Nat))] _
  have h0 := kind0 ho
  walk_at "drop"
  walk_at "drop"
  walk_at "drop"
  apply sd_ret; apply ed_of
  · exact ee_opP (ee_callP (ds := [dBook B, .int ((0 : Nat) : Int), .int (d : Nat), .int (n : Nat)]) (by walk_at "ea") (r_way_to ho h0 hd hn)) ee_int (rr_ixT rfl)
  · rfl
local macro_rules | `(tactic| walk_at "fn") => `(tactic| (apply r_kinds_on; assumption; assumption; assumption))
/-- the cells of the numbers first, first + 1, .. below behind -/
def dThread (B : Book) (k d first behind : Nat) : D := .list ((List.range (behind - first)).map fun i => dCell (cellAt B k d (first + i)))
def f_thread_of : List D → D → Prop := fun ds r => ∃ (B : Book) (k d first many : Nat), ds = [dBook B, .int k, .int d, .int first, .int many] ∧ BookOk B ∧ k < B.kinds.length ∧ d ≤ 2000 ∧ min (first + many) (cells B d) - first ≤ 1000000 ∧ r = dThread B k d first (min (first + many) (cells B d))
theorem r_thread_of {B : Book} {k d first many : Nat} (h : BookOk B) (h1 : k < B.kinds.length) (h2 : d ≤ 2000) (h3 : min (first + many) (cells B d) - first ≤ 1000000) : f_thread_of [dBook B, .int k, .int d, .int first, .int many] (dThread B k d first (min (first + many) (cells B d))) := ⟨_, _, _, _, _, rfl, h, h1, h2, h3, rfl⟩
theorem ok_thread_of (c : Cn K mg base) : Has P w K mg base "thread_of" 5 ps_thread_of (spP K f_thread_of) := by
  refine mk_thread_of c fun fd F => fn_D F sc_thread_of (fun ds d h => by obtain ⟨_, _, _, _, _, rfl, _⟩ := h; rfl) fun cdv A outer s H E hr => ?_
  refine ⟨_, (pss_cons (ps_set (i := 5) sc_thread_of.nd rfl (by first | exact Or.inl rfl | exact Or.inr rfl) (pe_callB (call_min2 rfl) (by rfl) c.f_min b_min (pa_cons (pe_op op_add (pv 3) (pv 4)) (pa_cons (pe_has (ok_how_many_cells c) hr (pa_cons (pv 0) (pa_cons (pv 2) pa_nil))) pa_nil))))
    (pss_one (ps_ret (pe_lc (own := [("number", 6)]) rfl sc_thread_of.nd (FlRange.pi_rangeL2 (by rfl) c.f_range (pa_cons (pv 3) (pa_cons (pv 5) pa_nil))) (blkOk_by rfl) (fun _ _ _ _ _ => (pg_name (i := 6) sc_thread_of.nd rfl (by first | exact Or.inl rfl | exact Or.inr rfl))) (fun _ _ _ _ _ => pts_nil) (fun _ _ _ _ _ => (pe_has (ok_cell_in c) hr (pa_cons (pv 0) (pa_cons (pv 1) (pa_cons (pv 2) (pa_cons (pv 6) pa_nil)))))))))), ?_⟩
  rintro ds r ⟨B, k, d, first, many, rfl, ho, hk, hd, hm, rfl⟩
  show SD K _ [.d (dBook B), .d (.int (k : Nat)), .d (.int (d : Nat)), .d (.int (first : Nat)), .d (.int (many : Nat)), .any, .any] _
  apply sd_seq; apply sd_asg; apply ed_of
  · refine EE.is (y := .int ((min (first + many) (cells B d) : Nat) : Int)) (by walk_at "ee") ?_
    have e : min ((first : Int) + many) (cells B d : Nat) = ((min (first + many) (cells B d) : Nat) : Int) := by omega
    rw [e]
  refine ⟨⟨_, rfl, rfl⟩, ?_⟩
  generalize hb : min (first + many) (cells B d) = behind at hm ⊢
  have hbc : behind ≤ cells B d := by omega
  have hlen : (((behind : Nat) : Int) - (first : Nat)).toNat = behind - first := by omega
  apply sd_ret; apply ed_of
  · apply EN.tree
    apply en_lcF (ys := (List.range (behind - first)).map fun i => dCell (cellAt B k d (first + i)))
    · walk_at "ei"
    · rw [rangeD_len, List.length_map, List.length_range, hlen]
    · rw [rangeD_len, hlen]; exact hm
    · rfl
    · intro i dd y hdd hy
      have hi := (List.getElem?_eq_some_iff.mp hdd).1
      rw [rangeD_len] at hi
      rw [rangeD_get hi] at hdd
      cases hdd
      rw [hlen] at hi
      rw [List.getElem?_map, List.getElem?_range hi] at hy
      cases hy
      have hn : first + i < cells B d := by omega
      have e : ((first : Nat) : Int) + (i : Nat) = ((first + i : Nat) : Int) := by push_cast; rfl
      rw [e]
      exact ⟨_, _, gg_name rfl rfl, et_yes, by walk_at "ee", rfl, rfl⟩
  · rfl
local macro_rules | `(tactic| walk_at "fn") => `(tactic| (apply r_thread_of; assumption; assumption; assumption; assumption))
def f_thread : List D → D → Prop := fun ds r => ∃ (B : Book) (d first many : Nat), ds = [dBook B, .int d, .int first, .int many] ∧ BookOk B ∧ d ≤ 2000 ∧ first < cells B d ∧ many ≤ 1000000 ∧ r = dThread B 0 d first (min (first + many) (cells B d))
theorem r_thread {B : Book} {d first many : Nat} (h : BookOk B) (h2 : d ≤ 2000) (h3 : first < cells B d) (h4 : many ≤ 1000000) : f_thread [dBook B, .int d, .int first, .int many] (dThread B 0 d first (min (first + many) (cells B d))) := ⟨_, _, _, _, rfl, h, h2, h3, h4, rfl⟩
theorem ok_thread (c : Cn K mg base) : Has P w K mg base "thread" 8 ps_thread (spP K f_thread) := by
  refine mk_thread c fun fd F => fn_D F sc_thread (fun ds d h => by obtain ⟨_, _, _, _, rfl, _⟩ := h; rfl) fun cdv A outer s H E hr => ?_
  refine ⟨_, (pss_cons (ps_expr (pe_has (ok_check_book c) hr (pa_cons (pv 0) pa_nil)))
    (pss_cons (ps_expr (pe_has (ok_check_depth c) hr (pa_cons (pv 1) pa_nil)))
    (pss_cons (ps_expr (pe_has (ok_check_number c) hr (pa_cons (pv 0) (pa_cons (pv 1) (pa_cons (pv 2) pa_nil)))))
    (pss_cons (ps_expr (pe_has (ok_check_many c) hr (pa_cons (pv 3) pa_nil)))
    (pss_one (ps_ret (pe_has (ok_thread_of c) hr (pa_cons (pv 0) (pa_cons pe_int (pa_cons (pv 1) (pa_cons (pv 2) (pa_cons (pv 3) pa_nil)))))))))))), ?_⟩
  rintro ds r ⟨B, d, first, many, rfl, ho, hd, hn, hm, rfl⟩
  show SD K _ [.d (dBook B), .d (.int (d : Nat)), .d (.int (first : Nat)), .d (.int (many : Nat))] _
  have h0 := kind0 ho
  walk_at "drop"
  walk_at "drop"
  walk_at "drop"
  walk_at "drop"
  apply sd_ret; apply ed_of
  · exact ee_callP (ds := [dBook B, .int ((0 : Nat) : Int), .int (d : Nat), .int (first : Nat), .int (many : Nat)]) (by walk_at "ea") (r_thread_of ho h0 hd (by omega))
  · rfl
local macro_rules | `(tactic| walk_at "fn") => `(tactic| (apply r_thread; assumption; assumption; assumption; assumption))
def f_first_cell : List D → D → Prop := fun ds r => ∃ (B : Book) (d : Nat), ds = [dBook B, .int d] ∧ BookOk B ∧ d ≤ 2000 ∧ r = dCell (cellAt B 0 d 0)
theorem r_first_cell {B : Book} {d : Nat} (h : BookOk B) (h2 : d ≤ 2000) : f_first_cell [dBook B, .int d] (dCell (cellAt B 0 d 0)) := ⟨_, _, rfl, h, h2, rfl⟩
theorem ok_first_cell (c : Cn K mg base) : Has P w K mg base "first_cell" 8 ps_first_cell (spP K f_first_cell) := by
  refine mk_first_cell c fun fd F => fn_D F sc_first_cell (fun ds d h => by obtain ⟨_, _, rfl, _⟩ := h; rfl) fun cdv A outer s H E hr => ?_
  refine ⟨_, (pss_cons (ps_expr (pe_has (ok_check_book c) hr (pa_cons (pv 0) pa_nil)))
    (pss_cons (ps_expr (pe_has (ok_check_depth c) hr (pa_cons (pv 1) pa_nil)))
    (pss_one (ps_ret (pe_has (ok_cell_in c) hr (pa_cons (pv 0) (pa_cons pe_int (pa_cons (pv 1) (pa_cons pe_int pa_nil))))))))), ?_⟩
  rintro ds r ⟨B, d, rfl, ho, hd, rfl⟩
  show SD K _ [.d (dBook B), .d (.int (d : Nat))] _
  have h0 := kind0 ho
  walk_at "drop"
  walk_at "drop"
  apply sd_ret; apply ed_of
  · exact ee_callP (ds := [dBook B, .int ((0 : Nat) : Int), .int (d : Nat), .int ((0 : Nat) : Int)]) (by walk_at "ea") (r_cell_in ho h0 hd (cells_pos ho d))
  · rfl
local macro_rules | `(tactic| walk_at "fn") => `(tactic| (apply r_first_cell; assumption; assumption))
def f_last_cell : List D → D → Prop := fun ds r => ∃ (B : Book) (d : Nat), ds = [dBook B, .int d] ∧ BookOk B ∧ d ≤ 2000 ∧ r = dCell (cellAt B 0 d (cells B d - 1))
theorem r_last_cell {B : Book} {d : Nat} (h : BookOk B) (h2 : d ≤ 2000) : f_last_cell [dBook B, .int d] (dCell (cellAt B 0 d (cells B d - 1))) := ⟨_, _, rfl, h, h2, rfl⟩
theorem fo_last_cell (c : Cn K mg base) (fd : FuncData) (F : FnP K "last_cell" s_last_cell (He.ga K "last_cell") fd) : FnOk P w K mg base CX0 8 (He.ga K "last_cell") fd ps_last_cell (spP K f_last_cell) := by
  refine fn_D F sc_last_cell (fun ds d h => by obtain ⟨_, _, rfl, _⟩ := h; rfl) fun cdv A outer s H E hr => ?_
  refine ⟨_, (pss_cons (ps_expr (pe_has (ok_check_book c) hr (pa_cons (pv 0) pa_nil)))
    (pss_cons (ps_expr (pe_has (ok_check_depth c) hr (pa_cons (pv 1) pa_nil)))
    (pss_one (ps_ret (pe_has (ok_cell_in c) hr (pa_cons (pv 0) (pa_cons pe_int (pa_cons (pv 1) (pa_cons (pe_op op_sub (pe_has (ok_how_many_cells c) hr (pa_cons (pv 0) (pa_cons (pv 1) pa_nil))) pe_int) pa_nil))))))))), ?_⟩
  rintro ds r ⟨B, d, rfl, ho, hd, rfl⟩
  show SD K _ [.d (dBook B), .d (.int (d : Nat))] _
  have h0 := kind0 ho
  have hcp := cells_pos ho d
  walk_at "drop"
  walk_at "drop"
  apply sd_ret; apply ed_of
  · refine ee_callP (ds := [dBook B, .int ((0 : Nat) : Int), .int (d : Nat), .int ((cells B d - 1 : Nat) : Int)]) ?_ (r_cell_in ho h0 hd (by omega))
    refine ea_consP (by walk_at "ee") (ea_consP ee_int (ea_consP (by walk_at "ee") (ea_consP ?_ ea_nil)))
    refine EE.is (by walk_at "ee") ?_
    have e : ((cells B d : Nat) : Int) - 1 = ((cells B d - 1 : Nat) : Int) := by omega
    show PyData.int (((cells B d : Nat) : Int) - 1) = _
    rw [e]
  · rfl
theorem ok_last_cell (c : Cn K mg base) : Has P w K mg base "last_cell" 8 ps_last_cell (spP K f_last_cell) := mk_last_cell c fun fd F => fo_last_cell c fd F
theorem okK_last_cell (c : Cn K mg base) : HasK P w K mg base "last_cell" 8 ps_last_cell ["d", "book"] [1, 0] (spP K f_last_cell) := by
  obtain ⟨fd, F⟩ := c.d_last_cell
  exact ⟨_, fd, fo_last_cell c fd F, c.g_last_cell, F.kp, kbn_of F fun _ _ _ _ _ _ ws hl => match ws, hl with | [_, _], _ => rfl⟩
local macro_rules | `(tactic| walk_at "fn") => `(tactic| (apply r_last_cell; assumption; assumption))
def f_whole : List D → D → Prop := fun ds r => ∃ (B : Book) (d : Nat), ds = [dBook B, .int d] ∧ BookOk B ∧ d ≤ 2000 ∧ cells B d ≤ 1000000 ∧ r = dThread B 0 d 0 (cells B d)
theorem r_whole {B : Book} {d : Nat} (h : BookOk B) (h2 : d ≤ 2000) (h3 : cells B d ≤ 1000000) : f_whole [dBook B, .int d] (dThread B 0 d 0 (cells B d)) := ⟨_, _, rfl, h, h2, h3, rfl⟩
theorem ok_whole (c : Cn K mg base) : Has P w K mg base "whole" 8 ps_whole (spP K f_whole) := by
  refine mk_whole c fun fd F => fn_D F sc_whole (fun ds d h => by obtain ⟨_, _, rfl, _⟩ := h; rfl) fun cdv A outer s H E hr => ?_
  refine ⟨_, (pss_cons (ps_expr (pe_has (ok_check_book c) hr (pa_cons (pv 0) pa_nil)))
    (pss_cons (ps_expr (pe_has (ok_check_depth c) hr (pa_cons (pv 1) pa_nil)))
    (pss_one (ps_ret (pe_has (ok_thread_of c) hr (pa_cons (pv 0) (pa_cons pe_int (pa_cons (pv 1) (pa_cons pe_int (pa_cons (pe_has (ok_how_many_cells c) hr (pa_cons (pv 0) (pa_cons (pv 1) pa_nil))) pa_nil)))))))))), ?_⟩
  rintro ds r ⟨B, d, rfl, ho, hd, hm, rfl⟩
  show SD K _ [.d (dBook B), .d (.int (d : Nat))] _
  have h0 := kind0 ho
  walk_at "drop"
  walk_at "drop"
  apply sd_ret; apply ed_of
  · exact ee_callP (ds := [dBook B, .int ((0 : Nat) : Int), .int (d : Nat), .int ((0 : Nat) : Int), .int (cells B d : Nat)]) (by walk_at "ea") (r_thread_of ho h0 hd (by omega))
  · show dThread _ _ _ _ _ = _
    have e : min (0 + cells B d) (cells B d) = cells B d := by omega
    rw [e]
local macro_rules | `(tactic| walk_at "fn") => `(tactic| (apply r_whole; assumption; assumption; assumption))
end
end K20
set_option autoImplicit false
set_option Elab.async false
set_option linter.all false
set_option maxRecDepth 100000
set_option maxHeartbeats 4000000
namespace K20
open PySem PySem.Spec PyProof.Rows L2 Fl Bk
local macro_rules | `(tactic| walk_at "sd") => `(tactic| first | assumption | rfl | omega | exact Nat.le_of_ble_eq_true rfl | (constructor <;> omega) | decide | (left; constructor <;> omega) | (right; constructor <;> omega))
local macro_rules | `(tactic| walk_at "fn") => `(tactic| fail "fn")
local macro_rules | `(tactic| walk_at "rc") => `(tactic| first | exact rc_len rfl | exact rc_tuple rfl | exact rc_all | exact rc_any | exact rc_sum | exact rc_int1 | exact rc_min2 | exact rc_max2)
local macro_rules | `(tactic| walk_at "rcn") => `(tactic| first | exact rcn_list rfl)
local macro_rules | `(tactic| walk_at "rr") => `(tactic| first | exact rr_i | exact rr_b | exact rr_eqI | exact rr_neI | exact rr_eqB | exact rr_neB | exact rr_eqS | exact rr_neS | (apply rr_ixT; first | rfl | assumption) | (apply rr_ixL; first | rfl | assumption) | (apply rr_ic; walk_at "sd") | (apply rr_catT; first | (exact List.cons_ne_nil _ _) | assumption; walk_at "sd"))
local macro_rules | `(tactic| walk_at "ea") => `(tactic| first | exact ea_nil | (apply ea_cons; walk_at "ee"; walk_at "ea"))
local macro_rules | `(tactic| walk_at "et") => `(tactic| first | (apply et_test; walk_at "ee") | (apply et_B; walk_at "ee") | (apply et_not; walk_at "et") | exact et_yes | (apply et_andP; walk_at "et"; walk_at "et") | (apply et_orP; walk_at "et"; walk_at "et"))
local macro_rules | `(tactic| walk_at "en") => `(tactic| first | (apply en_lst; walk_at "ea"; walk_at "sd") | (apply en_cb; walk_at "ea"; walk_at "rcn") | (apply en_revO; rfl) | (apply en_revL; walk_at "ee"))
local macro_rules | `(tactic| walk_at "ex") => `(tactic| first | exact ex_nil | (apply ex_n; walk_at "en"; (intro _ z; cases z); walk_at "ex") | (apply ex_t; walk_at "ee"; walk_at "ex"))
local macro_rules | `(tactic| walk_at "eo") => `(tactic| first | exact eo_no | (apply eo_part; walk_at "ee"))
local macro_rules | `(tactic| walk_at "gg") => `(tactic| first | exact gg_name rfl rfl | exact gg_name rfl (by assumption) | (apply gg_tup; walk_at "ggs"; rfl) | (apply gg_lst; walk_at "ggs"; rfl))
local macro_rules | `(tactic| walk_at "ggs") => `(tactic| first | exact ggs_nil | (apply ggs_cons; walk_at "gg"; walk_at "ggs"))
local macro_rules | `(tactic| walk_at "ei") => `(tactic| first | (apply ei_rangeL1; walk_at "ea") | (apply ei_rangeL2; walk_at "ea") | (apply ei_tup; walk_at "ee") | (apply ei_list; walk_at "ee"))
local macro_rules | `(tactic| walk_at "ee") => `(tactic| first
  | exact ee_var rfl
  | exact ee_int
  | exact ee_bl
  | exact ee_non
  | exact ee_str
  | (apply ee_ixO rfl; walk_at "ee"; rfl; first | rfl | assumption)
  | (apply ee_op; walk_at "ee"; walk_at "ee"; walk_at "rr")
  | (apply ee_tup; walk_at "ea"; walk_at "sd")
  | (apply ee_call; walk_at "ea"; walk_at "fn")
  | (apply ee_isi; walk_at "ee"; rfl; rfl)
  | exact ee_lenO rfl
  | exact ee_tupleO rfl
  | (apply ee_cb; walk_at "ea"; walk_at "rc")
  | (apply ee_andP; walk_at "ee"; walk_at "ee")
  | (apply ee_orP; walk_at "ee"; walk_at "ee")
  | (apply ee_notV; walk_at "ee")
  | (apply ee_neg; walk_at "ee")
  | (apply ee_revT; walk_at "ee")
  | (apply ee_slT; walk_at "ee"; walk_at "eo"; walk_at "eo"; walk_at "sd")
  | (apply EN.tree; walk_at "en"))
local macro_rules | `(tactic| walk_at "asg") => `(tactic| (apply sd_seq; apply sd_asg; apply ed_of; walk_at "ee"; refine ⟨⟨_, rfl, rfl⟩, ?_⟩))
local macro_rules | `(tactic| walk_at "asgN") => `(tactic| (apply sd_seq; apply sd_of; apply ss_asgN; walk_at "en"; rfl; rfl))
local macro_rules | `(tactic| walk_at "asgG") => `(tactic| (apply sd_seq; apply sd_of; apply ss_asgG; walk_at "ee"; walk_at "gg"))
local macro_rules | `(tactic| walk_at "par") => `(tactic| (apply sd_seq; apply sd_of; apply ss_parX; walk_at "ex"; decide; rfl; rfl; rfl; rfl))
local macro_rules | `(tactic| walk_at "par3") => `(tactic| (apply sd_seq; apply sd_of; apply ss_par3X; walk_at "ex"; decide; decide; decide; rfl; rfl; rfl; rfl; rfl; rfl))
local macro_rules | `(tactic| walk_at "ret") => `(tactic| (apply sd_ret; apply ed_of; walk_at "ee"))
local macro_rules | `(tactic| walk_at "no") => `(tactic| (apply sd_seq; apply sd_if; apply td_of; walk_at "et"))
local macro_rules | `(tactic| walk_at "drop") => `(tactic| (apply sd_seq; apply sd_drop; apply ed_of; walk_at "ee"))
local macro_rules | `(tactic| walk_at "fn") => `(tactic| exact r_is_integer)
local macro_rules | `(tactic| walk_at "fn") => `(tactic| exact r_is_natural)
local macro_rules | `(tactic| walk_at "fn") => `(tactic| exact r_is_below)
local macro_rules | `(tactic| walk_at "fn") => `(tactic| exact r_is_pair)
local macro_rules | `(tactic| walk_at "fn") => `(tactic| (apply r_power; walk_at "sd"))
local macro_rules | `(tactic| walk_at "fn") => `(tactic| (apply r_is_cell_below; walk_at "sd"))
local macro_rules | `(tactic| walk_at "fn") => `(tactic| (apply r_is_posture; walk_at "sd"; walk_at "sd"))
local macro_rules | `(tactic| walk_at "fn") => `(tactic| exact r_posed)
local macro_rules | `(tactic| walk_at "fn") => `(tactic| (apply r_is_part; assumption))
local macro_rules | `(tactic| walk_at "fn") => `(tactic| (apply r_is_kind_of; assumption; assumption))
local macro_rules | `(tactic| walk_at "fn") => `(tactic| (apply r_is_book; assumption))
local macro_rules | `(tactic| walk_at "fn") => `(tactic| (apply r_check_book; assumption))
local macro_rules | `(tactic| walk_at "fn") => `(tactic| (apply r_check_kind; assumption))
local macro_rules | `(tactic| walk_at "fn") => `(tactic| (apply r_turned_of; assumption))
local macro_rules | `(tactic| walk_at "fn") => `(tactic| (apply r_check_posture; assumption; assumption))
local macro_rules | `(tactic| walk_at "fn") => `(tactic| (apply r_turned; assumption; assumption; assumption))
local macro_rules | `(tactic| walk_at "fn") => `(tactic| (apply r_backward_of; assumption))
local macro_rules | `(tactic| walk_at "fn") => `(tactic| (apply r_backward; assumption))
local macro_rules | `(tactic| walk_at "fn") => `(tactic| exact r_check_depth)
local macro_rules | `(tactic| walk_at "fn") => `(tactic| exact r_check_many)
local macro_rules | `(tactic| walk_at "fn") => `(tactic| (apply r_cells_each_way; assumption))
local macro_rules | `(tactic| walk_at "fn") => `(tactic| (apply r_how_many_cells; assumption))
local macro_rules | `(tactic| walk_at "fn") => `(tactic| (apply r_check_cell; assumption; assumption))
local macro_rules | `(tactic| walk_at "fn") => `(tactic| (apply r_check_number; assumption; walk_at "sd"))
local macro_rules | `(tactic| walk_at "fn") => `(tactic| (apply r_way_to; assumption; assumption; assumption; assumption))
local macro_rules | `(tactic| walk_at "fn") => `(tactic| (apply r_number_in; assumption; assumption; assumption; assumption))
local macro_rules | `(tactic| walk_at "fn") => `(tactic| (apply r_number_of; assumption; assumption; assumption))
local macro_rules | `(tactic| walk_at "fn") => `(tactic| (apply r_cell_in; assumption; assumption; assumption; assumption))
local macro_rules | `(tactic| walk_at "fn") => `(tactic| (apply r_cell_of; assumption; assumption; assumption))
local macro_rules | `(tactic| walk_at "fn") => `(tactic| (apply r_kinds_on; assumption; assumption; assumption))
local macro_rules | `(tactic| walk_at "fn") => `(tactic| (apply r_thread_of; assumption; assumption; assumption; assumption))
local macro_rules | `(tactic| walk_at "fn") => `(tactic| (apply r_thread; assumption; assumption; assumption; assumption))
local macro_rules | `(tactic| walk_at "fn") => `(tactic| (apply r_first_cell; assumption; assumption))
local macro_rules | `(tactic| walk_at "fn") => `(tactic| (apply r_last_cell; assumption; assumption))
local macro_rules | `(tactic| walk_at "fn") => `(tactic| (apply r_whole; assumption; assumption; assumption))
section
variable {P : Program} {w : World} {K : PySem.W.Frag} {mg : Str → Option Value} {base : Heap}
/-! ### books begun at a kind -/
theorem rangeD_nats {n : Nat} : rangeD 0 n = dNats (List.range n) := by
  unfold rangeD dNats
  apply List.map_congr_left
  intro i _
  rw [Int.zero_add]
theorem at_nats {n k : Nat} (h : k < n) : atI (dNats (List.range n)) (k : Int) = some (.int (k : Int)) := Bk.atI_nat (by unfold dNats; rw [List.getElem?_map, List.getElem?_range h]; rfl)
theorem eqv_nil {l : List Nat} : (!PyData.eqv (.list (dNats l)) (.list [])) = !l.isEmpty := by
  cases l with
  | nil => rfl
  | cons a l => rfl
theorem shaped_nats {l : List Nat} : SeqAt.shaped (.list (dNats l)) = true := by
  have e : dNats l = (l.map fun (n : Nat) => (n : Int)).map PyData.int := by unfold dNats; rw [List.map_map]; rfl
  rw [e]; exact shaped_ints
def f_numbered : List D → D → Prop := fun ds d => ∃ (B : Book) (k : Nat), ds = [dBook B, .list (rangeD 0 B.kinds.length), .int k] ∧ BookOk B ∧ k < B.kinds.length ∧ d = dBook (begun B k)
theorem r_numbered {B : Book} {k : Nat} (h : BookOk B) (h1 : k < B.kinds.length) : f_numbered [dBook B, .list (rangeD 0 B.kinds.length), .int k] (dBook (begun B k)) := ⟨_, _, rfl, h, h1, rfl⟩
theorem dRow_snoc {r : Bk.Row} {p : Part} : (r ++ [p]).map dPart = r.map dPart ++ [dPart p] := by rw [List.map_append]; rfl
theorem seq_nat {i n : Nat} (h : i < n) : seqIndex? (i : Int) n = some i := by
  unfold seqIndex?
  simp
  omega
theorem num_app {bk : D} {nms parts : List D} {s2 s4 s5 s6 : S} {o : List Nat} {p : Part} (hown : atI nms (p.2.2 : Int) = some (.int (p.2.2 : Int))) (hm : p.2.2 ∈ o) (hz : parts.length ≤ 1000000) :
    SS K (tDrop (tBM K "list" rAppend (tVar 7) (tCons (tTup (tCons (tVar 8) (tCons (tVar 9) (tCons (tDGet (tVar 3) (tOp (rIxL K) (tVar 1) (tVar 10))) tNil)))) tNil)))
      [.d bk, .d (.list nms), s2, .o false (.dk (metD o)), s4, s5, s6, .o false (.lst parts), .d (.int p.1), .d (.int p.2.1), .d (.int (p.2.2 : Int))]
      (.next [.d bk, .d (.list nms), s2, .o false (.dk (metD o)), s4, s5, s6, .o false (.lst (parts ++ [dPart (p.1, p.2.1, o.idxOf p.2.2)])), .d (.int p.1), .d (.int p.2.1), .d (.int (p.2.2 : Int))]) := by
  have hE : EE K (tTup (tCons (tVar 8) (tCons (tVar 9) (tCons (tDGet (tVar 3) (tOp (rIxL K) (tVar 1) (tVar 10))) tNil)))) [.d bk, .d (.list nms), s2, .o false (.dk (metD o)), s4, s5, s6, .o false (.lst parts), .d (.int p.1), .d (.int p.2.1), .d (.int (p.2.2 : Int))] [.d bk, .d (.list nms), s2, .o false (.dk (metD o)), s4, s5, s6, .o false (.lst parts), .d (.int p.1), .d (.int p.2.1), .d (.int (p.2.2 : Int))] (dPart (p.1, p.2.1, o.idxOf p.2.2)) := by
    apply ee_tup
    · apply ea_cons; exact ee_var rfl
      apply ea_cons; exact ee_var rfl
      apply ea_cons
      · exact ee_dget (k := Sum.inl (p.2.2 : Int)) rfl (ee_opP (ee_var rfl) (ee_var rfl) (rr_ixL hown)) rfl (by rw [look_met, if_pos hm])
      exact ea_nil
    · exact (show 3 ≤ 1000000 by decide)
  exact SS.is (ss_append rfl hE rfl hz) rfl
theorem ok_numbered (c : Cn K mg base) : Has P w K mg base "numbered" 1 ps_numbered (spP K f_numbered) := by
  refine mk_numbered c fun fd F => fn_D F sc_numbered (fun ds d h => by obtain ⟨_, _, rfl, _⟩ := h; rfl) fun cdv A outer s H E hr => ?_
  refine ⟨_, (pss_cons (ps_par3 (i := 3) (j := 4) (l := 5) rfl sc_numbered.nd rfl rfl rfl (by decide) (by decide) (by decide) rfl rfl rfl (pa_cons (pe_disp (pps_cons (pe_ix (ixL K rfl) (pv 1) (pv 2) (fun _ _ => rfl)) pe_int pps_nil) rfl rfl (by simp) (by decide)) (pa_cons (pe_lst (pa_cons (pv 2) pa_nil)) (pa_cons (pe_lst pa_nil) pa_nil))) rfl)
    (pss_cons (ps_while PassesOwn.never (pt_cmpR (neD K (hu64 hr) rfl) (pv 4) (pe_lst pa_nil) (nomark _)) (pss_cons (ps_set (i := 6) sc_numbered.nd rfl (by first | exact Or.inl rfl | exact Or.inr rfl) (bM K rfl PySem.F.plainAttrs_list PySem.F.slot_list_pop PySem.F.type_list_pop mt_popAt (pv 4) (pa_cons pe_int pa_nil)))
    (pss_cons (ps_set (i := 7) sc_numbered.nd rfl (by first | exact Or.inl rfl | exact Or.inr rfl) (pe_lst pa_nil))
    (pss_cons (ps_for PassesOwn.never rfl (piT K rfl (pe_ix (ixT K rfl) (pe_ix (ixT K rfl) (pv 0) pe_int (fun _ _ => rfl)) (pv 6) (fun _ _ => rfl))) (pgT K rfl (n := 3) rfl (pgs_cons (pg_name (i := 8) sc_numbered.nd rfl (by first | exact Or.inl rfl | exact Or.inr rfl)) (pgs_cons (pg_name (i := 9) sc_numbered.nd rfl (by first | exact Or.inl rfl | exact Or.inr rfl)) (pgs_cons (pg_name (i := 10) sc_numbered.nd rfl (by first | exact Or.inl rfl | exact Or.inr rfl)) pgs_nil)))) (pss_cons (ps_if (pt_cmp (pc_dnotin (hu_of hr) (pe_ix (ixL K rfl) (pv 1) (pv 10) (fun _ _ => rfl)) (pv 3))) (pss_cons (ps_dput (hu_of hr) (pv 3) (pe_ix (ixL K rfl) (pv 1) (pv 10) (fun _ _ => rfl)) (pe_callB call_lenD (by rfl) c.f_len b_len (pa_cons (pv 3) pa_nil)) rfl)
    (pss_one (ps_expr (bM K rfl PySem.F.plainAttrs_list PySem.F.slot_list_append PySem.F.type_list_append mt_append (pv 4) (pa_cons (pv 10) pa_nil))))) pss_nil)
    (pss_one (ps_expr (bM K rfl PySem.F.plainAttrs_list PySem.F.slot_list_append PySem.F.type_list_append mt_append (pv 7) (pa_cons (pe_tup (pa_cons (pv 8) (pa_cons (pv 9) (pa_cons (pe_dget (hu_of hr) (pv 3) (pe_ix (ixL K rfl) (pv 1) (pv 10) (fun _ _ => rfl)) (fun _ _ => rfl)) pa_nil)))) pa_nil))))))
    (pss_one (ps_expr (bM K rfl PySem.F.plainAttrs_list PySem.F.slot_list_append PySem.F.type_list_append mt_append (pv 5) (pa_cons (pe_callTy (cTup K rfl) (by rfl) c.f_tuple b_tuple (pa_cons (pv 7) pa_nil)) pa_nil))))))))
    (pss_one (ps_ret (pe_tup (pa_cons (pe_ix (ixT K rfl) (pv 0) pe_int (fun _ _ => rfl)) (pa_cons (pe_callTy (cTup K rfl) (by rfl) c.f_tuple b_tuple (pa_cons (pv 5) pa_nil)) pa_nil))))))), ?_⟩
  rintro ds d ⟨B, k, rfl, ho, hk, rfl⟩
  show SD K _ [.d (.tuple [.int (B.b : Nat), .tuple (B.kinds.map dRow)]), .d (.list (rangeD 0 B.kinds.length)), .d (.int (k : Nat)), .any, .any, .any, .any, .any, .any, .any, .any] _
  rw [rangeD_nats]
  have hf := ho.few
  have hak := at_nats hk
  generalize hbk : (PyData.tuple [.int (B.b : Nat), .tuple (B.kinds.map dRow)]) = bk
  generalize hnm : dNats (List.range B.kinds.length) = nms at hak ⊢
  apply sd_seq; apply sd_of; apply ss_par3X
  · apply ex_n
    · apply en_disp (kvs := [((Sum.inl (k : Int) : Key), PyData.int 0)])
      · exact eps_cons (k := Sum.inl (k : Int)) (ee_op (ee_var rfl) (ee_var rfl) (rr_ixL hak)) ee_int eps_nil
      · exact (show 1 ≤ 15 by decide)
    · intro _ z; cases z
    apply ex_n
    · walk_at "en"
    · intro _ z; cases z
    apply ex_n
    · walk_at "en"
    · intro _ z; cases z
    exact ex_nil
  · decide
  · decide
  · decide
  · rfl
  · rfl
  · rfl
  · rfl
  · rfl
  · rfl
  apply sd_seq
  refine sd_while (fun m e => ∃ (j : Nat) (vh vp vx vy vo : S), j + m = B.kinds.length ∧ j ≤ (numAll B k j).1.length ∧ S.isPm vh = false ∧ S.isPm vp = false ∧ S.isPm vx = false ∧ S.isPm vy = false ∧ S.isPm vo = false ∧
    e = [.d bk, .d (.list nms), .d (.int (k : Nat)), .o false (.dk (metD (numAll B k j).1)), .o false (.lst (dNats ((numAll B k j).1.drop j))), .o false (.lst ((numAll B k j).2.map dRow)), vh, vp, vx, vy, vo]) B.kinds.length ?_ ?_
  · exact ⟨0, .any, .any, .any, .any, .any, by omega, Nat.zero_le _, rfl, rfl, rfl, rfl, rfl, rfl⟩
  · rintro m e ⟨j, vh, vp, vx, vy, vo, hjm, hjl, h1, h2, h3, h4, h5, rfl⟩
    obtain ⟨hO, hRl, hRw⟩ := numAll_ok ho hk j
    have hOl := hO.le
    apply td_of
    · apply et_test
      exact et_nilO rfl shaped_nats eqv_nil
    cases hw : (numAll B k j).1.drop j with
    | nil =>
      -- no kind waits
      show SD K _ _ _
      have hl : (numAll B k j).1.length ≤ j := by
        have := List.drop_eq_nil_iff.mp hw
        exact this
      subst hbk
      walk_at "ret"
      have e : numAll B k B.kinds.length = numAll B k j := by
        have := numAll_stay hl (B.kinds.length - j)
        rw [← this]; congr 1; omega
      show PyData.tuple _ = dBook (begun B k)
      unfold dBook begun
      rw [e]
    | cons kk rest =>
      show 0 < m ∧ SD K _ _ _
      have hget : (numAll B k j).1[j]? = some kk := by
        have : ((numAll B k j).1.drop j)[0]? = some kk := by rw [hw]; rfl
        rw [List.getElem?_drop] at this
        simpa using this
      have hjlt := (List.getElem?_eq_some_iff.mp hget).1
      have hkk := hO.lt kk (List.mem_of_getElem? hget)
      have hrest : (numAll B k j).1.drop (j + 1) = rest := by
        rw [← List.drop_drop, hw]; rfl
      have hrow := at_row hkk
      have hro := ho.row hkk
      have hrl := RowOk.few hro ho.b2.2
      refine ⟨by omega, ?_⟩
      rw [← hw]
      -- here = waiting.pop(0)
      apply sd_seq; apply sd_asg; apply ed_of
      · apply ee_popAt (i := 4) (k := 0) (n := 0) rfl
        · walk_at "ee"
        · rfl
        · decide
        · exact seq_nat (i := 0) (by unfold dNats; rw [List.length_map, hw]; exact Nat.succ_pos _)
        · rw [hw]; rfl
      refine ⟨⟨vh, rfl, h1⟩, ?_⟩
      apply sd_seq; apply sd_of
      · apply ss_asgN (s := vp)
        · walk_at "en"
        · rfl
        · exact h2
      apply sd_seq
      have hpop : (dNats ((numAll B k j).1.drop j)).eraseIdx 0 = dNats ((numAll B k j).1.drop (j + 1)) := by
        rw [hw, hrest]; rfl
      rw [hpop]
      refine sd_for (ds := (B.row kk).map dPart) (e0 := [.d bk, .d (.list nms), .d (.int (k : Nat)), .o false (.dk (metD (numAll B k j).1)), .o false (.lst (dNats ((numAll B k j).1.drop (j + 1)))), .o false (.lst ((numAll B k j).2.map dRow)), .d (.int (kk : Nat)), .o false (.lst []), vx, vy, vo]) ?_
        (fun i e => ∃ (vx vy vo : S), S.isPm vx = false ∧ S.isPm vy = false ∧ S.isPm vo = false ∧
          e = [.d bk, .d (.list nms), .d (.int (k : Nat)), .o false (.dk (metD (((B.row kk).take i).foldl numPart ((numAll B k j).1, [])).1)), .o false (.lst (dNats ((((B.row kk).take i).foldl numPart ((numAll B k j).1, [])).1.drop (j + 1)))), .o false (.lst ((numAll B k j).2.map dRow)), .d (.int (kk : Nat)), .o false (.lst ((((B.row kk).take i).foldl numPart ((numAll B k j).1, [])).2.map dPart)), vx, vy, vo]) ⟨vx, vy, vo, h3, h4, h5, rfl⟩ ?_ ?_
      · apply ei_tup
        subst hbk
        apply ee_op (x := .tuple (B.kinds.map dRow)) (y := .int (kk : Nat))
        · exact ee_opP (ee_var rfl) ee_int (rr_ixT rfl)
        · exact ee_var rfl
        · exact rr_ixT hrow
      · rintro i dd e hdd ⟨vx, vy, vo, h3, h4, h5, rfl⟩
        rw [List.getElem?_map] at hdd
        obtain ⟨p, hp, rfl⟩ := Option.map_eq_some_iff.mp hdd
        have hpin := hro.inn p (List.mem_of_getElem? hp)
        obtain ⟨g1, g2, g3⟩ := fold_ok ((B.row kk).take i) ((numAll B k j).1, []) (fun q hq => (hro.inn q (List.mem_of_mem_take hq)).2.2.2.2) hO
        have hsucc := fold_succ (s := ((numAll B k j).1, ([] : Bk.Row))) hp
        have hown := at_nats hpin.2.2.2.2
        rw [hnm] at hown
        have hilt := (List.getElem?_eq_some_iff.mp hp).1
        rw [List.length_take] at g3
        generalize hst : ((B.row kk).take i).foldl numPart ((numAll B k j).1, []) = st at g1 g2 g3 hsucc
        have gle := g1.le
        refine ⟨_, _, gg_tup (ds := [.int p.1, .int p.2.1, .int p.2.2]) (by walk_at "ggs") rfl, ?_⟩
        apply sd_seq
        apply sd_if
        apply td_of
        · apply et_test
          exact ee_dnotin (k := Sum.inl (p.2.2 : Int)) (ee_opP (ee_var rfl) (ee_var rfl) (rr_ixL hown)) rfl
        rw [look_met]
        have hpl : (st.2.map dPart).length ≤ 1000000 := by
          rw [List.length_map, g3]
          show 0 + _ ≤ _
          omega
        by_cases hm : p.2.2 ∈ st.1
        · rw [if_pos hm]
          show SD K _ _ _
          apply sd_next
          apply sd_of (num_app hown hm hpl)
          have e1 : addOwn st.1 p.2.2 = st.1 := if_pos hm
          refine ⟨.d (.int p.1), .d (.int p.2.1), .d (.int (p.2.2 : Int)), rfl, rfl, rfl, ?_⟩
          rw [hsucc]
          unfold numPart
          rw [e1, dRow_snoc]
        · rw [if_neg hm]
          show SD K _ _ _
          have e1 : addOwn st.1 p.2.2 = st.1 ++ [p.2.2] := if_neg hm
          apply sd_seq; apply sd_of
          · apply ss_dput (k := Sum.inl (p.2.2 : Int))
            · exact ee_lenK rfl
            · rfl
            · exact ee_opP (ee_var rfl) (ee_var rfl) (rr_ixL hown)
            · rw [metD_len]; omega
          rw [metD_len, put_met hm]
          apply sd_of
          · apply ss_append rfl
            · exact ee_var rfl
            · rfl
            · unfold dNats
              rw [List.length_map, List.length_drop]; omega
          have hdrop : dNats (st.1.drop (j + 1)) ++ [.int (p.2.2 : Int)] = dNats ((st.1 ++ [p.2.2]).drop (j + 1)) := by
            have : j + 1 ≤ st.1.length := by
              have : (numAll B k j).1.length ≤ st.1.length := g2
              omega
            rw [List.drop_append_of_le_length this, dNats_snoc]
          rw [hdrop]
          apply sd_of (num_app (o := st.1 ++ [p.2.2]) hown (by simp) hpl)
          refine ⟨.d (.int p.1), .d (.int p.2.1), .d (.int (p.2.2 : Int)), rfl, rfl, rfl, ?_⟩
          rw [hsucc]
          unfold numPart
          rw [e1, dRow_snoc]
      · rintro e ⟨vx, vy, vo, h3, h4, h5, rfl⟩
        rw [List.length_map, List.take_length]
        have hnx := numAll_next hget
        obtain ⟨g1, g2, g3⟩ := fold_ok (B.row kk) ((numAll B k j).1, []) (fun q hq => (hro.inn q hq).2.2.2.2) hO
        show SD K _ _ _
        apply sd_of
        · apply ss_append rfl
          · exact ee_tupleO rfl
          · rfl
          · rw [List.length_map]; omega
        have e1 : (numAll B k (j + 1)).1 = ((B.row kk).foldl numPart ((numAll B k j).1, [])).1 := by rw [hnx]; rfl
        have e2 : (numAll B k (j + 1)).2 = (numAll B k j).2 ++ [((B.row kk).foldl numPart ((numAll B k j).1, [])).2] := by rw [hnx]; rfl
        refine ⟨j + 1, .d (.int (kk : Nat)), .o false (.lst (((B.row kk).foldl numPart ((numAll B k j).1, [])).2.map dPart)), vx, vy, vo, by omega, ?_, rfl, rfl, h3, h4, h5, ?_⟩
        · rw [e1]
          exact Nat.le_trans hjlt g2
        · rw [e1, e2, List.map_append]
          rfl
local macro_rules | `(tactic| walk_at "fn") => `(tactic| (apply r_numbered; assumption; assumption))
def f_begun_of : List D → D → Prop := fun ds d => ∃ (B : Book) (k : Nat), ds = [dBook B, .int k] ∧ BookOk B ∧ k < B.kinds.length ∧ d = dBook (begun B k)
theorem r_begun_of {B : Book} {k : Nat} (h : BookOk B) (h1 : k < B.kinds.length) : f_begun_of [dBook B, .int k] (dBook (begun B k)) := ⟨_, _, rfl, h, h1, rfl⟩
theorem ok_begun_of (c : Cn K mg base) : Has P w K mg base "begun_of" 2 ps_begun_of (spP K f_begun_of) := by
  refine mk_begun_of c fun fd F => fn_D F sc_begun_of (fun ds d h => by obtain ⟨_, _, rfl, _⟩ := h; rfl) fun cdv A outer s H E hr => ?_
  refine ⟨_, (pss_one (ps_ret (pe_has (ok_numbered c) hr (pa_cons (pv 0) (pa_cons (pe_listRg rfl (by rfl) c.f_list (prg_1 (by rfl) c.f_range (pe_callB (cLen K rfl) (by rfl) c.f_len b_len (pa_cons (pe_ix (ixT K rfl) (pv 0) pe_int (fun _ _ => rfl)) pa_nil)))) (pa_cons (pv 1) pa_nil)))))), ?_⟩
  rintro ds d ⟨B, k, rfl, ho, hk, rfl⟩
  show SD K _ [.d (.tuple [.int (B.b : Nat), .tuple (B.kinds.map dRow)]), .d (.int (k : Nat))] _
  have hf := ho.few
  apply sd_ret; apply ed_of
  · apply ee_call
    · apply ea_cons; exact ee_var rfl
      apply ea_cons
      · refine EE.is (y := .list (rangeD 0 B.kinds.length)) (EN.tree (en_lstRg1 (n := ((B.kinds.map dRow).length : Nat)) (by walk_at "ee") ?_)) ?_
        · rw [List.length_map]; exact RgOk.of_le (by omega) (by omega) (by omega) (by omega)
        · rw [List.length_map, Int.toNat_natCast]
      walk_at "ea"
    · exact r_numbered ho hk
  · rfl
local macro_rules | `(tactic| walk_at "fn") => `(tactic| (apply r_begun_of; assumption; assumption))
def f_begun_at : List D → D → Prop := fun ds d => ∃ (B : Book) (k : Nat), ds = [dBook B, .int k] ∧ BookOk B ∧ k < B.kinds.length ∧ d = dBook (begun B k)
theorem r_begun_at {B : Book} {k : Nat} (h : BookOk B) (h1 : k < B.kinds.length) : f_begun_at [dBook B, .int k] (dBook (begun B k)) := ⟨_, _, rfl, h, h1, rfl⟩
theorem fo_begun_at (c : Cn K mg base) (fd : FuncData) (F : FnP K "begun_at" s_begun_at (He.ga K "begun_at") fd) : FnOk P w K mg base CX0 8 (He.ga K "begun_at") fd ps_begun_at (spP K f_begun_at) := by
  refine fn_D F sc_begun_at (fun ds d h => by obtain ⟨_, _, rfl, _⟩ := h; rfl) fun cdv A outer s H E hr => ?_
  refine ⟨_, (pss_cons (ps_expr (pe_has (ok_check_book c) hr (pa_cons (pv 0) pa_nil)))
    (pss_cons (ps_expr (pe_has (ok_check_kind c) hr (pa_cons (pv 0) (pa_cons (pv 1) pa_nil))))
    (pss_one (ps_ret (pe_has (ok_begun_of c) hr (pa_cons (pv 0) (pa_cons (pv 1) pa_nil))))))), ?_⟩
  rintro ds d ⟨B, k, rfl, ho, hk, rfl⟩
  show SD K _ [.d (dBook B), .d (.int (k : Nat))] _
  walk_at "drop"
  walk_at "drop"
  walk_at "ret"
  rfl
theorem ok_begun_at (c : Cn K mg base) : Has P w K mg base "begun_at" 8 ps_begun_at (spP K f_begun_at) := mk_begun_at c fun fd F => fo_begun_at c fd F
theorem okK_begun_at (c : Cn K mg base) : HasK P w K mg base "begun_at" 8 ps_begun_at ["kind", "book"] [1, 0] (spP K f_begun_at) := by
  obtain ⟨fd, F⟩ := c.d_begun_at
  exact ⟨_, fd, fo_begun_at c fd F, c.g_begun_at, F.kp, kbn_of F fun _ _ _ _ _ _ ws hl => match ws, hl with | [_, _], _ => rfl⟩
local macro_rules | `(tactic| walk_at "fn") => `(tactic| (apply r_begun_at; assumption; assumption))
end
end K20
set_option autoImplicit false
set_option Elab.async false
set_option linter.all false
set_option maxRecDepth 100000
set_option maxHeartbeats 4000000
namespace K20
open PySem PySem.Spec PyProof.Rows L2 Fl Bk
local macro_rules | `(tactic| walk_at "sd") => `(tactic| first | assumption | rfl | omega | exact Nat.le_of_ble_eq_true rfl | (constructor <;> omega) | decide | (left; constructor <;> omega) | (right; constructor <;> omega))
local macro_rules | `(tactic| walk_at "fn") => `(tactic| fail "fn")
local macro_rules | `(tactic| walk_at "rc") => `(tactic| first | exact rc_len rfl | exact rc_tuple rfl | exact rc_all | exact rc_any | exact rc_sum | exact rc_int1 | exact rc_min2 | exact rc_max2)
local macro_rules | `(tactic| walk_at "rcn") => `(tactic| first | exact rcn_list rfl)
local macro_rules | `(tactic| walk_at "rr") => `(tactic| first | exact rr_i | exact rr_b | exact rr_eqI | exact rr_neI | exact rr_eqB | exact rr_neB | exact rr_eqS | exact rr_neS | (apply rr_ixT; first | rfl | assumption) | (apply rr_ixL; first | rfl | assumption) | (apply rr_ic; walk_at "sd") | (apply rr_catT; first | (exact List.cons_ne_nil _ _) | assumption; walk_at "sd"))
local macro_rules | `(tactic| walk_at "ea") => `(tactic| first | exact ea_nil | (apply ea_cons; walk_at "ee"; walk_at "ea"))
local macro_rules | `(tactic| walk_at "et") => `(tactic| first | (apply et_test; walk_at "ee") | (apply et_B; walk_at "ee") | (apply et_not; walk_at "et") | exact et_yes | (apply et_andP; walk_at "et"; walk_at "et") | (apply et_orP; walk_at "et"; walk_at "et"))
local macro_rules | `(tactic| walk_at "en") => `(tactic| first | (apply en_lst; walk_at "ea"; walk_at "sd") | (apply en_cb; walk_at "ea"; walk_at "rcn") | (apply en_revO; rfl) | (apply en_revL; walk_at "ee"))
local macro_rules | `(tactic| walk_at "ex") => `(tactic| first | exact ex_nil | (apply ex_n; walk_at "en"; (intro _ z; cases z); walk_at "ex") | (apply ex_t; walk_at "ee"; walk_at "ex"))
local macro_rules | `(tactic| walk_at "eo") => `(tactic| first | exact eo_no | (apply eo_part; walk_at "ee"))
local macro_rules | `(tactic| walk_at "gg") => `(tactic| first | exact gg_name rfl rfl | exact gg_name rfl (by assumption) | (apply gg_tup; walk_at "ggs"; rfl) | (apply gg_lst; walk_at "ggs"; rfl))
local macro_rules | `(tactic| walk_at "ggs") => `(tactic| first | exact ggs_nil | (apply ggs_cons; walk_at "gg"; walk_at "ggs"))
local macro_rules | `(tactic| walk_at "ei") => `(tactic| first | (apply ei_rangeL1; walk_at "ea") | (apply ei_rangeL2; walk_at "ea") | (apply ei_tup; walk_at "ee") | (apply ei_list; walk_at "ee"))
local macro_rules | `(tactic| walk_at "ee") => `(tactic| first
  | exact ee_var rfl
  | exact ee_int
  | exact ee_bl
  | exact ee_non
  | exact ee_str
  | (apply ee_ixO rfl; walk_at "ee"; rfl; first | rfl | assumption)
  | (apply ee_op; walk_at "ee"; walk_at "ee"; walk_at "rr")
  | (apply ee_tup; walk_at "ea"; walk_at "sd")
  | (apply ee_call; walk_at "ea"; walk_at "fn")
  | (apply ee_isi; walk_at "ee"; rfl; rfl)
  | exact ee_lenO rfl
  | exact ee_tupleO rfl
  | (apply ee_cb; walk_at "ea"; walk_at "rc")
  | (apply ee_andP; walk_at "ee"; walk_at "ee")
  | (apply ee_orP; walk_at "ee"; walk_at "ee")
  | (apply ee_notV; walk_at "ee")
  | (apply ee_neg; walk_at "ee")
  | (apply ee_revT; walk_at "ee")
  | (apply ee_slT; walk_at "ee"; walk_at "eo"; walk_at "eo"; walk_at "sd")
  | (apply EN.tree; walk_at "en"))
local macro_rules | `(tactic| walk_at "asg") => `(tactic| (apply sd_seq; apply sd_asg; apply ed_of; walk_at "ee"; refine ⟨⟨_, rfl, rfl⟩, ?_⟩))
local macro_rules | `(tactic| walk_at "asgN") => `(tactic| (apply sd_seq; apply sd_of; apply ss_asgN; walk_at "en"; rfl; rfl))
local macro_rules | `(tactic| walk_at "asgG") => `(tactic| (apply sd_seq; apply sd_of; apply ss_asgG; walk_at "ee"; walk_at "gg"))
local macro_rules | `(tactic| walk_at "par") => `(tactic| (apply sd_seq; apply sd_of; apply ss_parX; walk_at "ex"; decide; rfl; rfl; rfl; rfl))
local macro_rules | `(tactic| walk_at "par3") => `(tactic| (apply sd_seq; apply sd_of; apply ss_par3X; walk_at "ex"; decide; decide; decide; rfl; rfl; rfl; rfl; rfl; rfl))
local macro_rules | `(tactic| walk_at "ret") => `(tactic| (apply sd_ret; apply ed_of; walk_at "ee"))
local macro_rules | `(tactic| walk_at "no") => `(tactic| (apply sd_seq; apply sd_if; apply td_of; walk_at "et"))
local macro_rules | `(tactic| walk_at "drop") => `(tactic| (apply sd_seq; apply sd_drop; apply ed_of; walk_at "ee"))
local macro_rules | `(tactic| walk_at "fn") => `(tactic| exact r_is_integer)
local macro_rules | `(tactic| walk_at "fn") => `(tactic| exact r_is_natural)
local macro_rules | `(tactic| walk_at "fn") => `(tactic| exact r_is_below)
local macro_rules | `(tactic| walk_at "fn") => `(tactic| exact r_is_pair)
local macro_rules | `(tactic| walk_at "fn") => `(tactic| (apply r_power; walk_at "sd"))
local macro_rules | `(tactic| walk_at "fn") => `(tactic| (apply r_is_cell_below; walk_at "sd"))
local macro_rules | `(tactic| walk_at "fn") => `(tactic| (apply r_is_posture; walk_at "sd"; walk_at "sd"))
local macro_rules | `(tactic| walk_at "fn") => `(tactic| exact r_posed)
local macro_rules | `(tactic| walk_at "fn") => `(tactic| (apply r_is_part; assumption))
local macro_rules | `(tactic| walk_at "fn") => `(tactic| (apply r_is_kind_of; assumption; assumption))
local macro_rules | `(tactic| walk_at "fn") => `(tactic| (apply r_is_book; assumption))
local macro_rules | `(tactic| walk_at "fn") => `(tactic| (apply r_check_book; assumption))
local macro_rules | `(tactic| walk_at "fn") => `(tactic| (apply r_check_kind; assumption))
local macro_rules | `(tactic| walk_at "fn") => `(tactic| (apply r_turned_of; assumption))
local macro_rules | `(tactic| walk_at "fn") => `(tactic| (apply r_check_posture; assumption; assumption))
local macro_rules | `(tactic| walk_at "fn") => `(tactic| (apply r_turned; assumption; assumption; assumption))
local macro_rules | `(tactic| walk_at "fn") => `(tactic| (apply r_backward_of; assumption))
local macro_rules | `(tactic| walk_at "fn") => `(tactic| (apply r_backward; assumption))
local macro_rules | `(tactic| walk_at "fn") => `(tactic| exact r_check_depth)
local macro_rules | `(tactic| walk_at "fn") => `(tactic| exact r_check_many)
local macro_rules | `(tactic| walk_at "fn") => `(tactic| (apply r_cells_each_way; assumption))
local macro_rules | `(tactic| walk_at "fn") => `(tactic| (apply r_how_many_cells; assumption))
local macro_rules | `(tactic| walk_at "fn") => `(tactic| (apply r_check_cell; assumption; assumption))
local macro_rules | `(tactic| walk_at "fn") => `(tactic| (apply r_check_number; assumption; walk_at "sd"))
local macro_rules | `(tactic| walk_at "fn") => `(tactic| (apply r_way_to; assumption; assumption; assumption; assumption))
local macro_rules | `(tactic| walk_at "fn") => `(tactic| (apply r_number_in; assumption; assumption; assumption; assumption))
local macro_rules | `(tactic| walk_at "fn") => `(tactic| (apply r_number_of; assumption; assumption; assumption))
local macro_rules | `(tactic| walk_at "fn") => `(tactic| (apply r_cell_in; assumption; assumption; assumption; assumption))
local macro_rules | `(tactic| walk_at "fn") => `(tactic| (apply r_cell_of; assumption; assumption; assumption))
local macro_rules | `(tactic| walk_at "fn") => `(tactic| (apply r_kinds_on; assumption; assumption; assumption))
local macro_rules | `(tactic| walk_at "fn") => `(tactic| (apply r_thread_of; assumption; assumption; assumption; assumption))
local macro_rules | `(tactic| walk_at "fn") => `(tactic| (apply r_thread; assumption; assumption; assumption; assumption))
local macro_rules | `(tactic| walk_at "fn") => `(tactic| (apply r_first_cell; assumption; assumption))
local macro_rules | `(tactic| walk_at "fn") => `(tactic| (apply r_last_cell; assumption; assumption))
local macro_rules | `(tactic| walk_at "fn") => `(tactic| (apply r_whole; assumption; assumption; assumption))
local macro_rules | `(tactic| walk_at "fn") => `(tactic| (apply r_numbered; assumption; assumption))
local macro_rules | `(tactic| walk_at "fn") => `(tactic| (apply r_begun_of; assumption; assumption))
local macro_rules | `(tactic| walk_at "fn") => `(tactic| (apply r_begun_at; assumption; assumption))
section
variable {P : Program} {w : World} {K : PySem.W.Frag} {mg : Str → Option Value} {base : Heap}
/-! ### the law's own: pot, draws -/
def pot0 (l : List Int) : Pot := ⟨l, 0, 0, 17, 0⟩
def f_law_pot : List D → Ct → Prop := fun ds c => ∃ l : List Int, ds = [.list (l.map PyData.int)] ∧ c = potC (pot0 l)
theorem ok_law_pot (c : Cn K mg base) : Has P w K mg base "_law_pot" 1 ps_law_pot (spW K f_law_pot) := by
  refine mk_law_pot c fun fd F => fn_new F sc_law_pot (fun ds d h => by obtain ⟨_, rfl, _⟩ := h; rfl) fun cdv A outer s H E hr => ?_
  refine ⟨_, (pss_one (ps_ret (pe_disp (pps_cons pe_str (pe_callTy (cList K rfl) (by rfl) c.f_list b_list (pa_cons (pv 0) pa_nil)) (pps_cons pe_str pe_int (pps_cons pe_str pe_int (pps_cons pe_str pe_int (pps_cons pe_str pe_int (pps_cons pe_str pe_int pps_nil)))))) rfl rfl (by simp) (by decide)))), ?_⟩
  rintro ds r ⟨l, rfl, rfl⟩
  show SN K _ [.d (.list (l.map PyData.int))] _
  refine sn_ret (e1 := [.d (.list (l.map PyData.int))]) ?_
  refine en_disp (kvs := potL (pot0 l)) ?_ (show 6 ≤ 15 by decide)
  refine eps_cons (k := kS "cells") ee_str (e2 := [.d (.list (l.map PyData.int))]) ?_ ?_
  · walk_at "ee"
  exact eps_cons (k := kS "at") ee_str ee_int (eps_cons (k := kS "rest") ee_str ee_int (eps_cons (k := kS "mix") ee_str ee_int (eps_cons (k := kS "turn") ee_str ee_int (eps_cons (k := kS "some") ee_str ee_int eps_nil))))
def PreDraw : Ct → List D → Prop := fun c ds => ∃ (p : Pot) (many : Nat), c = potC p ∧ PotOk p ∧ ds = [.int many] ∧ 0 < many ∧ many < 2 ^ 8500
def PostDraw : Ct → List D → Ct → D → Prop := fun c ds c' d => ∃ (p : Pot) (many : Nat), c = potC p ∧ ds = [.int many] ∧ c' = potC (drawP p many) ∧ d = .int (drawV p many : Nat)
theorem map_int_inj : ∀ {l l' : List Int}, l.map PyData.int = l'.map PyData.int → l = l'
  | [], [], _ => rfl
  | [], _ :: _, h => by cases h
  | _ :: _, [], h => by cases h
  | a :: l, b :: l', h => by
    rw [List.map_cons, List.map_cons] at h
    injection h with h1 h2
    injection h1 with h1
    rw [h1, map_int_inj h2]
theorem potC_inj {p q : Pot} (h : potC p = potC q) : p = q := by
  unfold potC potL at h
  injection h with h
  injection h with h1 h
  injection h with h2 h
  injection h with h3 h
  injection h with h4 h
  injection h with h5 h
  have e1 := map_int_inj (PyData.list.inj (Prod.mk.inj h1).2)
  have e2 := PyData.int.inj (Prod.mk.inj h2).2
  have e3 := PyData.int.inj (Prod.mk.inj h3).2
  have e4 := PyData.int.inj (Prod.mk.inj h4).2
  have e5 := PyData.int.inj (Prod.mk.inj h5).2
  cases p; cases q
  simp only [Pot.mk.injEq] at *
  exact ⟨e1, by omega, e3, e4, e5⟩
theorem post_draw {p : Pot} {many : Nat} {c2 : Ct} {d2 : D} (h : PostDraw (potC p) [.int many] c2 d2) : c2 = potC (drawP p many) ∧ d2 = .int (drawV p many : Nat) := by
  obtain ⟨q, m, h1, h2, h3, h4⟩ := h
  have e := potC_inj h1
  subst e
  injection h2 with h2 _
  injection h2 with h2
  have e : many = m := by omega
  subst e
  exact ⟨h3, h4⟩
theorem ee_draw {env : Fl.Env} {i : Nat} {pm : Bool} {p : Pot} {many : Nat} {te : TE} (h0 : env[i]? = some (.o pm (potC p))) (h : EE K te env env (.int (many : Nat))) (hp : PotOk p) (h1 : 0 < many) (h2 : many < 2 ^ 8500) :
    EE K (tCall (spN K PreDraw PostDraw) [] E0 (tCons (tVar i) (tCons te tNil))) env (env.set i (.o pm (potC (drawP p many)))) (.int (drawV p many : Nat)) :=
  ee_callF h0 (ea_consP h ea_nil) h0 ⟨p, many, rfl, hp, rfl, h1, h2⟩ fun _ _ => post_draw
theorem atI_getD {l : List Int} {n : Nat} (h : n < l.length) : atI (l.map PyData.int) (n : Int) = some (.int (l.getD n 0)) := Bk.atI_nat (by rw [List.getElem?_map, List.getElem?_eq_getElem h, getD_of (List.getElem?_eq_getElem h)]; rfl)
theorem pow18 : CPow 10 18 := ⟨by decide, by decide, by decide⟩
theorem divC {i : Int} {n : Nat} (h0 : 0 < n) (h : n < 2 ^ 30) : CDivW i (n : Int) := wide_div (i := i) (b := 30) (by omega) (by rw [Int.natAbs_natCast]; exact h) (by decide) (by decide)
theorem ok_law_draw (c : Cn K mg base) : Has P w K mg base "_law_draw" 1 ps_law_draw (spN K PreDraw PostDraw) := by
  refine mk_law_draw c fun fd F => fn_N F sc_law_draw (fun c ds h => by obtain ⟨_, _, _, _, rfl, _⟩ := h; rfl) fun cdv A outer s H E hr => ?_
  refine ⟨_, (pss_cons (ps_if (pw_and (pt_cmpR op_eq (pe_dget (hu_of hr) (pv 0) pe_str (fun _ _ => rfl)) pe_int (nomark _)) (pw_and1 (pt_cmpR op_lt (pe_dget (hu_of hr) (pv 0) pe_str (fun _ _ => rfl)) (pe_callB (cLen K rfl) (by rfl) c.f_len b_len (pa_cons (pe_dget (hu_of hr) (pv 0) pe_str (fun _ _ => rfl)) pa_nil)) (nomark _)))).pt (pss_cons (ps_set (i := 3) sc_law_draw.nd rfl (by first | exact Or.inl rfl | exact Or.inr rfl) (pe_ix (ixL K rfl) (pe_dget (hu_of hr) (pv 0) pe_str (fun _ _ => rfl)) (pe_dget (hu_of hr) (pv 0) pe_str (fun _ _ => rfl)) (fun _ _ => rfl)))
    (pss_cons (ps_daug (hu_of hr) (pv 0) pe_str pe_int in_add (fun _ _ _ => rfl))
    (pss_one (ps_if (pt_cmpR op_ge (pv 3) (pe_op op_pow pe_int pe_int) (nomark _)) (pss_one (ps_dput (hu_of hr) (pv 0) pe_str (pe_op op_sub (pv 3) (pe_op op_pow pe_int pe_int)) rfl)) (pss_one (ps_dput (hu_of hr) (pv 0) pe_str (pe_op op_mod (pe_callTy call_int1 (by rfl) c.f_int b_int (pa_cons (pe_op op_add (pe_op op_add (pe_op op_mul (pe_dget (hu_of hr) (pv 0) pe_str (fun _ _ => rfl)) pe_int) (pe_op op_mul (pv 3) pe_int)) pe_int) pa_nil)) pe_int) rfl)))))) pss_nil)
    (pss_cons (ps_if (pt_cmpR op_gt (pe_dget (hu_of hr) (pv 0) pe_str (fun _ _ => rfl)) pe_int (nomark _)) (pss_cons (ps_set (i := 4) sc_law_draw.nd rfl (by first | exact Or.inl rfl | exact Or.inr rfl) (pe_op op_mod (pe_callTy call_int1 (by rfl) c.f_int b_int (pa_cons (pe_dget (hu_of hr) (pv 0) pe_str (fun _ _ => rfl)) pa_nil)) (pv 1)))
    (pss_cons (ps_dput (hu_of hr) (pv 0) pe_str (pe_op op_fdivW (pe_dget (hu_of hr) (pv 0) pe_str (fun _ _ => rfl)) (pv 1)) rfl)
    (pss_one (ps_ret (pv 4))))) pss_nil)
    (pss_cons (ps_daug (hu_of hr) (pv 0) pe_str pe_int in_add (fun _ _ _ => rfl))
    (pss_cons (ps_dput (hu_of hr) (pv 0) pe_str (pe_op op_mod (pe_callTy call_int1 (by rfl) c.f_int b_int (pa_cons (pe_op op_add (pe_op op_mul (pe_dget (hu_of hr) (pv 0) pe_str (fun _ _ => rfl)) pe_int) (pe_op op_mul pe_int (pe_dget (hu_of hr) (pv 0) pe_str (fun _ _ => rfl)))) pa_nil)) pe_int) rfl)
    (pss_cons (ps_set (i := 2) sc_law_draw.nd rfl (by first | exact Or.inl rfl | exact Or.inr rfl) (pe_op op_mod (pe_callTy call_int1 (by rfl) c.f_int b_int (pa_cons (pe_op op_add (pe_op op_fdivW (pe_op op_mulW (pe_dget (hu_of hr) (pv 0) pe_str (fun _ _ => rfl)) (pe_dget (hu_of hr) (pv 0) pe_str (fun _ _ => rfl))) pe_int) (pe_dget (hu_of hr) (pv 0) pe_str (fun _ _ => rfl))) pa_nil)) pe_int))
    (pss_one (ps_ret (pe_op op_mod (pe_callTy call_int1 (by rfl) c.f_int b_int (pa_cons (pe_op op_fdivW (pv 2) pe_int) pa_nil)) (pv 1))))))))), ?_⟩
  rintro c ds ⟨p, many, rfl, hp, rfl, hm0, hm1⟩
  show SD K _ [.o true (.dk (potL p)), .d (.int (many : Nat)), .any, .any, .any] _
  have hmd : CDivW 0 (many : Int) := wide_div (i := 0) (b := 8500) (by omega) (by rw [Int.natAbs_natCast]; exact hm1) (by decide) (by decide)
  have hm2 : (0 : Int) < many := by omega
  refine sd_mid (fun e => ∃ v, S.isPm v = false ∧ e = [.o true (.dk (potL (Bk.fill p))), .d (.int (many : Nat)), .any, v, .any]) ?_ ?_
  · apply sd_if
    apply td_of
    · apply et_andP
      · apply et_test
        exact ee_opP (ee_dget (k := kS "rest") rfl ee_str rfl look_rest) ee_int rr_eqI
      · apply et_test
        refine ee_opP (ee_dget (k := kS "at") rfl ee_str rfl look_at) (ee_cb (ea_consP (ee_dget (k := kS "cells") rfl ee_str rfl look_cells) ea_nil) (rc_len rfl)) rr_b
    rw [List.length_map]
    by_cases hc : p.rest = 0 ∧ p.at_ < p.cells.length
    · have e1 : (decide (p.rest = 0) && decide ((p.at_ : Int) < (p.cells.length : Nat))) = true := by
        have : (p.at_ : Int) < (p.cells.length : Nat) := by omega
        simp [hc.1, hc.2]
      rw [if_pos e1]
      show SD K _ _ _
      have hget := atI_getD hc.2
      apply sd_seq; apply sd_asg; apply ed_of
      · exact ee_opP (ee_dget (k := kS "cells") rfl ee_str rfl look_cells) (ee_dget (k := kS "at") rfl ee_str rfl look_at) (rr_ixL hget)
      refine ⟨⟨_, rfl, rfl⟩, ?_⟩
      apply sd_seq; apply sd_of
      · exact ss_daug (k := kS "at") rfl ee_str look_at ee_int (show 6 ≤ 1000000 by decide)
      have eat : ((p.at_ : Nat) : Int) + 1 = ((p.at_ + 1 : Nat) : Int) := by omega
      rw [eat, put_at]
      apply sd_if
      apply td_of
      · apply et_test
        exact ee_opP (ee_var rfl) (ee_opP ee_int ee_int (rr_ic pow18)) rr_b
      have e18 : ((10 : Int) ^ (18 : Int).toNat) = 10 ^ 18 := rfl
      rw [e18]
      by_cases hb : p.cells.getD p.at_ 0 ≥ 10 ^ 18
      · rw [if_pos (decide_eq_true hb)]
        apply sd_of
        · exact ss_dput (k := kS "rest") (ee_opP (ee_var rfl) (ee_opP ee_int ee_int (rr_ic pow18)) rr_i) rfl ee_str (show 6 ≤ 1000000 by decide)
        rw [e18, put_rest]
        refine ⟨.d (.int (p.cells.getD p.at_ 0)), rfl, ?_⟩
        unfold Bk.fill
        rw [if_pos hc, if_pos hb]; rfl
      · rw [if_neg (by simpa using hb)]
        apply sd_of
        · refine ss_dput (k := kS "mix") (ee_opP (x := .int (p.mix * 31 + p.cells.getD p.at_ 0 * 7 + 1)) (ee_cb (ea_consP ?_ ea_nil) rc_int1) ee_int (rr_ic (by decide))) rfl ee_str (show 6 ≤ 1000000 by decide)
          refine ee_opP (ee_opP (ee_opP (ee_dget (k := kS "mix") rfl ee_str rfl look_mix) ee_int (rr_ic (Or.inr (by decide)))) (ee_opP (ee_var rfl) ee_int (rr_ic (Or.inr (by decide)))) rr_i) ee_int rr_i
        rw [put_mix]
        refine ⟨.d (.int (p.cells.getD p.at_ 0)), rfl, ?_⟩
        unfold Bk.fill
        rw [if_pos hc, if_neg hb]; rfl
    · have e1 : (decide (p.rest = 0) && decide ((p.at_ : Int) < (p.cells.length : Nat))) = false := by
        rw [Bool.and_eq_false_iff]
        by_cases h0 : p.rest = 0
        · right
          have : ¬ ((p.at_ : Int) < (p.cells.length : Nat)) := fun z => hc ⟨h0, by omega⟩
          exact decide_eq_false this
        · left
          exact decide_eq_false h0
      rw [if_neg (by rw [e1]; exact Bool.false_ne_true)]
      apply sd_next
      refine ⟨.any, rfl, ?_⟩
      unfold Bk.fill
      rw [if_neg hc]
  rintro e ⟨v, hv, rfl⟩
  have hfo := fill_ok hp
  generalize hq : Bk.fill p = q at hfo ⊢
  apply sd_seq
  apply sd_if
  apply td_of
  · apply et_test
    exact ee_opP (ee_dget (k := kS "rest") rfl ee_str rfl look_rest) ee_int rr_b
  by_cases hpos : q.rest > 0
  · rw [if_pos (decide_eq_true hpos)]
    apply sd_seq; apply sd_asg; apply ed_of
    · exact ee_opP (ee_cb (ea_consP (ee_dget (k := kS "rest") rfl ee_str rfl look_rest) ea_nil) rc_int1) (ee_var rfl) (rr_ic hm2)
    refine ⟨⟨_, rfl, rfl⟩, ?_⟩
    apply sd_seq; apply sd_of
    · exact ss_dput (k := kS "rest") (ee_opP (ee_dget (k := kS "rest") rfl ee_str rfl look_rest) (ee_var rfl) (rr_ic hmd)) rfl ee_str (show 6 ≤ 1000000 by decide)
    rw [put_rest]
    apply sd_ret; apply ed_of (ee_var rfl)
    refine ⟨potC { q with rest := q.rest / many }, rfl, p, many, rfl, rfl, ?_, ?_⟩
    · unfold drawP
      rw [hq, if_pos hpos]
    · unfold drawV
      rw [hq, if_pos hpos]
      have := Int.emod_nonneg q.rest (show (many : Int) ≠ 0 by omega)
      rw [Int.toNat_of_nonneg this]
  · rw [if_neg (by simpa using hpos)]
    apply sd_next
    apply sd_seq; apply sd_of
    · exact ss_daug (k := kS "turn") rfl ee_str look_turn ee_int (show 6 ≤ 1000000 by decide)
    rw [put_turn]
    apply sd_seq; apply sd_of
    · refine ss_dput (k := kS "mix") (ee_opP (x := .int (q.mix * 279470273 + 104729 * (q.turn + 1))) (ee_cb (ea_consP ?_ ea_nil) rc_int1) ee_int (rr_ic (by decide))) rfl ee_str (show 6 ≤ 1000000 by decide)
      exact ee_opP (ee_opP (ee_dget (k := kS "mix") rfl ee_str rfl look_mix) ee_int (rr_ic (Or.inr (by decide)))) (ee_opP ee_int (ee_dget (k := kS "turn") rfl ee_str rfl look_turn) (rr_ic (Or.inl (by decide)))) rr_i
    rw [put_mix]
    show SD K _ [.o true (.dk (potL (stir q))), .d (.int (many : Nat)), .any, v, .any] _
    have hs : PotOk (stir q) := stir_ok hfo
    have hmx : CMulW (stir q).mix (stir q).mix := by
      have h1 := hs.mix
      have h2 : (stir q).mix.natAbs < 2 ^ 33 := by omega
      exact wide_mul h2 h2 (by decide) (by decide) (by decide)
    apply sd_seq; apply sd_asg; apply ed_of
    · refine ee_opP (x := .int ((stir q).mix * (stir q).mix / 1009 + (stir q).mix)) (ee_cb (ea_consP ?_ ea_nil) rc_int1) ee_int (rr_ic (by decide))
      exact ee_opP (ee_opP (ee_opP (ee_dget (k := kS "mix") rfl ee_str rfl look_mix) (ee_dget (k := kS "mix") rfl ee_str rfl look_mix) (rr_ic hmx)) ee_int (rr_ic (divC (n := 1009) (by decide) (by decide)))) (ee_dget (k := kS "mix") rfl ee_str rfl look_mix) rr_i
    refine ⟨⟨_, rfl, rfl⟩, ?_⟩
    apply sd_ret; apply ed_of
    · exact ee_opP (ee_cb (ea_consP (ee_opP (ee_var rfl) ee_int (rr_ic (divC (n := 5) (by decide) (by decide)))) ea_nil) rc_int1) (ee_var rfl) (rr_ic hm2)
    refine ⟨potC (stir q), rfl, p, many, rfl, rfl, ?_, ?_⟩
    · unfold drawP
      rw [hq, if_neg hpos]
    · unfold drawV
      rw [hq, if_neg hpos]
      have := Int.emod_nonneg (mixed (stir q) / 5) (show (many : Int) ≠ 0 by omega)
      rw [Int.toNat_of_nonneg this]
      rfl
end
end K20
set_option autoImplicit false
set_option Elab.async false
set_option linter.all false
set_option maxRecDepth 100000
set_option maxHeartbeats 4000000
namespace K20
open PySem PySem.Spec PyProof.Rows L2 Fl Bk
local macro_rules | `(tactic| walk_at "sd") => `(tactic| first | assumption | rfl | omega | exact Nat.le_of_ble_eq_true rfl | (constructor <;> omega) | decide | (left; constructor <;> omega) | (right; constructor <;> omega))
local macro_rules | `(tactic| walk_at "fn") => `(tactic| fail "fn")
local macro_rules | `(tactic| walk_at "rc") => `(tactic| first | exact rc_len rfl | exact rc_tuple rfl | exact rc_all | exact rc_any | exact rc_sum | exact rc_int1 | exact rc_min2 | exact rc_max2)
local macro_rules | `(tactic| walk_at "rcn") => `(tactic| first | exact rcn_list rfl)
local macro_rules | `(tactic| walk_at "rr") => `(tactic| first | exact rr_i | exact rr_b | exact rr_eqI | exact rr_neI | exact rr_eqB | exact rr_neB | exact rr_eqS | exact rr_neS | (apply rr_ixT; first | rfl | assumption) | (apply rr_ixL; first | rfl | assumption) | (apply rr_ic; walk_at "sd") | (apply rr_catT; first | (exact List.cons_ne_nil _ _) | assumption; walk_at "sd"))
local macro_rules | `(tactic| walk_at "ea") => `(tactic| first | exact ea_nil | (apply ea_cons; walk_at "ee"; walk_at "ea"))
local macro_rules | `(tactic| walk_at "et") => `(tactic| first | (apply et_test; walk_at "ee") | (apply et_B; walk_at "ee") | (apply et_not; walk_at "et") | exact et_yes | (apply et_andP; walk_at "et"; walk_at "et") | (apply et_orP; walk_at "et"; walk_at "et"))
local macro_rules | `(tactic| walk_at "en") => `(tactic| first | (apply en_lst; walk_at "ea"; walk_at "sd") | (apply en_cb; walk_at "ea"; walk_at "rcn") | (apply en_revO; rfl) | (apply en_revL; walk_at "ee"))
local macro_rules | `(tactic| walk_at "ex") => `(tactic| first | exact ex_nil | (apply ex_n; walk_at "en"; (intro _ z; cases z); walk_at "ex") | (apply ex_t; walk_at "ee"; walk_at "ex"))
local macro_rules | `(tactic| walk_at "eo") => `(tactic| first | exact eo_no | (apply eo_part; walk_at "ee"))
local macro_rules | `(tactic| walk_at "gg") => `(tactic| first | exact gg_name rfl rfl | exact gg_name rfl (by assumption) | (apply gg_tup; walk_at "ggs"; rfl) | (apply gg_lst; walk_at "ggs"; rfl))
local macro_rules | `(tactic| walk_at "ggs") => `(tactic| first | exact ggs_nil | (apply ggs_cons; walk_at "gg"; walk_at "ggs"))
local macro_rules | `(tactic| walk_at "ei") => `(tactic| first | (apply ei_rangeL1; walk_at "ea") | (apply ei_rangeL2; walk_at "ea") | (apply ei_tup; walk_at "ee") | (apply ei_list; walk_at "ee"))
local macro_rules | `(tactic| walk_at "ee") => `(tactic| first
  | exact ee_var rfl
  | exact ee_int
  | exact ee_bl
  | exact ee_non
  | exact ee_str
  | (apply ee_ixO rfl; walk_at "ee"; rfl; first | rfl | assumption)
  | (apply ee_op; walk_at "ee"; walk_at "ee"; walk_at "rr")
  | (apply ee_tup; walk_at "ea"; walk_at "sd")
  | (apply ee_call; walk_at "ea"; walk_at "fn")
  | (apply ee_isi; walk_at "ee"; rfl; rfl)
  | exact ee_lenO rfl
  | exact ee_tupleO rfl
  | (apply ee_cb; walk_at "ea"; walk_at "rc")
  | (apply ee_andP; walk_at "ee"; walk_at "ee")
  | (apply ee_orP; walk_at "ee"; walk_at "ee")
  | (apply ee_notV; walk_at "ee")
  | (apply ee_neg; walk_at "ee")
  | (apply ee_revT; walk_at "ee")
  | (apply ee_slT; walk_at "ee"; walk_at "eo"; walk_at "eo"; walk_at "sd")
  | (apply EN.tree; walk_at "en"))
local macro_rules | `(tactic| walk_at "asg") => `(tactic| (apply sd_seq; apply sd_asg; apply ed_of; walk_at "ee"; refine ⟨⟨_, rfl, rfl⟩, ?_⟩))
local macro_rules | `(tactic| walk_at "asgN") => `(tactic| (apply sd_seq; apply sd_of; apply ss_asgN; walk_at "en"; rfl; rfl))
local macro_rules | `(tactic| walk_at "asgG") => `(tactic| (apply sd_seq; apply sd_of; apply ss_asgG; walk_at "ee"; walk_at "gg"))
local macro_rules | `(tactic| walk_at "par") => `(tactic| (apply sd_seq; apply sd_of; apply ss_parX; walk_at "ex"; decide; rfl; rfl; rfl; rfl))
local macro_rules | `(tactic| walk_at "par3") => `(tactic| (apply sd_seq; apply sd_of; apply ss_par3X; walk_at "ex"; decide; decide; decide; rfl; rfl; rfl; rfl; rfl; rfl))
local macro_rules | `(tactic| walk_at "ret") => `(tactic| (apply sd_ret; apply ed_of; walk_at "ee"))
local macro_rules | `(tactic| walk_at "no") => `(tactic| (apply sd_seq; apply sd_if; apply td_of; walk_at "et"))
local macro_rules | `(tactic| walk_at "drop") => `(tactic| (apply sd_seq; apply sd_drop; apply ed_of; walk_at "ee"))
local macro_rules | `(tactic| walk_at "fn") => `(tactic| exact r_is_integer)
local macro_rules | `(tactic| walk_at "fn") => `(tactic| exact r_is_natural)
local macro_rules | `(tactic| walk_at "fn") => `(tactic| exact r_is_below)
local macro_rules | `(tactic| walk_at "fn") => `(tactic| exact r_is_pair)
local macro_rules | `(tactic| walk_at "fn") => `(tactic| (apply r_power; walk_at "sd"))
local macro_rules | `(tactic| walk_at "fn") => `(tactic| (apply r_is_cell_below; walk_at "sd"))
local macro_rules | `(tactic| walk_at "fn") => `(tactic| (apply r_is_posture; walk_at "sd"; walk_at "sd"))
local macro_rules | `(tactic| walk_at "fn") => `(tactic| exact r_posed)
local macro_rules | `(tactic| walk_at "fn") => `(tactic| (apply r_is_part; assumption))
local macro_rules | `(tactic| walk_at "fn") => `(tactic| (apply r_is_kind_of; assumption; assumption))
local macro_rules | `(tactic| walk_at "fn") => `(tactic| (apply r_is_book; assumption))
local macro_rules | `(tactic| walk_at "fn") => `(tactic| (apply r_check_book; assumption))
local macro_rules | `(tactic| walk_at "fn") => `(tactic| (apply r_check_kind; assumption))
local macro_rules | `(tactic| walk_at "fn") => `(tactic| (apply r_turned_of; assumption))
local macro_rules | `(tactic| walk_at "fn") => `(tactic| (apply r_check_posture; assumption; assumption))
local macro_rules | `(tactic| walk_at "fn") => `(tactic| (apply r_turned; assumption; assumption; assumption))
local macro_rules | `(tactic| walk_at "fn") => `(tactic| (apply r_backward_of; assumption))
local macro_rules | `(tactic| walk_at "fn") => `(tactic| (apply r_backward; assumption))
local macro_rules | `(tactic| walk_at "fn") => `(tactic| exact r_check_depth)
local macro_rules | `(tactic| walk_at "fn") => `(tactic| exact r_check_many)
local macro_rules | `(tactic| walk_at "fn") => `(tactic| (apply r_cells_each_way; assumption))
local macro_rules | `(tactic| walk_at "fn") => `(tactic| (apply r_how_many_cells; assumption))
local macro_rules | `(tactic| walk_at "fn") => `(tactic| (apply r_check_cell; assumption; assumption))
local macro_rules | `(tactic| walk_at "fn") => `(tactic| (apply r_check_number; assumption; walk_at "sd"))
local macro_rules | `(tactic| walk_at "fn") => `(tactic| (apply r_way_to; assumption; assumption; assumption; assumption))
local macro_rules | `(tactic| walk_at "fn") => `(tactic| (apply r_number_in; assumption; assumption; assumption; assumption))
local macro_rules | `(tactic| walk_at "fn") => `(tactic| (apply r_number_of; assumption; assumption; assumption))
local macro_rules | `(tactic| walk_at "fn") => `(tactic| (apply r_cell_in; assumption; assumption; assumption; assumption))
local macro_rules | `(tactic| walk_at "fn") => `(tactic| (apply r_cell_of; assumption; assumption; assumption))
local macro_rules | `(tactic| walk_at "fn") => `(tactic| (apply r_kinds_on; assumption; assumption; assumption))
local macro_rules | `(tactic| walk_at "fn") => `(tactic| (apply r_thread_of; assumption; assumption; assumption; assumption))
local macro_rules | `(tactic| walk_at "fn") => `(tactic| (apply r_thread; assumption; assumption; assumption; assumption))
local macro_rules | `(tactic| walk_at "fn") => `(tactic| (apply r_first_cell; assumption; assumption))
local macro_rules | `(tactic| walk_at "fn") => `(tactic| (apply r_last_cell; assumption; assumption))
local macro_rules | `(tactic| walk_at "fn") => `(tactic| (apply r_whole; assumption; assumption; assumption))
local macro_rules | `(tactic| walk_at "fn") => `(tactic| (apply r_numbered; assumption; assumption))
local macro_rules | `(tactic| walk_at "fn") => `(tactic| (apply r_begun_of; assumption; assumption))
local macro_rules | `(tactic| walk_at "fn") => `(tactic| (apply r_begun_at; assumption; assumption))
section
variable {P : Program} {w : World} {K : PySem.W.Frag} {mg : Str → Option Value} {base : Heap}
/-! ### the law's own: the same -/
mutual
def okT : Nat → D → Bool
  | 0, _ => false
  | _ + 1, .int _ => true
  | _ + 1, .bool _ => true
  | _ + 1, .str _ => true
  | n + 1, .list xs => decide (xs.length ≤ 1000000) && okTs n xs
  | n + 1, .tuple xs => decide (xs.length ≤ 1000000) && okTs n xs
  | _ + 1, _ => false
def okTs : Nat → List D → Bool
  | _, [] => true
  | n, x :: xs => okT n x && okTs n xs
end
theorem okTs_iff {n : Nat} : ∀ {xs : List D}, okTs n xs = true ↔ ∀ x ∈ xs, okT n x = true
  | [] => by simp [okTs]
  | x :: xs => by rw [okTs, Bool.and_eq_true, okTs_iff]; simp
def f_law_same (n : Nat) : List D → D → Prop := fun ds d => ∃ t : D, ds = [t, t] ∧ okT n t = true ∧ d = .bool true
theorem r_law_same {n : Nat} {t : D} (h : okT n t = true) : f_law_same n [t, t] (.bool true) := ⟨t, rfl, h, rfl⟩
theorem isN_seq {x : D} {ds : List D} (h : seqOf x = some ds) : sca x = false := by cases x <;> first | rfl | cases h
theorem ok_law_same (c : Cn K mg base) : ∀ n, Has P w K mg base "_law_same" (n + 1) ps_law_same (spP K (f_law_same n))
  | 0 => mk_law_same c fun fd F => F.ok sc_law_same (fun vs H Q E h => by obtain ⟨_, _, _, _, _, ⟨_, _, h, _⟩, _⟩ := h; simp [okT] at h) fun cdv A outer s H vs Q E hr h => by obtain ⟨_, _, _, _, _, ⟨_, _, h, _⟩, _⟩ := h; simp [okT] at h
  | n + 1 => by
    have h_rec := ok_law_same c n
    refine mk_law_same c fun fd F => fn_D F sc_law_same (fun ds d h => by obtain ⟨_, rfl, _⟩ := h; rfl) fun cdv A outer s H E hr => ?_
    refine ⟨_, (pss_cons (ps_if (pw_or (pt_cmpR op_isN1 (pv 1) pe_non (nomark _)) (pw_or1 (pt_val (pe_callB (cIsi K rfl) (by rfl) c.f_isinstance b_isinstance (pa_cons (pv 1) (pa_cons (pe_bt c.f_bool b_bool) pa_nil)))))).pt (pss_one (ps_ret (pe_ifExp (pt_cmpR op_isN1 (pv 1) pe_non (nomark _)) (pe_cmpR op_isN1 (pv 0) pe_non (nomark _)) (pe_and (pe_callB (cIsi K rfl) (by rfl) c.f_isinstance b_isinstance (pa_cons (pv 0) (pa_cons (pe_bt c.f_bool b_bool) pa_nil))) (pe_one (pe_cmpR op_eq (pv 0) (pv 1) (nomark _))))))) pss_nil)
    (pss_cons (ps_if (pt_val (pe_callB (cIsi K rfl) (by rfl) c.f_isinstance b_isinstance (pa_cons (pv 1) (pa_cons (pe_bt c.f_int b_int) pa_nil)))) (pss_one (ps_ret (pe_and (pe_callB (cIsi K rfl) (by rfl) c.f_isinstance b_isinstance (pa_cons (pv 0) (pa_cons (pe_bt c.f_int b_int) pa_nil))) (pe_and (pe_not (pe_callB (cIsi K rfl) (by rfl) c.f_isinstance b_isinstance (pa_cons (pv 0) (pa_cons (pe_bt c.f_bool b_bool) pa_nil)))) (pe_one (pe_cmpR op_eq (pv 0) (pv 1) (nomark _))))))) pss_nil)
    (pss_cons (ps_if (pt_val (pe_callB (cIsi K rfl) (by rfl) c.f_isinstance b_isinstance (pa_cons (pv 1) (pa_cons (pe_bt c.f_str b_str) pa_nil)))) (pss_one (ps_ret (pe_and (pe_callB (cIsi K rfl) (by rfl) c.f_isinstance b_isinstance (pa_cons (pv 0) (pa_cons (pe_bt c.f_str b_str) pa_nil))) (pe_one (pe_cmpR op_eq (pv 0) (pv 1) (nomark _)))))) pss_nil)
    (pss_cons (ps_if (pw_or (pt_cmpR op_ne (pe_callB (cIsi K rfl) (by rfl) c.f_isinstance b_isinstance (pa_cons (pv 0) (pa_cons (pe_bt c.f_tuple b_tuple) pa_nil))) (pe_callB (cIsi K rfl) (by rfl) c.f_isinstance b_isinstance (pa_cons (pv 1) (pa_cons (pe_bt c.f_tuple b_tuple) pa_nil))) (nomark _)) (pw_or1 (pt_cmpR op_ne (pe_callB (cIsi K rfl) (by rfl) c.f_isinstance b_isinstance (pa_cons (pv 0) (pa_cons (pe_bt c.f_list b_list) pa_nil))) (pe_callB (cIsi K rfl) (by rfl) c.f_isinstance b_isinstance (pa_cons (pv 1) (pa_cons (pe_bt c.f_list b_list) pa_nil))) (nomark _)))).pt (pss_one (ps_ret pe_bl)) pss_nil)
    (pss_one (ps_ret (pe_and (pe_cmpR op_eq (pe_callB (cLen K rfl) (by rfl) c.f_len b_len (pa_cons (pv 0) pa_nil)) (pe_callB (cLen K rfl) (by rfl) c.f_len b_len (pa_cons (pv 1) pa_nil)) (nomark _)) (pe_one (pe_callB (cAll K rfl rfl) (by rfl) c.f_all b_all (pa_cons (pe_lc (own := [("at", 2)]) rfl sc_law_same.nd (FlRange.pi_rangeL1 (by rfl) c.f_range (pa_cons (pe_callB (cLen K rfl) (by rfl) c.f_len b_len (pa_cons (pv 1) pa_nil)) pa_nil)) (blkOk_by rfl) (fun _ _ _ _ _ => (pg_name (i := 2) sc_law_same.nd rfl (by first | exact Or.inl rfl | exact Or.inr rfl))) (fun _ _ _ _ _ => pts_nil) (fun _ _ _ _ _ => (pe_has h_rec hr (pa_cons (pe_ix (ixA K rfl) (pv 0) (pv 2) (fun _ _ => rfl)) (pa_cons (pe_ix (ixA K rfl) (pv 1) (pv 2) (fun _ _ => rfl)) pa_nil)) (Nat.le_refl _)))) pa_nil)))))))))), ?_⟩
    rintro ds d ⟨t, rfl, hok, rfl⟩
    show SD K _ [.d t, .d t, .any] _
    have hseq : ∀ (xs : List D), seqOf t = some xs → xs.length ≤ 1000000 → (∀ x ∈ xs, okT n x = true) → EE K (tAndV (tOp rEq (tCB (fun xs H Q => ∃ p ys, xs = [.ref p] ∧ (SqL K H p ys ∨ SqT K H p ys) ∧ Q (.int ys.length) H) (tCons (tVar 0) tNil)) (tCB (fun xs H Q => ∃ p ys, xs = [.ref p] ∧ (SqL K H p ys ∨ SqT K H p ys) ∧ Q (.int ys.length) H) (tCons (tVar 1) tNil)))
        (tCB (rAll K) (tCons (tLc (FlRange.iRngL1 (tCons (tCB (fun xs H Q => ∃ p ys, xs = [.ref p] ∧ (SqL K H p ys ∨ SqT K H p ys) ∧ Q (.int ys.length) H) (tCons (tVar 1) tNil)) tNil)) (gName 2) tYes (tCall (spP K (f_law_same n)) [] E0 (tCons (tOp (rIxA K) (tVar 0) (tVar 2)) (tCons (tOp (rIxA K) (tVar 1) (tVar 2)) tNil))) [2]) tNil))) [.d t, .d t, .any] [.d t, .d t, .any] (.bool true) := by
      intro xs hs hl hx
      refine EE.is (x := .bool (true && true)) (ee_andP ?_ ?_) rfl
      · refine ee_opP (x := .int (xs.length : Nat)) (y := .int (xs.length : Nat)) (ee_cb (ea_consP (ee_var rfl) ea_nil) (rc_len hs)) (ee_cb (ea_consP (ee_var rfl) ea_nil) (rc_len hs)) ?_
        have := rr_eqI (K := K) (i := (xs.length : Nat)) (j := (xs.length : Nat))
        rw [decide_eq_true rfl] at this
        exact this
      · refine ee_allLc (ei_rangeL1 (n := (xs.length : Nat)) (ea_consP (ee_cb (ea_consP (ee_var rfl) ea_nil) (rc_len hs)) ea_nil)) ?_ rfl ?_
        · rw [rangeD_len, Int.toNat_natCast]; exact hl
        · intro i d hd
          have hi := (List.getElem?_eq_some_iff.mp hd).1
          rw [rangeD_len] at hi
          rw [rangeD_get hi] at hd
          cases hd
          rw [Int.toNat_natCast] at hi
          have hg := List.getElem?_eq_getElem hi
          have hat : atI xs (0 + (i : Int)) = some xs[i] := by rw [Int.zero_add]; exact Bk.atI_nat hg
          refine ⟨_, _, gg_name rfl rfl, et_yes, ?_, rfl, rfl⟩
          exact ee_callP (ds := [xs[i], xs[i]]) (ea_consP (ee_opP (ee_var rfl) (ee_var rfl) (rr_ixA hs hat)) (ea_consP (ee_opP (ee_var rfl) (ee_var rfl) (rr_ixA hs hat)) ea_nil)) (r_law_same (hx _ (List.getElem_mem hi)))
    cases t with
    | none => cases hok
    | dict kvs => cases hok
    | bool b =>
      apply sd_seq; apply sd_ifT
      · apply et_orP
        · apply et_test; exact ee_opP (ee_var rfl) ee_non (rr_isN rfl (Or.inl rfl))
        · walk_at "et"
      · rfl
      apply sd_ret; apply ed_of
      · apply ee_ifF
        · apply et_test; exact ee_opP (ee_var rfl) ee_non (rr_isN rfl (Or.inl rfl))
        · rfl
        · walk_at "ee"
      · show PyData.bool _ = .bool true
        simp
    | int i =>
      apply sd_seq; apply sd_ifF
      · apply et_orP
        · apply et_test; exact ee_opP (ee_var rfl) ee_non (rr_isN rfl (Or.inl rfl))
        · walk_at "et"
      · rfl
      apply sd_next
      apply sd_seq; apply sd_ifT; walk_at "et"; rfl
      apply sd_ret; apply ed_of; walk_at "ee"
      show PyData.bool (true && (!false && decide (i = i))) = .bool true
      simp
    | str x =>
      apply sd_seq; apply sd_ifF
      · apply et_orP
        · apply et_test; exact ee_opP (ee_var rfl) ee_non (rr_isN rfl (Or.inl rfl))
        · walk_at "et"
      · rfl
      apply sd_next
      apply sd_seq; apply sd_ifF; walk_at "et"; rfl
      apply sd_next
      apply sd_seq; apply sd_ifT; walk_at "et"; rfl
      apply sd_ret; apply ed_of; walk_at "ee"
      show PyData.bool _ = .bool true
      simp
    | list xs =>
      rw [okT, Bool.and_eq_true, okTs_iff] at hok
      apply sd_seq; apply sd_ifF
      · apply et_orP
        · apply et_test; exact ee_opP (ee_var rfl) ee_non (rr_isNs rfl)
        · walk_at "et"
      · rfl
      apply sd_next
      apply sd_seq; apply sd_ifF; walk_at "et"; rfl
      apply sd_next
      apply sd_seq; apply sd_ifF; walk_at "et"; rfl
      apply sd_next
      apply sd_seq; apply sd_ifF
      · walk_at "et"
      · rfl
      apply sd_next
      apply sd_ret; apply ed_of
      · exact hseq xs rfl (of_decide_eq_true hok.1) hok.2
      · rfl
    | tuple xs =>
      rw [okT, Bool.and_eq_true, okTs_iff] at hok
      apply sd_seq; apply sd_ifF
      · apply et_orP
        · apply et_test; exact ee_opP (ee_var rfl) ee_non (rr_isNs rfl)
        · walk_at "et"
      · rfl
      apply sd_next
      apply sd_seq; apply sd_ifF; walk_at "et"; rfl
      apply sd_next
      apply sd_seq; apply sd_ifF; walk_at "et"; rfl
      apply sd_next
      apply sd_seq; apply sd_ifF
      · walk_at "et"
      · rfl
      apply sd_next
      apply sd_ret; apply ed_of
      · exact hseq xs rfl (of_decide_eq_true hok.1) hok.2
      · rfl
local macro_rules | `(tactic| walk_at "fn") => `(tactic| (apply r_law_same; assumption))
end
end K20
set_option autoImplicit false
set_option Elab.async false
set_option linter.all false
set_option maxRecDepth 100000
set_option maxHeartbeats 4000000
namespace K20
open PySem PySem.Spec PyProof.Rows L2 Fl Bk
local macro_rules | `(tactic| walk_at "sd") => `(tactic| first | assumption | rfl | omega | exact Nat.le_of_ble_eq_true rfl | (constructor <;> omega) | decide | (left; constructor <;> omega) | (right; constructor <;> omega))
local macro_rules | `(tactic| walk_at "fn") => `(tactic| fail "fn")
local macro_rules | `(tactic| walk_at "rc") => `(tactic| first | exact rc_len rfl | exact rc_tuple rfl | exact rc_all | exact rc_any | exact rc_sum | exact rc_int1 | exact rc_min2 | exact rc_max2)
local macro_rules | `(tactic| walk_at "rcn") => `(tactic| first | exact rcn_list rfl)
local macro_rules | `(tactic| walk_at "rr") => `(tactic| first | exact rr_i | exact rr_b | exact rr_eqI | exact rr_neI | exact rr_eqB | exact rr_neB | exact rr_eqS | exact rr_neS | (apply rr_ixT; first | rfl | assumption) | (apply rr_ixL; first | rfl | assumption) | (apply rr_ic; walk_at "sd") | (apply rr_catT; first | (exact List.cons_ne_nil _ _) | assumption; walk_at "sd"))
local macro_rules | `(tactic| walk_at "ea") => `(tactic| first | exact ea_nil | (apply ea_cons; walk_at "ee"; walk_at "ea"))
local macro_rules | `(tactic| walk_at "et") => `(tactic| first | (apply et_test; walk_at "ee") | (apply et_B; walk_at "ee") | (apply et_not; walk_at "et") | exact et_yes | (apply et_andP; walk_at "et"; walk_at "et") | (apply et_orP; walk_at "et"; walk_at "et"))
local macro_rules | `(tactic| walk_at "en") => `(tactic| first | (apply en_lst; walk_at "ea"; walk_at "sd") | (apply en_cb; walk_at "ea"; walk_at "rcn") | (apply en_revO; rfl) | (apply en_revL; walk_at "ee"))
local macro_rules | `(tactic| walk_at "ex") => `(tactic| first | exact ex_nil | (apply ex_n; walk_at "en"; (intro _ z; cases z); walk_at "ex") | (apply ex_t; walk_at "ee"; walk_at "ex"))
local macro_rules | `(tactic| walk_at "eo") => `(tactic| first | exact eo_no | (apply eo_part; walk_at "ee"))
local macro_rules | `(tactic| walk_at "gg") => `(tactic| first | exact gg_name rfl rfl | exact gg_name rfl (by assumption) | (apply gg_tup; walk_at "ggs"; rfl) | (apply gg_lst; walk_at "ggs"; rfl))
local macro_rules | `(tactic| walk_at "ggs") => `(tactic| first | exact ggs_nil | (apply ggs_cons; walk_at "gg"; walk_at "ggs"))
local macro_rules | `(tactic| walk_at "ei") => `(tactic| first | (apply ei_rangeL1; walk_at "ea") | (apply ei_rangeL2; walk_at "ea") | (apply ei_tup; walk_at "ee") | (apply ei_list; walk_at "ee"))
local macro_rules | `(tactic| walk_at "ee") => `(tactic| first
  | exact ee_var rfl
  | exact ee_int
  | exact ee_bl
  | exact ee_non
  | exact ee_str
  | (apply ee_ixO rfl; walk_at "ee"; rfl; first | rfl | assumption)
  | (apply ee_op; walk_at "ee"; walk_at "ee"; walk_at "rr")
  | (apply ee_tup; walk_at "ea"; walk_at "sd")
  | (apply ee_call; walk_at "ea"; walk_at "fn")
  | (apply ee_isi; walk_at "ee"; rfl; rfl)
  | exact ee_lenO rfl
  | exact ee_tupleO rfl
  | (apply ee_cb; walk_at "ea"; walk_at "rc")
  | (apply ee_andP; walk_at "ee"; walk_at "ee")
  | (apply ee_orP; walk_at "ee"; walk_at "ee")
  | (apply ee_notV; walk_at "ee")
  | (apply ee_neg; walk_at "ee")
  | (apply ee_revT; walk_at "ee")
  | (apply ee_slT; walk_at "ee"; walk_at "eo"; walk_at "eo"; walk_at "sd")
  | (apply EN.tree; walk_at "en"))
local macro_rules | `(tactic| walk_at "asg") => `(tactic| (apply sd_seq; apply sd_asg; apply ed_of; walk_at "ee"; refine ⟨⟨_, rfl, rfl⟩, ?_⟩))
local macro_rules | `(tactic| walk_at "asgN") => `(tactic| (apply sd_seq; apply sd_of; apply ss_asgN; walk_at "en"; rfl; rfl))
local macro_rules | `(tactic| walk_at "asgG") => `(tactic| (apply sd_seq; apply sd_of; apply ss_asgG; walk_at "ee"; walk_at "gg"))
local macro_rules | `(tactic| walk_at "par") => `(tactic| (apply sd_seq; apply sd_of; apply ss_parX; walk_at "ex"; decide; rfl; rfl; rfl; rfl))
local macro_rules | `(tactic| walk_at "par3") => `(tactic| (apply sd_seq; apply sd_of; apply ss_par3X; walk_at "ex"; decide; decide; decide; rfl; rfl; rfl; rfl; rfl; rfl))
local macro_rules | `(tactic| walk_at "ret") => `(tactic| (apply sd_ret; apply ed_of; walk_at "ee"))
local macro_rules | `(tactic| walk_at "no") => `(tactic| (apply sd_seq; apply sd_if; apply td_of; walk_at "et"))
local macro_rules | `(tactic| walk_at "drop") => `(tactic| (apply sd_seq; apply sd_drop; apply ed_of; walk_at "ee"))
local macro_rules | `(tactic| walk_at "fn") => `(tactic| exact r_is_integer)
local macro_rules | `(tactic| walk_at "fn") => `(tactic| exact r_is_natural)
local macro_rules | `(tactic| walk_at "fn") => `(tactic| exact r_is_below)
local macro_rules | `(tactic| walk_at "fn") => `(tactic| exact r_is_pair)
local macro_rules | `(tactic| walk_at "fn") => `(tactic| (apply r_power; walk_at "sd"))
local macro_rules | `(tactic| walk_at "fn") => `(tactic| (apply r_is_cell_below; walk_at "sd"))
local macro_rules | `(tactic| walk_at "fn") => `(tactic| (apply r_is_posture; walk_at "sd"; walk_at "sd"))
local macro_rules | `(tactic| walk_at "fn") => `(tactic| exact r_posed)
local macro_rules | `(tactic| walk_at "fn") => `(tactic| (apply r_is_part; assumption))
local macro_rules | `(tactic| walk_at "fn") => `(tactic| (apply r_is_kind_of; assumption; assumption))
local macro_rules | `(tactic| walk_at "fn") => `(tactic| (apply r_is_book; assumption))
local macro_rules | `(tactic| walk_at "fn") => `(tactic| (apply r_check_book; assumption))
local macro_rules | `(tactic| walk_at "fn") => `(tactic| (apply r_check_kind; assumption))
local macro_rules | `(tactic| walk_at "fn") => `(tactic| (apply r_turned_of; assumption))
local macro_rules | `(tactic| walk_at "fn") => `(tactic| (apply r_check_posture; assumption; assumption))
local macro_rules | `(tactic| walk_at "fn") => `(tactic| (apply r_turned; assumption; assumption; assumption))
local macro_rules | `(tactic| walk_at "fn") => `(tactic| (apply r_backward_of; assumption))
local macro_rules | `(tactic| walk_at "fn") => `(tactic| (apply r_backward; assumption))
local macro_rules | `(tactic| walk_at "fn") => `(tactic| exact r_check_depth)
local macro_rules | `(tactic| walk_at "fn") => `(tactic| exact r_check_many)
local macro_rules | `(tactic| walk_at "fn") => `(tactic| (apply r_cells_each_way; assumption))
local macro_rules | `(tactic| walk_at "fn") => `(tactic| (apply r_how_many_cells; assumption))
local macro_rules | `(tactic| walk_at "fn") => `(tactic| (apply r_check_cell; assumption; assumption))
local macro_rules | `(tactic| walk_at "fn") => `(tactic| (apply r_check_number; assumption; walk_at "sd"))
local macro_rules | `(tactic| walk_at "fn") => `(tactic| (apply r_way_to; assumption; assumption; assumption; assumption))
local macro_rules | `(tactic| walk_at "fn") => `(tactic| (apply r_number_in; assumption; assumption; assumption; assumption))
local macro_rules | `(tactic| walk_at "fn") => `(tactic| (apply r_number_of; assumption; assumption; assumption))
local macro_rules | `(tactic| walk_at "fn") => `(tactic| (apply r_cell_in; assumption; assumption; assumption; assumption))
local macro_rules | `(tactic| walk_at "fn") => `(tactic| (apply r_cell_of; assumption; assumption; assumption))
local macro_rules | `(tactic| walk_at "fn") => `(tactic| (apply r_kinds_on; assumption; assumption; assumption))
local macro_rules | `(tactic| walk_at "fn") => `(tactic| (apply r_thread_of; assumption; assumption; assumption; assumption))
local macro_rules | `(tactic| walk_at "fn") => `(tactic| (apply r_thread; assumption; assumption; assumption; assumption))
local macro_rules | `(tactic| walk_at "fn") => `(tactic| (apply r_first_cell; assumption; assumption))
local macro_rules | `(tactic| walk_at "fn") => `(tactic| (apply r_last_cell; assumption; assumption))
local macro_rules | `(tactic| walk_at "fn") => `(tactic| (apply r_whole; assumption; assumption; assumption))
local macro_rules | `(tactic| walk_at "fn") => `(tactic| (apply r_numbered; assumption; assumption))
local macro_rules | `(tactic| walk_at "fn") => `(tactic| (apply r_begun_of; assumption; assumption))
local macro_rules | `(tactic| walk_at "fn") => `(tactic| (apply r_begun_at; assumption; assumption))
local macro_rules | `(tactic| walk_at "fn") => `(tactic| (apply r_law_same; assumption))
section
variable {P : Program} {w : World} {K : PySem.W.Frag} {mg : Str → Option Value} {base : Heap}
/-! ### the law's own: pictures, ways -/
theorem ok_law_power (c : Cn K mg base) : Has P w K mg base "_law_power" 1 ps_law_power (spP K f_power) := by
  refine mk_law_power c fun fd F => fn_D F sc_law_power (fun ds d h => by obtain ⟨i, n, rfl, _⟩ := h; rfl) fun cdv A outer s H E hr => ?_
  refine ⟨_, (pss_cons (ps_set (i := 2) sc_law_power.nd rfl (by first | exact Or.inl rfl | exact Or.inr rfl) pe_int)
    (pss_cons (ps_for PassesOwn.never rfl (FlRange.pi_rangeL1 (by rfl) c.f_range (pa_cons (pv 1) pa_nil)) (pg_name (i := 3) sc_law_power.nd rfl (by first | exact Or.inl rfl | exact Or.inr rfl)) (pss_one (ps_set (i := 2) sc_law_power.nd rfl (by first | exact Or.inl rfl | exact Or.inr rfl) (pe_op op_mul (pv 2) (pv 0)))))
    (pss_one (ps_ret (pv 2))))), ?_⟩
  rintro ds d ⟨b, n, rfl, hb, rfl⟩
  show SD K _ [.d (.int b), .d (.int n), .any, .any] _
  walk_at "asg"
  apply sd_seq
  refine sd_for (by walk_at "ei") (fun i e => ∃ v, S.isPm v = false ∧ e = [.d (.int b), .d (.int n), .d (.int ((b ^ i : Nat) : Int)), v]) ⟨.any, rfl, rfl⟩ ?_ ?_
  · rintro i d e hd ⟨v, hv, rfl⟩
    refine ⟨_, _, gg_name rfl hv, ?_⟩
    apply sd_asg; apply ed_of; walk_at "ee"; refine ⟨⟨_, rfl, rfl⟩, ?_⟩
    exact ⟨.d d, rfl, by rw [Nat.pow_succ]; push_cast; rfl⟩
  · rintro e ⟨v, hv, rfl⟩
    walk_at "ret"
    rw [rangeD_len]; rfl
def f_law_posed : List D → D → Prop := fun ds d => ∃ (w : Int) (q : Int × Int) (r m : Nat), ds = [.int w, .int q.1, .int q.2, .int (r : Nat), .int (m : Nat)] ∧ d = dCell (Bk.posed w q r m)
theorem r_law_posed {w x y : Int} {r m : Nat} : f_law_posed [.int w, .int x, .int y, .int (r : Nat), .int (m : Nat)] (dCell (Bk.posed w (x, y) r m)) := ⟨_, (x, y), _, _, rfl, rfl⟩
theorem ok_law_posed (c : Cn K mg base) : Has P w K mg base "_law_posed" 1 ps_law_posed (spP K f_law_posed) := by
  refine mk_law_posed c fun fd F => fn_D F sc_law_posed (fun ds d h => by obtain ⟨i, n, _, _, rfl, _⟩ := h; rfl) fun cdv A outer s H E hr => ?_
  refine ⟨_, (pss_cons (ps_for PassesOwn.never rfl (FlRange.pi_rangeL1 (by rfl) c.f_range (pa_cons (pv 3) pa_nil)) (pg_name (i := 5) sc_law_posed.nd rfl (by first | exact Or.inl rfl | exact Or.inr rfl)) (pss_one (ps_par (i := 1) (j := 2) rfl sc_law_posed.nd rfl rfl (by decide) rfl rfl (pa_cons (pe_op op_sub (pe_op op_sub (pv 0) pe_int) (pv 2)) (pa_cons (pv 1) pa_nil)) rfl)))
    (pss_one (ps_ret (pe_ifExp (pt_cmpR op_eq (pv 4) pe_int (nomark _)) (pe_tup (pa_cons (pv 2) (pa_cons (pv 1) pa_nil))) (pe_tup (pa_cons (pv 1) (pa_cons (pv 2) pa_nil))))))), ?_⟩
  rintro ds d ⟨w, q, r, m, rfl, rfl⟩
  show SD K _ [.d (.int w), .d (.int q.1), .d (.int q.2), .d (.int (r : Nat)), .d (.int (m : Nat)), .any] _
  apply sd_seq
  refine sd_for (by walk_at "ei") (fun i e => ∃ v, S.isPm v = false ∧ e = [.d (.int w), .d (.int (Bk.turns w i q).1), .d (.int (Bk.turns w i q).2), .d (.int (r : Nat)), .d (.int (m : Nat)), v]) ⟨.any, rfl, rfl⟩ ?_ ?_
  · rintro i d e hd ⟨v, hv, rfl⟩
    refine ⟨_, _, gg_name rfl hv, ?_⟩
    apply sd_of; apply ss_parX; walk_at "ex"; decide; rfl; rfl; rfl; rfl
    exact ⟨.d d, rfl, rfl⟩
  · rintro e ⟨v, hv, rfl⟩
    rw [rangeD_len, Int.toNat_natCast]
    apply sd_ret; apply ed_of
    · refine ee_ifP (b := decide ((m : Int) = 1)) ?_ (d := dCell (Bk.posed w q r m)) ?_ ?_
      · exact et_test (by walk_at "ee")
      · intro hb
        have e1 : m = 1 := by have := of_decide_eq_true hb; omega
        refine EE.is (by walk_at "ee") ?_
        rw [e1]; rfl
      · intro hb
        have e1 : m ≠ 1 := fun z => by rw [z] at hb; exact absurd hb (by decide)
        refine EE.is (by walk_at "ee") ?_
        unfold Bk.posed dCell
        rw [if_neg e1]
    · rfl
local macro_rules | `(tactic| walk_at "fn") => `(tactic| exact r_law_posed)
/-- a book that is not too large -/
structure Slim (B : Book) : Prop where
  few : B.kinds.length ≤ 100
  rows : ∀ r ∈ B.kinds, r.length ≤ 100
theorem slim_of {B : Book} (h : BookOk B) : Slim B := ⟨h.few, fun r hr => by have := RowOk.few (h.rows r hr) h.b2.2; omega⟩
theorem slim_begun {B : Book} (h : BookOk B) {k : Nat} (hk : k < B.kinds.length) : Slim (begun B k) := by
  obtain ⟨h1, h2, h3⟩ := numAll_ok h hk B.kinds.length
  have hf := h.few
  have h9 := bb9 h
  refine ⟨?_, fun r hr => ?_⟩
  · show (numAll B k B.kinds.length).2.length ≤ 100
    omega
  · have := h3 r hr
    omega
def f_law_picture : List D → D → Prop := fun ds d => ∃ (B : Book) (r m bk : Nat), ds = [dBook B, .int (r : Nat), .int (m : Nat), .int (bk : Nat)] ∧ Slim B ∧ d = dBook (pict B r m bk)
theorem r_law_picture {B : Book} {r m bk : Nat} (h : Slim B) : f_law_picture [dBook B, .int (r : Nat), .int (m : Nat), .int (bk : Nat)] (dBook (pict B r m bk)) := ⟨_, _, _, _, rfl, h, rfl⟩
def pRow (B : Book) (r m bk : Nat) (row : Bk.Row) : Bk.Row := if bk = 1 then (row.map (posePart B.b r m)).reverse else row.map (posePart B.b r m)
theorem pict_rows {B : Book} {r m bk : Nat} : pict B r m bk = ⟨B.b, B.kinds.map (pRow B r m bk)⟩ := by
  unfold pict pRow backward Bk.turned
  split
  · rw [List.map_map]; rfl
  · rfl
theorem ok_law_picture (c : Cn K mg base) : Has P w K mg base "_law_picture" 2 ps_law_picture (spP K f_law_picture) := by
  refine mk_law_picture c fun fd F => fn_D F sc_law_picture (fun ds d h => by obtain ⟨_, _, _, _, rfl, _⟩ := h; rfl) fun cdv A outer s H E hr => ?_
  refine ⟨_, (pss_cons (ps_set (i := 4) sc_law_picture.nd rfl (by first | exact Or.inl rfl | exact Or.inr rfl) (pe_lst pa_nil))
    (pss_cons (ps_for PassesOwn.never rfl (piT K rfl (pe_ix (ixT K rfl) (pv 0) pe_int (fun _ _ => rfl))) (pg_name (i := 5) sc_law_picture.nd rfl (by first | exact Or.inl rfl | exact Or.inr rfl)) (pss_cons (ps_setLc (own := [("x", 7), ("y", 8), ("kind", 9)]) (i := 6) rfl sc_law_picture.nd rfl rfl (sw_true rfl rfl rfl (by decide +kernel)) (piT K rfl (pv 5)) (blkOk_by rfl) (fun _ _ _ _ _ => (pgT K rfl (n := 3) rfl (pgs_cons (pg_name (i := 7) sc_law_picture.nd rfl (by first | exact Or.inl rfl | exact Or.inr rfl)) (pgs_cons (pg_name (i := 8) sc_law_picture.nd rfl (by first | exact Or.inl rfl | exact Or.inr rfl)) (pgs_cons (pg_name (i := 9) sc_law_picture.nd rfl (by first | exact Or.inl rfl | exact Or.inr rfl)) pgs_nil))))) (fun _ _ _ _ _ => pts_nil) (fun _ _ _ _ _ => (pe_op (catT K rfl) (pe_has (ok_law_posed c) hr (pa_cons (pe_ix (ixT K rfl) (pv 0) pe_int (fun _ _ => rfl)) (pa_cons (pv 7) (pa_cons (pv 8) (pa_cons (pv 1) (pa_cons (pv 2) pa_nil)))))) (pe_tup (pa_cons (pv 9) pa_nil)))))
    (pss_one (ps_expr (bM K rfl PySem.F.plainAttrs_list PySem.F.slot_list_append PySem.F.type_list_append mt_append (pv 4) (pa_cons (pe_callTy (cTup K rfl) (by rfl) c.f_tuple b_tuple (pa_cons (pe_ifExp (pt_cmpR op_eq (pv 3) pe_int (nomark _)) (revL K rfl (pv 6)) (pv 6)) pa_nil)) pa_nil))))))
    (pss_one (ps_ret (pe_tup (pa_cons (pe_ix (ixT K rfl) (pv 0) pe_int (fun _ _ => rfl)) (pa_cons (pe_callTy (cTup K rfl) (by rfl) c.f_tuple b_tuple (pa_cons (pv 4) pa_nil)) pa_nil))))))), ?_⟩
  rintro ds d ⟨B, r, m, bk, rfl, ho, rfl⟩
  show SD K _ [.d (.tuple [.int (B.b : Nat), .tuple (B.kinds.map dRow)]), .d (.int (r : Nat)), .d (.int (m : Nat)), .d (.int (bk : Nat)), .any, .any, .any, .any, .any, .any] _
  have hf := ho.few
  walk_at "asgN"
  apply sd_seq
  refine sd_for (by walk_at "ei") (fun i e => ∃ v v2, S.isPm v = false ∧ S.isPm v2 = false ∧ e = [.d (.tuple [.int (B.b : Nat), .tuple (B.kinds.map dRow)]), .d (.int (r : Nat)), .d (.int (m : Nat)), .d (.int (bk : Nat)), .o false (.lst ((B.kinds.take i).map fun row => dRow (pRow B r m bk row))), v, v2, .any, .any, .any]) ⟨.any, .any, rfl, rfl, rfl⟩ ?_ ?_
  · rintro i d e hd ⟨v, v2, hv, hv2, rfl⟩
    rw [List.getElem?_map] at hd
    obtain ⟨row, hrow, rfl⟩ := Option.map_eq_some_iff.mp hd
    have hl := ho.rows row (List.mem_of_getElem? hrow)
    refine ⟨_, _, gg_name rfl hv, ?_⟩
    apply sd_seq; apply sd_of
    · apply ss_asgN (s := v2)
      · apply en_lcF (ys := row.map fun p => dPart (posePart B.b r m p))
        · apply ei_tup (ds := row.map dPart); walk_at "ee"
        · simp
        · rw [List.length_map]; omega
        · rfl
        · intro j d y hd hy
          rw [List.getElem?_map] at hd hy
          obtain ⟨p, hp, rfl⟩ := Option.map_eq_some_iff.mp hd
          rw [hp] at hy
          cases hy
          refine ⟨_, _, gg_tup (ds := [.int p.1, .int p.2.1, .int p.2.2]) (by walk_at "ggs") rfl, et_yes, ?_, rfl, rfl⟩
          apply ee_op
          · exact ee_call (ds := [.int (B.b : Nat), .int p.1, .int p.2.1, .int (r : Nat), .int (m : Nat)]) (d := dCell (Bk.posed B.b (p.1, p.2.1) r m)) (by walk_at "ea") r_law_posed
          · walk_at "ee"
          · exact rr_catT (List.cons_ne_nil _ _) (Nat.le_of_ble_eq_true rfl)
      · rfl
      · exact hv2
    refine sd_pre (sub_freeze (i := 6) rfl) ?_
    have hE : ∀ e : Fl.Env, e[3]? = some (.d (.int (bk : Nat))) → e[6]? = some (.d (.list (row.map fun p => dPart (posePart B.b r m p)))) → EE K (tCB (fun xs H Q => ∃ p ys, xs = [.ref p] ∧ ((SqL K H p ys ∧ ∀ l, H l = none → Q (.ref l) (upd H l (.tup ys))) ∨ (SqT K H p ys ∧ Q (.ref p) H))) (tCons (tIf (tTest (tOp rEq (tVar 3) (tC (.int 1)))) (tRevL K (tVar 6)) (tVar 6)) tNil)) e e (dRow (pRow B r m bk row)) := by
      intro e h3 h6
      by_cases hb : bk = 1
      · have ec : dRow (pRow B r m bk row) = .tuple (row.map fun p => dPart (posePart B.b r m p)).reverse := by
          unfold pRow dRow
          rw [if_pos hb, List.map_reverse, List.map_map]; rfl
        rw [ec]
        refine ee_cb (ea_consP (x := .list (row.map fun p => dPart (posePart B.b r m p)).reverse) ?_ ea_nil) (rc_tuple rfl)
        refine ee_ifP (b := decide ((bk : Int) = 1)) (et_test (ee_opP (ee_var h3) ee_int rr_eqI)) (fun _ => (en_revL (ee_var h6)).tree) (fun z => ?_)
        rw [hb] at z; exact absurd z (by decide)
      · have ec : dRow (pRow B r m bk row) = .tuple (row.map fun p => dPart (posePart B.b r m p)) := by
          unfold pRow dRow
          rw [if_neg hb, List.map_map]; rfl
        rw [ec]
        refine ee_cb (ea_consP (x := .list (row.map fun p => dPart (posePart B.b r m p))) ?_ ea_nil) (rc_tuple rfl)
        refine ee_ifP (b := decide ((bk : Int) = 1)) (et_test (ee_opP (ee_var h3) ee_int rr_eqI)) (fun z => ?_) (fun _ => ee_var h6)
        have := of_decide_eq_true z
        exact absurd (show bk = 1 by omega) hb
    apply sd_of
    · apply ss_append rfl
      · exact hE _ rfl rfl
      · rfl
      · rw [List.length_map, List.length_take]; omega
    · refine ⟨.d (dRow row), .d (.list (row.map fun p => dPart (posePart B.b r m p))), rfl, rfl, ?_⟩
      rw [take_map_succ hrow]
      rfl
  · rintro e ⟨v, v2, hv, hv2, rfl⟩
    walk_at "ret"
    rw [List.length_map, List.take_length, pict_rows]
    show PyData.tuple _ = dBook _
    unfold dBook
    rw [List.map_map]; rfl
local macro_rules | `(tactic| walk_at "fn") => `(tactic| (apply r_law_picture; assumption))
end
end K20
set_option autoImplicit false
set_option Elab.async false
set_option linter.all false
set_option maxRecDepth 100000
set_option maxHeartbeats 4000000
namespace K20
open PySem PySem.Spec PyProof.Rows L2 Fl Bk
local macro_rules | `(tactic| walk_at "sd") => `(tactic| first | assumption | rfl | omega | exact Nat.le_of_ble_eq_true rfl | (constructor <;> omega) | decide | (left; constructor <;> omega) | (right; constructor <;> omega))
local macro_rules | `(tactic| walk_at "fn") => `(tactic| fail "fn")
local macro_rules | `(tactic| walk_at "rc") => `(tactic| first | exact rc_len rfl | exact rc_tuple rfl | exact rc_all | exact rc_any | exact rc_sum | exact rc_int1 | exact rc_min2 | exact rc_max2)
local macro_rules | `(tactic| walk_at "rcn") => `(tactic| first | exact rcn_list rfl)
local macro_rules | `(tactic| walk_at "rr") => `(tactic| first | exact rr_i | exact rr_b | exact rr_eqI | exact rr_neI | exact rr_eqB | exact rr_neB | exact rr_eqS | exact rr_neS | (apply rr_ixT; first | rfl | assumption) | (apply rr_ixL; first | rfl | assumption) | (apply rr_ic; walk_at "sd") | (apply rr_catT; first | (exact List.cons_ne_nil _ _) | assumption; walk_at "sd"))
local macro_rules | `(tactic| walk_at "ea") => `(tactic| first | exact ea_nil | (apply ea_cons; walk_at "ee"; walk_at "ea"))
local macro_rules | `(tactic| walk_at "et") => `(tactic| first | (apply et_test; walk_at "ee") | (apply et_B; walk_at "ee") | (apply et_not; walk_at "et") | exact et_yes | (apply et_andP; walk_at "et"; walk_at "et") | (apply et_orP; walk_at "et"; walk_at "et"))
local macro_rules | `(tactic| walk_at "en") => `(tactic| first | (apply en_lst; walk_at "ea"; walk_at "sd") | (apply en_cb; walk_at "ea"; walk_at "rcn") | (apply en_revO; rfl) | (apply en_revL; walk_at "ee"))
local macro_rules | `(tactic| walk_at "ex") => `(tactic| first | exact ex_nil | (apply ex_n; walk_at "en"; (intro _ z; cases z); walk_at "ex") | (apply ex_t; walk_at "ee"; walk_at "ex"))
local macro_rules | `(tactic| walk_at "eo") => `(tactic| first | exact eo_no | (apply eo_part; walk_at "ee"))
local macro_rules | `(tactic| walk_at "gg") => `(tactic| first | exact gg_name rfl rfl | exact gg_name rfl (by assumption) | (apply gg_tup; walk_at "ggs"; rfl) | (apply gg_lst; walk_at "ggs"; rfl))
local macro_rules | `(tactic| walk_at "ggs") => `(tactic| first | exact ggs_nil | (apply ggs_cons; walk_at "gg"; walk_at "ggs"))
local macro_rules | `(tactic| walk_at "ei") => `(tactic| first | (apply ei_rangeL1; walk_at "ea") | (apply ei_rangeL2; walk_at "ea") | (apply ei_tup; walk_at "ee") | (apply ei_list; walk_at "ee"))
local macro_rules | `(tactic| walk_at "ee") => `(tactic| first
  | exact ee_var rfl
  | exact ee_int
  | exact ee_bl
  | exact ee_non
  | exact ee_str
  | (apply ee_ixO rfl; walk_at "ee"; rfl; first | rfl | assumption)
  | (apply ee_op; walk_at "ee"; walk_at "ee"; walk_at "rr")
  | (apply ee_tup; walk_at "ea"; walk_at "sd")
  | (apply ee_call; walk_at "ea"; walk_at "fn")
  | (apply ee_isi; walk_at "ee"; rfl; rfl)
  | exact ee_lenO rfl
  | exact ee_tupleO rfl
  | (apply ee_cb; walk_at "ea"; walk_at "rc")
  | (apply ee_andP; walk_at "ee"; walk_at "ee")
  | (apply ee_orP; walk_at "ee"; walk_at "ee")
  | (apply ee_notV; walk_at "ee")
  | (apply ee_neg; walk_at "ee")
  | (apply ee_revT; walk_at "ee")
  | (apply ee_slT; walk_at "ee"; walk_at "eo"; walk_at "eo"; walk_at "sd")
  | (apply EN.tree; walk_at "en"))
local macro_rules | `(tactic| walk_at "asg") => `(tactic| (apply sd_seq; apply sd_asg; apply ed_of; walk_at "ee"; refine ⟨⟨_, rfl, rfl⟩, ?_⟩))
local macro_rules | `(tactic| walk_at "asgN") => `(tactic| (apply sd_seq; apply sd_of; apply ss_asgN; walk_at "en"; rfl; rfl))
local macro_rules | `(tactic| walk_at "asgG") => `(tactic| (apply sd_seq; apply sd_of; apply ss_asgG; walk_at "ee"; walk_at "gg"))
local macro_rules | `(tactic| walk_at "par") => `(tactic| (apply sd_seq; apply sd_of; apply ss_parX; walk_at "ex"; decide; rfl; rfl; rfl; rfl))
local macro_rules | `(tactic| walk_at "par3") => `(tactic| (apply sd_seq; apply sd_of; apply ss_par3X; walk_at "ex"; decide; decide; decide; rfl; rfl; rfl; rfl; rfl; rfl))
local macro_rules | `(tactic| walk_at "ret") => `(tactic| (apply sd_ret; apply ed_of; walk_at "ee"))
local macro_rules | `(tactic| walk_at "no") => `(tactic| (apply sd_seq; apply sd_if; apply td_of; walk_at "et"))
local macro_rules | `(tactic| walk_at "drop") => `(tactic| (apply sd_seq; apply sd_drop; apply ed_of; walk_at "ee"))
local macro_rules | `(tactic| walk_at "fn") => `(tactic| exact r_is_integer)
local macro_rules | `(tactic| walk_at "fn") => `(tactic| exact r_is_natural)
local macro_rules | `(tactic| walk_at "fn") => `(tactic| exact r_is_below)
local macro_rules | `(tactic| walk_at "fn") => `(tactic| exact r_is_pair)
local macro_rules | `(tactic| walk_at "fn") => `(tactic| (apply r_power; walk_at "sd"))
local macro_rules | `(tactic| walk_at "fn") => `(tactic| (apply r_is_cell_below; walk_at "sd"))
local macro_rules | `(tactic| walk_at "fn") => `(tactic| (apply r_is_posture; walk_at "sd"; walk_at "sd"))
local macro_rules | `(tactic| walk_at "fn") => `(tactic| exact r_posed)
local macro_rules | `(tactic| walk_at "fn") => `(tactic| (apply r_is_part; assumption))
local macro_rules | `(tactic| walk_at "fn") => `(tactic| (apply r_is_kind_of; assumption; assumption))
local macro_rules | `(tactic| walk_at "fn") => `(tactic| (apply r_is_book; assumption))
local macro_rules | `(tactic| walk_at "fn") => `(tactic| (apply r_check_book; assumption))
local macro_rules | `(tactic| walk_at "fn") => `(tactic| (apply r_check_kind; assumption))
local macro_rules | `(tactic| walk_at "fn") => `(tactic| (apply r_turned_of; assumption))
local macro_rules | `(tactic| walk_at "fn") => `(tactic| (apply r_check_posture; assumption; assumption))
local macro_rules | `(tactic| walk_at "fn") => `(tactic| (apply r_turned; assumption; assumption; assumption))
local macro_rules | `(tactic| walk_at "fn") => `(tactic| (apply r_backward_of; assumption))
local macro_rules | `(tactic| walk_at "fn") => `(tactic| (apply r_backward; assumption))
local macro_rules | `(tactic| walk_at "fn") => `(tactic| exact r_check_depth)
local macro_rules | `(tactic| walk_at "fn") => `(tactic| exact r_check_many)
local macro_rules | `(tactic| walk_at "fn") => `(tactic| (apply r_cells_each_way; assumption))
local macro_rules | `(tactic| walk_at "fn") => `(tactic| (apply r_how_many_cells; assumption))
local macro_rules | `(tactic| walk_at "fn") => `(tactic| (apply r_check_cell; assumption; assumption))
local macro_rules | `(tactic| walk_at "fn") => `(tactic| (apply r_check_number; assumption; walk_at "sd"))
local macro_rules | `(tactic| walk_at "fn") => `(tactic| (apply r_way_to; assumption; assumption; assumption; assumption))
local macro_rules | `(tactic| walk_at "fn") => `(tactic| (apply r_number_in; assumption; assumption; assumption; assumption))
local macro_rules | `(tactic| walk_at "fn") => `(tactic| (apply r_number_of; assumption; assumption; assumption))
local macro_rules | `(tactic| walk_at "fn") => `(tactic| (apply r_cell_in; assumption; assumption; assumption; assumption))
local macro_rules | `(tactic| walk_at "fn") => `(tactic| (apply r_cell_of; assumption; assumption; assumption))
local macro_rules | `(tactic| walk_at "fn") => `(tactic| (apply r_kinds_on; assumption; assumption; assumption))
local macro_rules | `(tactic| walk_at "fn") => `(tactic| (apply r_thread_of; assumption; assumption; assumption; assumption))
local macro_rules | `(tactic| walk_at "fn") => `(tactic| (apply r_thread; assumption; assumption; assumption; assumption))
local macro_rules | `(tactic| walk_at "fn") => `(tactic| (apply r_first_cell; assumption; assumption))
local macro_rules | `(tactic| walk_at "fn") => `(tactic| (apply r_last_cell; assumption; assumption))
local macro_rules | `(tactic| walk_at "fn") => `(tactic| (apply r_whole; assumption; assumption; assumption))
local macro_rules | `(tactic| walk_at "fn") => `(tactic| (apply r_numbered; assumption; assumption))
local macro_rules | `(tactic| walk_at "fn") => `(tactic| (apply r_begun_of; assumption; assumption))
local macro_rules | `(tactic| walk_at "fn") => `(tactic| (apply r_begun_at; assumption; assumption))
local macro_rules | `(tactic| walk_at "fn") => `(tactic| (apply r_law_same; assumption))
local macro_rules | `(tactic| walk_at "fn") => `(tactic| exact r_law_posed)
local macro_rules | `(tactic| walk_at "fn") => `(tactic| (apply r_law_picture; assumption))
section
variable {P : Program} {w : World} {K : PySem.W.Frag} {mg : Str → Option Value} {base : Heap}
/-! ### the law's own: figures, ways, carried cells -/
def digs (k d n : Nat) : List Nat := (List.range d).map fun i => n / k ^ (d - 1 - i) % k
def f_law_figures : List D → D → Prop := fun ds r => ∃ k d n : Nat, ds = [.int k, .int d, .int n] ∧ 0 < k ∧ k ≤ 100 ∧ d ≤ 2000 ∧ r = .list (dNats (digs k d n))
theorem r_law_figures {k d n : Nat} (h : 0 < k) (h1 : k ≤ 100) (h2 : d ≤ 2000) : f_law_figures [.int k, .int d, .int n] (.list (dNats (digs k d n))) := ⟨_, _, _, rfl, h, h1, h2, rfl⟩
theorem range_succ_map {f : Nat → Nat} {i : Nat} : (List.range (i + 1)).map f = (List.range i).map f ++ [f i] := by
  rw [List.range_succ, List.map_append]; rfl
theorem digs_rev {k d n : Nat} : digs k d n = ((List.range d).map fun j => n / k ^ j % k).reverse := by
  unfold digs
  apply List.ext_getElem?
  intro i
  by_cases h : i < d
  · rw [List.getElem?_map, List.getElem?_range h, List.getElem?_reverse (by simpa using h), List.getElem?_map, List.length_map, List.length_range, List.getElem?_range (by omega)]; rfl
  · rw [List.getElem?_eq_none (by simpa using h), List.getElem?_eq_none (by simpa using h)]
theorem ok_law_figures (c : Cn K mg base) : Has P w K mg base "_law_figures" 1 ps_law_figures (spP K f_law_figures) := by
  refine mk_law_figures c fun fd F => fn_D F sc_law_figures (fun ds d h => by obtain ⟨_, _, _, rfl, _⟩ := h; rfl) fun cdv A outer s H E hr => ?_
  refine ⟨_, (pss_cons (ps_set (i := 3) sc_law_figures.nd rfl (by first | exact Or.inl rfl | exact Or.inr rfl) (pe_lst pa_nil))
    (pss_cons (ps_for PassesOwn.never rfl (FlRange.pi_rangeL1 (by rfl) c.f_range (pa_cons (pv 1) pa_nil)) (pg_name (i := 4) sc_law_figures.nd rfl (by first | exact Or.inl rfl | exact Or.inr rfl)) (pss_cons (ps_expr (bM K rfl PySem.F.plainAttrs_list PySem.F.slot_list_append PySem.F.type_list_append mt_append (pv 3) (pa_cons (pe_op op_mod (pe_callTy call_int1 (by rfl) c.f_int b_int (pa_cons (pv 2) pa_nil)) (pv 0)) pa_nil)))
    (pss_one (ps_set (i := 2) sc_law_figures.nd rfl (by first | exact Or.inl rfl | exact Or.inr rfl) (pe_op op_fdivW (pv 2) (pv 0))))))
    (pss_one (ps_ret (revL K rfl (pv 3)))))), ?_⟩
  rintro ds r ⟨k, d, n, rfl, hk, hk1, hd, rfl⟩
  show SD K _ [.d (.int (k : Nat)), .d (.int (d : Nat)), .d (.int (n : Nat)), .any, .any] _
  have hk2 : (0 : Int) < k := by omega
  walk_at "asgN"
  apply sd_seq
  refine sd_for (by walk_at "ei") (fun i e => ∃ v, S.isPm v = false ∧ e = [.d (.int (k : Nat)), .d (.int (d : Nat)), .d (.int (n / k ^ i : Nat)), .o false (.lst (dNats ((List.range i).map fun j => n / k ^ j % k))), v]) ⟨.any, rfl, by simp; rfl⟩ ?_ ?_
  · rintro i dd e hdd ⟨v, hv, rfl⟩
    have hi : i < d := by
      have := (List.getElem?_eq_some_iff.mp hdd).1
      rw [rangeD_len, Int.toNat_natCast] at this
      exact this
    refine ⟨_, _, gg_name rfl hv, ?_⟩
    apply sd_seq; apply sd_of
    · apply ss_append rfl
      · refine ee_opP (ee_cb (ea_consP (ee_var rfl) ea_nil) rc_int1) (ee_var rfl) (rr_ic hk2)
      · rfl
      · unfold dNats; rw [List.length_map, List.length_map, List.length_range]; omega
    apply sd_asg; apply ed_of
    · exact ee_opP (ee_var rfl) (ee_var rfl) (rr_ic (small_div hk hk1))
    refine ⟨⟨_, rfl, rfl⟩, .d dd, rfl, ?_⟩
    have e1 : (((n / k ^ i : Nat) : Int) / (k : Int)) = ((n / k ^ (i + 1) : Nat) : Int) := by rw [cast_div, div_low, Nat.pow_succ]
    rw [e1, cast_mod, range_succ_map, dNats_snoc]
    rfl
  · rintro e ⟨v, hv, rfl⟩
    rw [rangeD_len, Int.toNat_natCast]
    apply sd_ret; apply ed_of
    · exact (en_revO rfl).tree
    · show PyData.list _ = PyData.list _
      rw [digs_rev]
      unfold dNats
      rw [List.map_reverse]
local macro_rules | `(tactic| walk_at "fn") => `(tactic| (apply r_law_figures; walk_at "sd"; walk_at "sd"; walk_at "sd"))
def dWay (B : Book) (d n : Nat) : D := .list [dCell (cellAt B 0 d n), .tuple (dNats (kindsAt B 0 d n))]
def f_law_way : List D → D → Prop := fun ds r => ∃ (B : Book) (d n : Nat), ds = [dBook B, .int d, .int n] ∧ BookOk B ∧ d ≤ 2000 ∧ n < cells B d ∧ r = dWay B d n
theorem r_law_way {B : Book} {d n : Nat} (h : BookOk B) (h2 : d ≤ 2000) (h3 : n < cells B d) : f_law_way [dBook B, .int d, .int n] (dWay B d n) := ⟨_, _, _, rfl, h, h2, h3, rfl⟩
theorem top_lt {B : Book} {d n i : Nat} (ho : BookOk B) (hn : n < cells B d) (hi : i ≤ d) : n / (B.b * B.b) ^ (d - i) < cells B i := by
  rw [Nat.div_lt_iff_lt_mul (Nat.pow_pos (Nat.mul_pos (by have := ho.b2; omega) (by have := ho.b2; omega)))]
  show n < (B.b * B.b) ^ i * (B.b * B.b) ^ (d - i)
  rw [← Nat.pow_add, Nat.add_sub_cancel' hi]; exact hn
theorem ok_law_way (c : Cn K mg base) : Has P w K mg base "_law_way" 2 ps_law_way (spP K f_law_way) := by
  refine mk_law_way c fun fd F => fn_D F sc_law_way (fun ds d h => by obtain ⟨_, _, _, rfl, _⟩ := h; rfl) fun cdv A outer s H E hr => ?_
  refine ⟨_, (pss_cons (ps_par3 (i := 4) (j := 5) (l := 6) rfl sc_law_way.nd rfl rfl rfl (by decide) (by decide) (by decide) rfl rfl rfl (pa_cons pe_int (pa_cons pe_int (pa_cons (pe_lst (pa_cons pe_int pa_nil)) pa_nil))) rfl)
    (pss_cons (ps_for PassesOwn.never rfl (piL K rfl (pe_has (ok_law_figures c) hr (pa_cons (pe_op op_mul (pe_ix (ixT K rfl) (pv 0) pe_int (fun _ _ => rfl)) (pe_ix (ixT K rfl) (pv 0) pe_int (fun _ _ => rfl))) (pa_cons (pv 1) (pa_cons (pv 2) pa_nil))))) (pg_name (i := 3) sc_law_way.nd rfl (by first | exact Or.inl rfl | exact Or.inr rfl)) (pss_cons (ps_set (i := 7) sc_law_way.nd rfl (by first | exact Or.inl rfl | exact Or.inr rfl) (pe_ix (ixT K rfl) (pe_ix (ixT K rfl) (pe_ix (ixT K rfl) (pv 0) pe_int (fun _ _ => rfl)) (pe_ix (ixL K rfl) (pv 6) (pe_un un_neg pe_int) (fun _ _ => rfl)) (fun _ _ => rfl)) (pv 3) (fun _ _ => rfl)))
    (pss_cons (ps_par (i := 4) (j := 5) rfl sc_law_way.nd rfl rfl (by decide) rfl rfl (pa_cons (pe_op op_add (pe_op op_mul (pe_ix (ixT K rfl) (pv 0) pe_int (fun _ _ => rfl)) (pv 4)) (pe_ix (ixT K rfl) (pv 7) pe_int (fun _ _ => rfl))) (pa_cons (pe_op op_add (pe_op op_mul (pe_ix (ixT K rfl) (pv 0) pe_int (fun _ _ => rfl)) (pv 5)) (pe_ix (ixT K rfl) (pv 7) pe_int (fun _ _ => rfl))) pa_nil)) rfl)
    (pss_one (ps_expr (bM K rfl PySem.F.plainAttrs_list PySem.F.slot_list_append PySem.F.type_list_append mt_append (pv 6) (pa_cons (pe_ix (ixT K rfl) (pv 7) pe_int (fun _ _ => rfl)) pa_nil)))))))
    (pss_one (ps_ret (pe_lst (pa_cons (pe_tup (pa_cons (pv 4) (pa_cons (pv 5) pa_nil))) (pa_cons (pe_callTy (cTup K rfl) (by rfl) c.f_tuple b_tuple (pa_cons (pv 6) pa_nil)) pa_nil))))))), ?_⟩
  rintro ds r ⟨B, d, n, rfl, ho, hd, hn, rfl⟩
  show SD K _ [.d (.tuple [.int (B.b : Nat), .tuple (B.kinds.map dRow)]), .d (.int (d : Nat)), .d (.int (n : Nat)), .any, .any, .any, .any, .any] _
  have hb := ho.b2
  have h9 := bb9 ho
  have h0 := kind0 ho
  walk_at "par3"
  apply sd_seq
  refine sd_for (e0 := [.d (.tuple [.int (B.b : Nat), .tuple (B.kinds.map dRow)]), .d (.int (d : Nat)), .d (.int (n : Nat)), .any, .d (.int 0), .d (.int 0), .o false (.lst [.int 0]), .any]) (ds := dNats (digs (B.b * B.b) d n)) ?_ (fun i e => ∃ v vp, S.isPm v = false ∧ S.isPm vp = false ∧ e = [.d (.tuple [.int (B.b : Nat), .tuple (B.kinds.map dRow)]), .d (.int (d : Nat)), .d (.int (n : Nat)), v, .d (.int (cellAt B 0 i (n / (B.b * B.b) ^ (d - i))).1), .d (.int (cellAt B 0 i (n / (B.b * B.b) ^ (d - i))).2), .o false (.lst (dNats (kindsAt B 0 i (n / (B.b * B.b) ^ (d - i))))), vp]) ⟨.any, .any, rfl, rfl, rfl⟩ ?_ ?_
  · apply ei_list
    refine ee_callP (ds := [.int ((B.b * B.b : Nat) : Int), .int (d : Nat), .int (n : Nat)]) ?_ (r_law_figures (by omega) (by omega) hd)
    refine ea_consP ?_ (by walk_at "ea")
    refine EE.is (by walk_at "ee") ?_
    push_cast; rfl
  · rintro i dd e hdd ⟨v, vp, hv, hvp, rfl⟩
    have hi : i < d := by
      have := (List.getElem?_eq_some_iff.mp hdd).1
      simpa [dNats, digs] using this
    have hdig : dd = .int ((n / (B.b * B.b) ^ (d - (i + 1)) % (B.b * B.b) : Nat) : Int) := by
      have e1 : d - 1 - i = d - (i + 1) := by omega
      unfold dNats digs at hdd
      rw [List.map_map, List.getElem?_map, List.getElem?_range hi] at hdd
      cases hdd
      show PyData.int ((n / (B.b * B.b) ^ (d - 1 - i) % (B.b * B.b) : Nat) : Int) = _
      rw [e1]
    subst hdig
    have htop := top_lt ho hn (show i + 1 ≤ d from hi)
    generalize hm : n / (B.b * B.b) ^ (d - (i + 1)) = m at htop ⊢
    have hprev : n / (B.b * B.b) ^ (d - i) = m / (B.b * B.b) := by
      rw [← hm, div_low, ← Nat.pow_succ]
      congr 2; omega
    rw [hprev]
    obtain ⟨pre, kk, hk⟩ := kindsAt_ne (B := B) (k := 0) (d := i) (n := m / (B.b * B.b))
    obtain ⟨g1, g2, g3⟩ := snoc ho i 0 m htop pre kk hk
    have htop2 := top_lt ho hn (show i ≤ d by omega)
    rw [hprev] at htop2
    have hkk : kk < B.kinds.length := kindsAt_in ho i 0 _ h0 htop2 kk (by rw [hk]; simp)
    have hdl : m % (B.b * B.b) < B.b * B.b := Nat.mod_lt _ (by omega)
    have hrow := at_row hkk
    have hpart := at_part ho hkk hdl
    have hlast : atI (dNats (kindsAt B 0 i (m / (B.b * B.b)))) (-1) = some (.int (kk : Nat)) := by rw [hk, dNats_snoc]; exact atI_neg1
    refine ⟨_, _, gg_name rfl hv, ?_⟩
    apply sd_seq; apply sd_asg; apply ed_of
    · refine ee_opP (x := dRow (B.row kk)) (y := .int (m % (B.b * B.b) : Nat)) (ee_opP (x := .tuple (B.kinds.map dRow)) (y := .int (kk : Nat)) ?_ ?_ (rr_ixT hrow)) (ee_var rfl) (rr_ixT hpart)
      · exact ee_opP (ee_var rfl) ee_int (rr_ixT rfl)
      · exact ee_ixO rfl (ee_neg ee_int) rfl hlast
    refine ⟨⟨_, rfl, hvp⟩, ?_⟩
    have hp : dPart (B.part kk (m % (B.b * B.b))) = .tuple [.int (B.part kk (m % (B.b * B.b))).1, .int (B.part kk (m % (B.b * B.b))).2.1, .int ((B.part kk (m % (B.b * B.b))).2.2 : Nat)] := rfl
    rw [hp]
    apply sd_seq; apply sd_of; apply ss_parX
    · walk_at "ex"
    · decide
    · rfl
    · rfl
    · rfl
    · rfl
    apply sd_of
    · apply ss_append rfl
      · walk_at "ee"
      · rfl
      · unfold dNats; rw [List.length_map, kindsAt_len]; omega
    refine ⟨.d (.int (m % (B.b * B.b) : Nat)), .d (.tuple [.int (B.part kk (m % (B.b * B.b))).1, .int (B.part kk (m % (B.b * B.b))).2.1, .int ((B.part kk (m % (B.b * B.b))).2.2 : Nat)]), rfl, rfl, ?_⟩
    rw [g1, g2, g3, hk, dNats_snoc (l := pre ++ [kk])]
    rfl
  · rintro e ⟨v, vp, hv, hvp, rfl⟩
    have e1 : (dNats (digs (B.b * B.b) d n)).length = d := by simp [dNats, digs]
    rw [e1, Nat.sub_self, Nat.pow_zero, Nat.div_one]
    walk_at "ret"
    rfl
local macro_rules | `(tactic| walk_at "fn") => `(tactic| (apply r_law_way; assumption; assumption; assumption))
def dTri (r m bk : Nat) : D := .tuple [.int (r : Nat), .int (m : Nat), .int (bk : Nat)]
def dCarried (B : Book) (d n r m bk : Nat) : D := .list [dCell (Bk.posed (side B d : Nat) (cellAt B 0 d (far B d n bk)) r m), .tuple (dNats (kindsAt B 0 d (far B d n bk)))]
def f_law_carried : List D → D → Prop := fun ds t => ∃ (B : Book) (d n r m bk : Nat), ds = [dBook B, .int d, .int n, dTri r m bk] ∧ BookOk B ∧ d ≤ 2000 ∧ n < cells B d ∧ t = dCarried B d n r m bk
theorem r_law_carried {B : Book} {d n r m bk : Nat} (h : BookOk B) (h2 : d ≤ 2000) (h3 : n < cells B d) : f_law_carried [dBook B, .int d, .int n, dTri r m bk] (dCarried B d n r m bk) := ⟨_, _, _, _, _, _, rfl, h, h2, h3, rfl⟩
theorem ok_law_carried (c : Cn K mg base) : Has P w K mg base "_law_carried" 3 ps_law_carried (spP K f_law_carried) := by
  refine mk_law_carried c fun fd F => fn_D F sc_law_carried (fun ds d h => by obtain ⟨_, _, _, _, _, _, rfl, _⟩ := h; rfl) fun cdv A outer s H E hr => ?_
  refine ⟨_, (pss_cons (ps_set (i := 4) sc_law_carried.nd rfl (by first | exact Or.inl rfl | exact Or.inr rfl) (pe_has (ok_law_power c) hr (pa_cons (pe_op op_mul (pe_ix (ixT K rfl) (pv 0) pe_int (fun _ _ => rfl)) (pe_ix (ixT K rfl) (pv 0) pe_int (fun _ _ => rfl))) (pa_cons (pv 1) pa_nil))))
    (pss_cons (ps_asg (pe_has (ok_law_way c) hr (pa_cons (pv 0) (pa_cons (pv 1) (pa_cons (pe_ifExp (pt_cmpR op_eq (pe_ix (ixT K rfl) (pv 3) pe_int (fun _ _ => rfl)) pe_int (nomark _)) (pe_op op_sub (pe_op op_sub (pv 4) pe_int) (pv 2)) (pv 2)) pa_nil)))) (pgL K rfl (n := 2) rfl (pgs_cons (pgT K rfl (n := 2) rfl (pgs_cons (pg_name (i := 6) sc_law_carried.nd rfl (by first | exact Or.inl rfl | exact Or.inr rfl)) (pgs_cons (pg_name (i := 7) sc_law_carried.nd rfl (by first | exact Or.inl rfl | exact Or.inr rfl)) pgs_nil))) (pgs_cons (pg_name (i := 5) sc_law_carried.nd rfl (by first | exact Or.inl rfl | exact Or.inr rfl)) pgs_nil))))
    (pss_one (ps_ret (pe_lst (pa_cons (pe_has (ok_law_posed c) hr (pa_cons (pe_has (ok_law_power c) hr (pa_cons (pe_ix (ixT K rfl) (pv 0) pe_int (fun _ _ => rfl)) (pa_cons (pv 1) pa_nil))) (pa_cons (pv 6) (pa_cons (pv 7) (pa_cons (pe_ix (ixT K rfl) (pv 3) pe_int (fun _ _ => rfl)) (pa_cons (pe_ix (ixT K rfl) (pv 3) pe_int (fun _ _ => rfl)) pa_nil)))))) (pa_cons (pv 5) pa_nil))))))), ?_⟩
  rintro ds t ⟨B, d, n, r, m, bk, rfl, ho, hd, hn, rfl⟩
  show SD K _ [.d (.tuple [.int (B.b : Nat), .tuple (B.kinds.map dRow)]), .d (.int (d : Nat)), .d (.int (n : Nat)), .d (.tuple [.int (r : Nat), .int (m : Nat), .int (bk : Nat)]), .any, .any, .any, .any] _
  have hb := ho.b2
  have h9 := bb9 ho
  have hfl := far_lt ho (bk := bk) hn
  have hcp := cells_pos ho d
  apply sd_seq; apply sd_asg; apply ed_of
  · refine ee_callP (d := .int (cells B d : Nat)) (ds := [.int ((B.b * B.b : Nat) : Int), .int (d : Nat)]) (ea_consP (EE.is (by walk_at "ee") ?_) (by walk_at "ea")) (r_power (by omega))
    push_cast; rfl
  refine ⟨⟨_, rfl, rfl⟩, ?_⟩
  apply sd_seq; apply sd_of
  · apply ss_asgG
    · refine ee_callP (ds := [dBook B, .int (d : Nat), .int (far B d n bk : Nat)]) (ea_consP (ee_var rfl) (ea_consP (ee_var rfl) (ea_consP ?_ ea_nil))) (r_law_way ho hd hfl)
      refine ee_ifP (b := decide ((bk : Int) = 1)) (et_test (by walk_at "ee")) (fun z => ?_) (fun z => ?_)
      · have e1 : bk = 1 := by have := of_decide_eq_true z; omega
        refine EE.is (by walk_at "ee") ?_
        unfold far
        rw [if_pos e1]
        have : ((cells B d : Nat) : Int) - 1 - (n : Nat) = ((cells B d - 1 - n : Nat) : Int) := by omega
        show PyData.int (((cells B d : Nat) : Int) - 1 - (n : Nat)) = _
        rw [this]
      · have e1 : bk ≠ 1 := fun e => by rw [e] at z; exact absurd z (by decide)
        unfold far
        rw [if_neg e1]
        exact ee_var rfl
    · refine gg_lst (ds := [.tuple [.int (cellAt B 0 d (far B d n bk)).1, .int (cellAt B 0 d (far B d n bk)).2], .tuple (dNats (kindsAt B 0 d (far B d n bk)))]) (ggs_cons (gg_tup (ggs_cons (gg_name rfl rfl) (ggs_cons (gg_name rfl rfl) ggs_nil)) rfl) (ggs_cons (gg_name rfl rfl) ggs_nil)) rfl
  apply sd_ret; apply ed_of
  · apply EN.tree
    apply en_lst
    · apply ea_cons
      · refine ee_callP (ds := [.int (side B d : Nat), .int (cellAt B 0 d (far B d n bk)).1, .int (cellAt B 0 d (far B d n bk)).2, .int (r : Nat), .int (m : Nat)]) (ea_consP ?_ (by walk_at "ea")) r_law_posed
        exact ee_callP (ds := [.int (B.b : Nat), .int (d : Nat)]) (by walk_at "ea") (r_power (by omega))
      apply ea_cons
      · exact ee_var rfl
      exact ea_nil
    · walk_at "sd"
  · rfl
local macro_rules | `(tactic| walk_at "fn") => `(tactic| (apply r_law_carried; assumption; assumption; walk_at "sd"))
end
end K20
set_option autoImplicit false
set_option Elab.async false
set_option linter.all false
set_option maxRecDepth 100000
set_option maxHeartbeats 4000000
namespace K20
open PySem PySem.Spec PyProof.Rows L2 Fl Bk
local macro_rules | `(tactic| walk_at "sd") => `(tactic| first | assumption | rfl | omega | exact Nat.le_of_ble_eq_true rfl | (constructor <;> omega) | decide | (left; constructor <;> omega) | (right; constructor <;> omega))
local macro_rules | `(tactic| walk_at "fn") => `(tactic| fail "fn")
local macro_rules | `(tactic| walk_at "rc") => `(tactic| first | exact rc_len rfl | exact rc_tuple rfl | exact rc_all | exact rc_any | exact rc_sum | exact rc_int1 | exact rc_min2 | exact rc_max2)
local macro_rules | `(tactic| walk_at "rcn") => `(tactic| first | exact rcn_list rfl)
local macro_rules | `(tactic| walk_at "rr") => `(tactic| first | exact rr_i | exact rr_b | exact rr_eqI | exact rr_neI | exact rr_eqB | exact rr_neB | exact rr_eqS | exact rr_neS | (apply rr_ixT; first | rfl | assumption) | (apply rr_ixL; first | rfl | assumption) | (apply rr_ic; walk_at "sd") | (apply rr_catT; first | (exact List.cons_ne_nil _ _) | assumption; walk_at "sd"))
local macro_rules | `(tactic| walk_at "ea") => `(tactic| first | exact ea_nil | (apply ea_cons; walk_at "ee"; walk_at "ea"))
local macro_rules | `(tactic| walk_at "et") => `(tactic| first | (apply et_test; walk_at "ee") | (apply et_B; walk_at "ee") | (apply et_not; walk_at "et") | exact et_yes | (apply et_andP; walk_at "et"; walk_at "et") | (apply et_orP; walk_at "et"; walk_at "et"))
local macro_rules | `(tactic| walk_at "en") => `(tactic| first | (apply en_lst; walk_at "ea"; walk_at "sd") | (apply en_cb; walk_at "ea"; walk_at "rcn") | (apply en_revO; rfl) | (apply en_revL; walk_at "ee"))
local macro_rules | `(tactic| walk_at "ex") => `(tactic| first | exact ex_nil | (apply ex_n; walk_at "en"; (intro _ z; cases z); walk_at "ex") | (apply ex_t; walk_at "ee"; walk_at "ex"))
local macro_rules | `(tactic| walk_at "eo") => `(tactic| first | exact eo_no | (apply eo_part; walk_at "ee"))
local macro_rules | `(tactic| walk_at "gg") => `(tactic| first | exact gg_name rfl rfl | exact gg_name rfl (by assumption) | (apply gg_tup; walk_at "ggs"; rfl) | (apply gg_lst; walk_at "ggs"; rfl))
local macro_rules | `(tactic| walk_at "ggs") => `(tactic| first | exact ggs_nil | (apply ggs_cons; walk_at "gg"; walk_at "ggs"))
local macro_rules | `(tactic| walk_at "ei") => `(tactic| first | (apply ei_rangeL1; walk_at "ea") | (apply ei_rangeL2; walk_at "ea") | (apply ei_tup; walk_at "ee") | (apply ei_list; walk_at "ee"))
local macro_rules | `(tactic| walk_at "ee") => `(tactic| first
  | exact ee_var rfl
  | exact ee_int
  | exact ee_bl
  | exact ee_non
  | exact ee_str
  | (apply ee_ixO rfl; walk_at "ee"; rfl; first | rfl | assumption)
  | (apply ee_op; walk_at "ee"; walk_at "ee"; walk_at "rr")
  | (apply ee_tup; walk_at "ea"; walk_at "sd")
  | (apply ee_call; walk_at "ea"; walk_at "fn")
  | (apply ee_isi; walk_at "ee"; rfl; rfl)
  | exact ee_lenO rfl
  | exact ee_tupleO rfl
  | (apply ee_cb; walk_at "ea"; walk_at "rc")
  | (apply ee_andP; walk_at "ee"; walk_at "ee")
  | (apply ee_orP; walk_at "ee"; walk_at "ee")
  | (apply ee_notV; walk_at "ee")
  | (apply ee_neg; walk_at "ee")
  | (apply ee_revT; walk_at "ee")
  | (apply ee_slT; walk_at "ee"; walk_at "eo"; walk_at "eo"; walk_at "sd")
  | (apply EN.tree; walk_at "en"))
local macro_rules | `(tactic| walk_at "asg") => `(tactic| (apply sd_seq; apply sd_asg; apply ed_of; walk_at "ee"; refine ⟨⟨_, rfl, rfl⟩, ?_⟩))
local macro_rules | `(tactic| walk_at "asgN") => `(tactic| (apply sd_seq; apply sd_of; apply ss_asgN; walk_at "en"; rfl; rfl))
local macro_rules | `(tactic| walk_at "asgG") => `(tactic| (apply sd_seq; apply sd_of; apply ss_asgG; walk_at "ee"; walk_at "gg"))
local macro_rules | `(tactic| walk_at "par") => `(tactic| (apply sd_seq; apply sd_of; apply ss_parX; walk_at "ex"; decide; rfl; rfl; rfl; rfl))
local macro_rules | `(tactic| walk_at "par3") => `(tactic| (apply sd_seq; apply sd_of; apply ss_par3X; walk_at "ex"; decide; decide; decide; rfl; rfl; rfl; rfl; rfl; rfl))
local macro_rules | `(tactic| walk_at "ret") => `(tactic| (apply sd_ret; apply ed_of; walk_at "ee"))
local macro_rules | `(tactic| walk_at "no") => `(tactic| (apply sd_seq; apply sd_if; apply td_of; walk_at "et"))
local macro_rules | `(tactic| walk_at "drop") => `(tactic| (apply sd_seq; apply sd_drop; apply ed_of; walk_at "ee"))
local macro_rules | `(tactic| walk_at "fn") => `(tactic| exact r_is_integer)
local macro_rules | `(tactic| walk_at "fn") => `(tactic| exact r_is_natural)
local macro_rules | `(tactic| walk_at "fn") => `(tactic| exact r_is_below)
local macro_rules | `(tactic| walk_at "fn") => `(tactic| exact r_is_pair)
local macro_rules | `(tactic| walk_at "fn") => `(tactic| (apply r_power; walk_at "sd"))
local macro_rules | `(tactic| walk_at "fn") => `(tactic| (apply r_is_cell_below; walk_at "sd"))
local macro_rules | `(tactic| walk_at "fn") => `(tactic| (apply r_is_posture; walk_at "sd"; walk_at "sd"))
local macro_rules | `(tactic| walk_at "fn") => `(tactic| exact r_posed)
local macro_rules | `(tactic| walk_at "fn") => `(tactic| (apply r_is_part; assumption))
local macro_rules | `(tactic| walk_at "fn") => `(tactic| (apply r_is_kind_of; assumption; assumption))
local macro_rules | `(tactic| walk_at "fn") => `(tactic| (apply r_is_book; assumption))
local macro_rules | `(tactic| walk_at "fn") => `(tactic| (apply r_check_book; assumption))
local macro_rules | `(tactic| walk_at "fn") => `(tactic| (apply r_check_kind; assumption))
local macro_rules | `(tactic| walk_at "fn") => `(tactic| (apply r_turned_of; assumption))
local macro_rules | `(tactic| walk_at "fn") => `(tactic| (apply r_check_posture; assumption; assumption))
local macro_rules | `(tactic| walk_at "fn") => `(tactic| (apply r_turned; assumption; assumption; assumption))
local macro_rules | `(tactic| walk_at "fn") => `(tactic| (apply r_backward_of; assumption))
local macro_rules | `(tactic| walk_at "fn") => `(tactic| (apply r_backward; assumption))
local macro_rules | `(tactic| walk_at "fn") => `(tactic| exact r_check_depth)
local macro_rules | `(tactic| walk_at "fn") => `(tactic| exact r_check_many)
local macro_rules | `(tactic| walk_at "fn") => `(tactic| (apply r_cells_each_way; assumption))
local macro_rules | `(tactic| walk_at "fn") => `(tactic| (apply r_how_many_cells; assumption))
local macro_rules | `(tactic| walk_at "fn") => `(tactic| (apply r_check_cell; assumption; assumption))
local macro_rules | `(tactic| walk_at "fn") => `(tactic| (apply r_check_number; assumption; walk_at "sd"))
local macro_rules | `(tactic| walk_at "fn") => `(tactic| (apply r_way_to; assumption; assumption; assumption; assumption))
local macro_rules | `(tactic| walk_at "fn") => `(tactic| (apply r_number_in; assumption; assumption; assumption; assumption))
local macro_rules | `(tactic| walk_at "fn") => `(tactic| (apply r_number_of; assumption; assumption; assumption))
local macro_rules | `(tactic| walk_at "fn") => `(tactic| (apply r_cell_in; assumption; assumption; assumption; assumption))
local macro_rules | `(tactic| walk_at "fn") => `(tactic| (apply r_cell_of; assumption; assumption; assumption))
local macro_rules | `(tactic| walk_at "fn") => `(tactic| (apply r_kinds_on; assumption; assumption; assumption))
local macro_rules | `(tactic| walk_at "fn") => `(tactic| (apply r_thread_of; assumption; assumption; assumption; assumption))
local macro_rules | `(tactic| walk_at "fn") => `(tactic| (apply r_thread; assumption; assumption; assumption; assumption))
local macro_rules | `(tactic| walk_at "fn") => `(tactic| (apply r_first_cell; assumption; assumption))
local macro_rules | `(tactic| walk_at "fn") => `(tactic| (apply r_last_cell; assumption; assumption))
local macro_rules | `(tactic| walk_at "fn") => `(tactic| (apply r_whole; assumption; assumption; assumption))
local macro_rules | `(tactic| walk_at "fn") => `(tactic| (apply r_numbered; assumption; assumption))
local macro_rules | `(tactic| walk_at "fn") => `(tactic| (apply r_begun_of; assumption; assumption))
local macro_rules | `(tactic| walk_at "fn") => `(tactic| (apply r_begun_at; assumption; assumption))
local macro_rules | `(tactic| walk_at "fn") => `(tactic| (apply r_law_same; assumption))
local macro_rules | `(tactic| walk_at "fn") => `(tactic| exact r_law_posed)
local macro_rules | `(tactic| walk_at "fn") => `(tactic| (apply r_law_picture; assumption))
local macro_rules | `(tactic| walk_at "fn") => `(tactic| (apply r_law_figures; walk_at "sd"; walk_at "sd"; walk_at "sd"))
local macro_rules | `(tactic| walk_at "fn") => `(tactic| (apply r_law_way; assumption; assumption; assumption))
local macro_rules | `(tactic| walk_at "fn") => `(tactic| (apply r_law_carried; assumption; assumption; walk_at "sd"))
section
variable {P : Program} {w : World} {K : PySem.W.Frag} {mg : Str → Option Value} {base : Heap}
/-! ### the law's own: books begun -/
theorem inV_nats {o : List Nat} {k : Nat} : inV (dV (.int (k : Nat))) ((dNats o).map dV) = decide (k ∈ o) := by
  unfold inV dNats
  rw [List.map_map, List.any_map]
  induction o with
  | nil => simp
  | cons a o ih =>
    rw [List.any_cons, ih]
    show (eqV (V.int a) (V.int k) || decide (k ∈ o)) = _
    by_cases h : a = k
    · subst h; simp [eqV]
    · have h2 : ¬ ((a : Int) = k) := by omega
      have h3 : k ≠ a := fun z => h z.symm
      simp [eqV, h2, h3]
theorem nats_get {o : List Nat} {k : Nat} (h : k ∈ o) : (dNats o)[o.idxOf k]? = some (.int (k : Nat)) := by
  have hl := List.idxOf_lt_length_of_mem h
  unfold dNats
  rw [List.getElem?_map, List.getElem?_eq_getElem hl, List.getElem_idxOf hl]; rfl
theorem nats_no {o : List Nat} {k m : Nat} {z : D} (hm : m < o.idxOf k) (hz : (dNats o)[m]? = some z) : PyData.eqv z (.int (k : Nat)) = false := by
  unfold dNats at hz
  rw [List.getElem?_map] at hz
  obtain ⟨a, ha, rfl⟩ := Option.map_eq_some_iff.mp hz
  have hl := (List.getElem?_eq_some_iff.mp ha).1
  have hne : a ≠ k := by
    have := PySem.SeqAt.lt_idxOf_ne hm hl
    rw [List.getElem?_eq_getElem hl] at ha
    cases ha
    exact this
  have h2 : ¬ ((a : Int) = k) := by omega
  rw [PyData.eqv]
  simpa using h2
theorem eqv_int {k : Nat} : PyData.eqv (.int (k : Int)) (.int (k : Int)) = true := by rw [PyData.eqv]; simp
theorem shaped_int {i : Int} : SeqAt.shaped (.int i) = true := by simp [SeqAt.shaped, PyData.canLay0, PyData.depth]
def f_law_begun : List D → D → Prop := fun ds d => ∃ (B : Book) (k : Nat), ds = [dBook B, .int k] ∧ BookOk B ∧ k < B.kinds.length ∧ d = dBook (begun B k)
theorem r_law_begun {B : Book} {k : Nat} (h : BookOk B) (h1 : k < B.kinds.length) : f_law_begun [dBook B, .int k] (dBook (begun B k)) := ⟨_, _, rfl, h, h1, rfl⟩
theorem law_app {s0 s1 s2 s4 : S} {parts : List D} {o : List Nat} {p : Part} (hm : p.2.2 ∈ o) (hz : parts.length ≤ 1000000) :
    SS K (tDrop (tBM K "list" rAppend (tVar 5) (tCons (tTup (tCons (tVar 6) (tCons (tVar 7) (tCons (tBM K "list" (rIndexD K) (tVar 3) (tCons (tVar 8) tNil)) tNil)))) tNil)))
      [s0, s1, s2, .o false (.lst (dNats o)), s4, .o false (.lst parts), .d (.int p.1), .d (.int p.2.1), .d (.int (p.2.2 : Int))]
      (.next [s0, s1, s2, .o false (.lst (dNats o)), s4, .o false (.lst (parts ++ [dPart (p.1, p.2.1, o.idxOf p.2.2)])), .d (.int p.1), .d (.int p.2.1), .d (.int (p.2.2 : Int))]) := by
  have hE : EE K (tTup (tCons (tVar 6) (tCons (tVar 7) (tCons (tBM K "list" (rIndexD K) (tVar 3) (tCons (tVar 8) tNil)) tNil)))) [s0, s1, s2, .o false (.lst (dNats o)), s4, .o false (.lst parts), .d (.int p.1), .d (.int p.2.1), .d (.int (p.2.2 : Int))] [s0, s1, s2, .o false (.lst (dNats o)), s4, .o false (.lst parts), .d (.int p.1), .d (.int p.2.1), .d (.int (p.2.2 : Int))] (dPart (p.1, p.2.1, o.idxOf p.2.2)) := by
    apply ee_tup
    · apply ea_cons; exact ee_var rfl
      apply ea_cons; exact ee_var rfl
      apply ea_cons
      · exact ee_idxO (ds := dNats o) (z := .int (p.2.2 : Nat)) rfl (ee_var rfl) rfl shaped_nats shaped_int (nats_get hm) eqv_int (fun m z h1 h2 => nats_no h1 h2)
      exact ea_nil
    · exact (show 3 ≤ 1000000 by decide)
  exact SS.is (ss_append rfl hE rfl hz) rfl
theorem ok_law_begun (c : Cn K mg base) : Has P w K mg base "_law_begun" 1 ps_law_begun (spP K f_law_begun) := by
  refine mk_law_begun c fun fd F => fn_D F sc_law_begun (fun ds d h => by obtain ⟨_, _, rfl, _⟩ := h; rfl) fun cdv A outer s H E hr => ?_
  refine ⟨_, (pss_cons (ps_par (i := 3) (j := 4) rfl sc_law_begun.nd rfl rfl (by decide) rfl rfl (pa_cons (pe_lst (pa_cons (pv 1) pa_nil)) (pa_cons (pe_lst pa_nil) pa_nil)) rfl)
    (pss_cons (ps_for PassesOwn.never rfl (FlRange.pi_rangeL1 (by rfl) c.f_range (pa_cons (pe_callB (cLen K rfl) (by rfl) c.f_len b_len (pa_cons (pe_ix (ixT K rfl) (pv 0) pe_int (fun _ _ => rfl)) pa_nil)) pa_nil)) (pg_name (i := 2) sc_law_begun.nd rfl (by first | exact Or.inl rfl | exact Or.inr rfl)) (pss_one (ps_if (pt_cmpR op_lt (pv 2) (pe_callB (cLen K rfl) (by rfl) c.f_len b_len (pa_cons (pv 3) pa_nil)) (nomark _)) (pss_cons (ps_set (i := 5) sc_law_begun.nd rfl (by first | exact Or.inl rfl | exact Or.inr rfl) (pe_lst pa_nil))
    (pss_cons (ps_for PassesOwn.never rfl (piT K rfl (pe_ix (ixT K rfl) (pe_ix (ixT K rfl) (pv 0) pe_int (fun _ _ => rfl)) (pe_ix (ixL K rfl) (pv 3) (pv 2) (fun _ _ => rfl)) (fun _ _ => rfl))) (pgT K rfl (n := 3) rfl (pgs_cons (pg_name (i := 6) sc_law_begun.nd rfl (by first | exact Or.inl rfl | exact Or.inr rfl)) (pgs_cons (pg_name (i := 7) sc_law_begun.nd rfl (by first | exact Or.inl rfl | exact Or.inr rfl)) (pgs_cons (pg_name (i := 8) sc_law_begun.nd rfl (by first | exact Or.inl rfl | exact Or.inr rfl)) pgs_nil)))) (pss_cons (ps_if (pt_cmpR (notInS K rfl) (pv 8) (pv 3) rfl) (pss_one (ps_expr (bM K rfl PySem.F.plainAttrs_list PySem.F.slot_list_append PySem.F.type_list_append mt_append (pv 3) (pa_cons (pv 8) pa_nil)))) pss_nil)
    (pss_one (ps_expr (bM K rfl PySem.F.plainAttrs_list PySem.F.slot_list_append PySem.F.type_list_append mt_append (pv 5) (pa_cons (pe_tup (pa_cons (pv 6) (pa_cons (pv 7) (pa_cons (bM K rfl PySem.F.plainAttrs_list PySem.F.slot_list_index PySem.F.type_list_index (mIdx K (hu65 hr) rfl) (pv 3) (pa_cons (pv 8) pa_nil)) pa_nil)))) pa_nil))))))
    (pss_one (ps_expr (bM K rfl PySem.F.plainAttrs_list PySem.F.slot_list_append PySem.F.type_list_append mt_append (pv 4) (pa_cons (pe_callTy (cTup K rfl) (by rfl) c.f_tuple b_tuple (pa_cons (pv 5) pa_nil)) pa_nil)))))) pss_nil)))
    (pss_one (ps_ret (pe_tup (pa_cons (pe_ix (ixT K rfl) (pv 0) pe_int (fun _ _ => rfl)) (pa_cons (pe_callTy (cTup K rfl) (by rfl) c.f_tuple b_tuple (pa_cons (pv 4) pa_nil)) pa_nil))))))), ?_⟩
  rintro ds d ⟨B, k, rfl, ho, hk, rfl⟩
  show SD K _ [.d (.tuple [.int (B.b : Nat), .tuple (B.kinds.map dRow)]), .d (.int (k : Nat)), .any, .any, .any, .any, .any, .any, .any] _
  have hf := ho.few
  walk_at "par"
  apply sd_seq
  refine sd_for (ds := rangeD 0 B.kinds.length) (e0 := [.d (.tuple [.int (B.b : Nat), .tuple (B.kinds.map dRow)]), .d (.int (k : Nat)), .any, .o false (.lst (dNats [k])), .o false (.lst []), .any, .any, .any, .any]) ?_ (fun j e => ∃ v vr vx vy vp, S.isPm v = false ∧ S.isPm vr = false ∧ S.isPm vx = false ∧ S.isPm vy = false ∧ S.isPm vp = false ∧
    e = [.d (.tuple [.int (B.b : Nat), .tuple (B.kinds.map dRow)]), .d (.int (k : Nat)), v, .o false (.lst (dNats (numAll B k j).1)), .o false (.lst ((numAll B k j).2.map dRow)), vr, vx, vy, vp]) ⟨.any, .any, .any, .any, .any, rfl, rfl, rfl, rfl, rfl, rfl⟩ ?_ ?_
  · have e1 : B.kinds.length = ((((B.kinds.map dRow).length : Nat) : Int)).toNat := by rw [List.length_map, Int.toNat_natCast]
    rw [e1]
    walk_at "ei"
  · rintro j dd e hdd ⟨v, vr, vx, vy, vp, h1, h2, h3, h4, h5, rfl⟩
    have hj : j < B.kinds.length := by
      have := (List.getElem?_eq_some_iff.mp hdd).1
      rw [rangeD_len] at this
      exact this
    rw [rangeD_get hj, Int.zero_add] at hdd
    cases hdd
    obtain ⟨hO, hRl, hRw⟩ := numAll_ok ho hk j
    have hOl := hO.le
    refine ⟨_, _, gg_name rfl h1, ?_⟩
    apply sd_if; apply td_of
    · walk_at "et"
    have elen : (dNats (numAll B k j).1).length = (numAll B k j).1.length := by unfold dNats; rw [List.length_map]
    rw [elen]
    by_cases hc : j < (numAll B k j).1.length
    · rw [if_pos (decide_eq_true (by omega))]
      obtain ⟨kk, hget⟩ : ∃ kk, (numAll B k j).1[j]? = some kk := ⟨_, List.getElem?_eq_getElem hc⟩
      have hkk := hO.lt kk (List.mem_of_getElem? hget)
      have hrow := at_row hkk
      have hro := ho.row hkk
      have hrl := RowOk.few hro ho.b2.2
      have hnx := numAll_next hget
      have hatj : atI (dNats (numAll B k j).1) (j : Int) = some (.int (kk : Nat)) := Bk.atI_nat (by unfold dNats; rw [List.getElem?_map, hget]; rfl)
      apply sd_seq; apply sd_of
      · apply ss_asgN (s := vr)
        · walk_at "en"
        · rfl
        · exact h2
      apply sd_seq
      refine sd_for (ds := (B.row kk).map dPart) (e0 := [.d (.tuple [.int (B.b : Nat), .tuple (B.kinds.map dRow)]), .d (.int (k : Nat)), .d (.int (j : Int)), .o false (.lst (dNats (numAll B k j).1)), .o false (.lst ((numAll B k j).2.map dRow)), .o false (.lst []), vx, vy, vp]) ?_
        (fun i e => ∃ (vx vy vp : S), S.isPm vx = false ∧ S.isPm vy = false ∧ S.isPm vp = false ∧
          e = [.d (.tuple [.int (B.b : Nat), .tuple (B.kinds.map dRow)]), .d (.int (k : Nat)), .d (.int (j : Int)), .o false (.lst (dNats (((B.row kk).take i).foldl numPart ((numAll B k j).1, [])).1)), .o false (.lst ((numAll B k j).2.map dRow)), .o false (.lst ((((B.row kk).take i).foldl numPart ((numAll B k j).1, [])).2.map dPart)), vx, vy, vp]) ⟨vx, vy, vp, h3, h4, h5, rfl⟩ ?_ ?_
      · apply ei_tup
        refine ee_opP (x := .tuple (B.kinds.map dRow)) (y := .int (kk : Nat)) (ee_opP (ee_var rfl) ee_int (rr_ixT rfl)) (ee_ixO rfl (ee_var rfl) rfl hatj) (rr_ixT hrow)
      · rintro i dd e hdd ⟨vx, vy, vp, h3, h4, h5, rfl⟩
        rw [List.getElem?_map] at hdd
        obtain ⟨p, hp, rfl⟩ := Option.map_eq_some_iff.mp hdd
        have hpin := hro.inn p (List.mem_of_getElem? hp)
        obtain ⟨g1, g2, g3⟩ := fold_ok ((B.row kk).take i) ((numAll B k j).1, []) (fun q hq => (hro.inn q (List.mem_of_mem_take hq)).2.2.2.2) hO
        have hsucc := fold_succ (s := ((numAll B k j).1, ([] : Bk.Row))) hp
        have hilt := (List.getElem?_eq_some_iff.mp hp).1
        rw [List.length_take] at g3
        generalize hst : ((B.row kk).take i).foldl numPart ((numAll B k j).1, []) = st at g1 g2 g3 hsucc
        have gle := g1.le
        refine ⟨_, _, gg_tup (ds := [.int p.1, .int p.2.1, .int p.2.2]) (by walk_at "ggs") rfl, ?_⟩
        have hpl : (st.2.map dPart).length ≤ 1000000 := by
          rw [List.length_map, g3]
          show 0 + _ ≤ _
          omega
        apply sd_seq
        apply sd_if
        apply td_of
        · apply et_test
          exact ee_inO (neg := true) (ee_var rfl) rfl rfl (by unfold dNats; simp [sca]) rfl
        rw [if_pos rfl, inV_nats]
        by_cases hm : p.2.2 ∈ st.1
        · rw [decide_eq_true hm]
          show SD K _ _ _
          apply sd_next
          apply sd_of (law_app hm hpl)
          have e1 : addOwn st.1 p.2.2 = st.1 := if_pos hm
          refine ⟨.d (.int p.1), .d (.int p.2.1), .d (.int (p.2.2 : Int)), rfl, rfl, rfl, ?_⟩
          rw [hsucc]
          unfold numPart
          rw [e1, dRow_snoc]
        · rw [decide_eq_false hm]
          show SD K _ _ _
          have e1 : addOwn st.1 p.2.2 = st.1 ++ [p.2.2] := if_neg hm
          apply sd_of
          · apply ss_append rfl
            · exact ee_var rfl
            · rfl
            · unfold dNats; rw [List.length_map]; omega
          rw [← dNats_snoc]
          apply sd_of (law_app (o := st.1 ++ [p.2.2]) (by simp) hpl)
          refine ⟨.d (.int p.1), .d (.int p.2.1), .d (.int (p.2.2 : Int)), rfl, rfl, rfl, ?_⟩
          rw [hsucc]
          unfold numPart
          rw [e1, dRow_snoc]
      · rintro e ⟨vx, vy, vp, h3, h4, h5, rfl⟩
        rw [List.length_map, List.take_length]
        show SD K _ _ _
        apply sd_of
        · apply ss_append rfl
          · exact ee_tupleO rfl
          · rfl
          · rw [List.length_map]; omega
        have e1 : (numAll B k (j + 1)).1 = ((B.row kk).foldl numPart ((numAll B k j).1, [])).1 := by rw [hnx]; rfl
        have e2 : (numAll B k (j + 1)).2 = (numAll B k j).2 ++ [((B.row kk).foldl numPart ((numAll B k j).1, [])).2] := by rw [hnx]; rfl
        refine ⟨.d (.int (j : Int)), .o false (.lst (((B.row kk).foldl numPart ((numAll B k j).1, [])).2.map dPart)), vx, vy, vp, rfl, rfl, h3, h4, h5, ?_⟩
        rw [e1, e2, List.map_append]
        rfl
    · rw [if_neg (by simpa using hc)]
      apply sd_next
      have e1 := numAll_stay (Nat.le_of_not_lt hc) 1
      refine ⟨.d (.int (j : Int)), vr, vx, vy, vp, rfl, h2, h3, h4, h5, ?_⟩
      rw [e1]
      rfl
  · rintro e ⟨v, vr, vx, vy, vp, h1, h2, h3, h4, h5, rfl⟩
    rw [rangeD_len]
    walk_at "ret"
    show PyData.tuple _ = dBook (begun B k)
    unfold dBook begun
    rfl
local macro_rules | `(tactic| walk_at "fn") => `(tactic| (apply r_law_begun; assumption; assumption))
end
end K20
set_option autoImplicit false
set_option Elab.async false
set_option linter.all false
set_option maxRecDepth 100000
set_option maxHeartbeats 4000000
namespace K20
open PySem PySem.Spec PyProof.Rows L2 Fl Bk
local macro_rules | `(tactic| walk_at "sd") => `(tactic| first | assumption | rfl | omega | exact Nat.le_of_ble_eq_true rfl | (constructor <;> omega) | decide | (left; constructor <;> omega) | (right; constructor <;> omega))
local macro_rules | `(tactic| walk_at "fn") => `(tactic| fail "fn")
local macro_rules | `(tactic| walk_at "rc") => `(tactic| first | exact rc_len rfl | exact rc_tuple rfl | exact rc_all | exact rc_any | exact rc_sum | exact rc_int1 | exact rc_min2 | exact rc_max2)
local macro_rules | `(tactic| walk_at "rcn") => `(tactic| first | exact rcn_list rfl)
local macro_rules | `(tactic| walk_at "rr") => `(tactic| first | exact rr_i | exact rr_b | exact rr_eqI | exact rr_neI | exact rr_eqB | exact rr_neB | exact rr_eqS | exact rr_neS | (apply rr_ixT; first | rfl | assumption) | (apply rr_ixL; first | rfl | assumption) | (apply rr_ic; walk_at "sd") | (apply rr_catT; first | (exact List.cons_ne_nil _ _) | assumption; walk_at "sd"))
local macro_rules | `(tactic| walk_at "ea") => `(tactic| first | exact ea_nil | (apply ea_cons; walk_at "ee"; walk_at "ea"))
local macro_rules | `(tactic| walk_at "et") => `(tactic| first | (apply et_test; walk_at "ee") | (apply et_B; walk_at "ee") | (apply et_not; walk_at "et") | exact et_yes | (apply et_andP; walk_at "et"; walk_at "et") | (apply et_orP; walk_at "et"; walk_at "et"))
local macro_rules | `(tactic| walk_at "en") => `(tactic| first | (apply en_lst; walk_at "ea"; walk_at "sd") | (apply en_cb; walk_at "ea"; walk_at "rcn") | (apply en_revO; rfl) | (apply en_revL; walk_at "ee"))
local macro_rules | `(tactic| walk_at "ex") => `(tactic| first | exact ex_nil | (apply ex_n; walk_at "en"; (intro _ z; cases z); walk_at "ex") | (apply ex_t; walk_at "ee"; walk_at "ex"))
local macro_rules | `(tactic| walk_at "eo") => `(tactic| first | exact eo_no | (apply eo_part; walk_at "ee"))
local macro_rules | `(tactic| walk_at "gg") => `(tactic| first | exact gg_name rfl rfl | exact gg_name rfl (by assumption) | (apply gg_tup; walk_at "ggs"; rfl) | (apply gg_lst; walk_at "ggs"; rfl))
local macro_rules | `(tactic| walk_at "ggs") => `(tactic| first | exact ggs_nil | (apply ggs_cons; walk_at "gg"; walk_at "ggs"))
local macro_rules | `(tactic| walk_at "ei") => `(tactic| first | (apply ei_rangeL1; walk_at "ea") | (apply ei_rangeL2; walk_at "ea") | (apply ei_tup; walk_at "ee") | (apply ei_list; walk_at "ee"))
local macro_rules | `(tactic| walk_at "ee") => `(tactic| first
  | exact ee_var rfl
  | exact ee_int
  | exact ee_bl
  | exact ee_non
  | exact ee_str
  | (apply ee_ixO rfl; walk_at "ee"; rfl; first | rfl | assumption)
  | (apply ee_op; walk_at "ee"; walk_at "ee"; walk_at "rr")
  | (apply ee_tup; walk_at "ea"; walk_at "sd")
  | (apply ee_call; walk_at "ea"; walk_at "fn")
  | (apply ee_isi; walk_at "ee"; rfl; rfl)
  | exact ee_lenO rfl
  | exact ee_tupleO rfl
  | (apply ee_cb; walk_at "ea"; walk_at "rc")
  | (apply ee_andP; walk_at "ee"; walk_at "ee")
  | (apply ee_orP; walk_at "ee"; walk_at "ee")
  | (apply ee_notV; walk_at "ee")
  | (apply ee_neg; walk_at "ee")
  | (apply ee_revT; walk_at "ee")
  | (apply ee_slT; walk_at "ee"; walk_at "eo"; walk_at "eo"; walk_at "sd")
  | (apply EN.tree; walk_at "en"))
local macro_rules | `(tactic| walk_at "asg") => `(tactic| (apply sd_seq; apply sd_asg; apply ed_of; walk_at "ee"; refine ⟨⟨_, rfl, rfl⟩, ?_⟩))
local macro_rules | `(tactic| walk_at "asgN") => `(tactic| (apply sd_seq; apply sd_of; apply ss_asgN; walk_at "en"; rfl; rfl))
local macro_rules | `(tactic| walk_at "asgG") => `(tactic| (apply sd_seq; apply sd_of; apply ss_asgG; walk_at "ee"; walk_at "gg"))
local macro_rules | `(tactic| walk_at "par") => `(tactic| (apply sd_seq; apply sd_of; apply ss_parX; walk_at "ex"; decide; rfl; rfl; rfl; rfl))
local macro_rules | `(tactic| walk_at "par3") => `(tactic| (apply sd_seq; apply sd_of; apply ss_par3X; walk_at "ex"; decide; decide; decide; rfl; rfl; rfl; rfl; rfl; rfl))
local macro_rules | `(tactic| walk_at "ret") => `(tactic| (apply sd_ret; apply ed_of; walk_at "ee"))
local macro_rules | `(tactic| walk_at "no") => `(tactic| (apply sd_seq; apply sd_if; apply td_of; walk_at "et"))
local macro_rules | `(tactic| walk_at "drop") => `(tactic| (apply sd_seq; apply sd_drop; apply ed_of; walk_at "ee"))
local macro_rules | `(tactic| walk_at "fn") => `(tactic| exact r_is_integer)
local macro_rules | `(tactic| walk_at "fn") => `(tactic| exact r_is_natural)
local macro_rules | `(tactic| walk_at "fn") => `(tactic| exact r_is_below)
local macro_rules | `(tactic| walk_at "fn") => `(tactic| exact r_is_pair)
local macro_rules | `(tactic| walk_at "fn") => `(tactic| (apply r_power; walk_at "sd"))
local macro_rules | `(tactic| walk_at "fn") => `(tactic| (apply r_is_cell_below; walk_at "sd"))
local macro_rules | `(tactic| walk_at "fn") => `(tactic| (apply r_is_posture; walk_at "sd"; walk_at "sd"))
local macro_rules | `(tactic| walk_at "fn") => `(tactic| exact r_posed)
local macro_rules | `(tactic| walk_at "fn") => `(tactic| (apply r_is_part; assumption))
local macro_rules | `(tactic| walk_at "fn") => `(tactic| (apply r_is_kind_of; assumption; assumption))
local macro_rules | `(tactic| walk_at "fn") => `(tactic| (apply r_is_book; assumption))
local macro_rules | `(tactic| walk_at "fn") => `(tactic| (apply r_check_book; assumption))
local macro_rules | `(tactic| walk_at "fn") => `(tactic| (apply r_check_kind; assumption))
local macro_rules | `(tactic| walk_at "fn") => `(tactic| (apply r_turned_of; assumption))
local macro_rules | `(tactic| walk_at "fn") => `(tactic| (apply r_check_posture; assumption; assumption))
local macro_rules | `(tactic| walk_at "fn") => `(tactic| (apply r_turned; assumption; assumption; assumption))
local macro_rules | `(tactic| walk_at "fn") => `(tactic| (apply r_backward_of; assumption))
local macro_rules | `(tactic| walk_at "fn") => `(tactic| (apply r_backward; assumption))
local macro_rules | `(tactic| walk_at "fn") => `(tactic| exact r_check_depth)
local macro_rules | `(tactic| walk_at "fn") => `(tactic| exact r_check_many)
local macro_rules | `(tactic| walk_at "fn") => `(tactic| (apply r_cells_each_way; assumption))
local macro_rules | `(tactic| walk_at "fn") => `(tactic| (apply r_how_many_cells; assumption))
local macro_rules | `(tactic| walk_at "fn") => `(tactic| (apply r_check_cell; assumption; assumption))
local macro_rules | `(tactic| walk_at "fn") => `(tactic| (apply r_check_number; assumption; walk_at "sd"))
local macro_rules | `(tactic| walk_at "fn") => `(tactic| (apply r_way_to; assumption; assumption; assumption; assumption))
local macro_rules | `(tactic| walk_at "fn") => `(tactic| (apply r_number_in; assumption; assumption; assumption; assumption))
local macro_rules | `(tactic| walk_at "fn") => `(tactic| (apply r_number_of; assumption; assumption; assumption))
local macro_rules | `(tactic| walk_at "fn") => `(tactic| (apply r_cell_in; assumption; assumption; assumption; assumption))
local macro_rules | `(tactic| walk_at "fn") => `(tactic| (apply r_cell_of; assumption; assumption; assumption))
local macro_rules | `(tactic| walk_at "fn") => `(tactic| (apply r_kinds_on; assumption; assumption; assumption))
local macro_rules | `(tactic| walk_at "fn") => `(tactic| (apply r_thread_of; assumption; assumption; assumption; assumption))
local macro_rules | `(tactic| walk_at "fn") => `(tactic| (apply r_thread; assumption; assumption; assumption; assumption))
local macro_rules | `(tactic| walk_at "fn") => `(tactic| (apply r_first_cell; assumption; assumption))
local macro_rules | `(tactic| walk_at "fn") => `(tactic| (apply r_last_cell; assumption; assumption))
local macro_rules | `(tactic| walk_at "fn") => `(tactic| (apply r_whole; assumption; assumption; assumption))
local macro_rules | `(tactic| walk_at "fn") => `(tactic| (apply r_numbered; assumption; assumption))
local macro_rules | `(tactic| walk_at "fn") => `(tactic| (apply r_begun_of; assumption; assumption))
local macro_rules | `(tactic| walk_at "fn") => `(tactic| (apply r_begun_at; assumption; assumption))
local macro_rules | `(tactic| walk_at "fn") => `(tactic| (apply r_law_same; assumption))
local macro_rules | `(tactic| walk_at "fn") => `(tactic| exact r_law_posed)
local macro_rules | `(tactic| walk_at "fn") => `(tactic| (apply r_law_picture; assumption))
local macro_rules | `(tactic| walk_at "fn") => `(tactic| (apply r_law_figures; walk_at "sd"; walk_at "sd"; walk_at "sd"))
local macro_rules | `(tactic| walk_at "fn") => `(tactic| (apply r_law_way; assumption; assumption; assumption))
local macro_rules | `(tactic| walk_at "fn") => `(tactic| (apply r_law_carried; assumption; assumption; walk_at "sd"))
local macro_rules | `(tactic| walk_at "fn") => `(tactic| (apply r_law_begun; assumption; assumption))
section
variable {P : Program} {w : World} {K : PySem.W.Frag} {mg : Str → Option Value} {base : Heap}
/-! ### the law's own: drawn books -/
def PostBook (many : Nat) (c' : Ct) (d : D) : Prop := ∃ (p' : Pot) (B : Book), c' = potC p' ∧ PotOk p' ∧ d = dBook B ∧ BookOk B ∧ B.kinds.length ≤ many
def PreAny : Ct → List D → Prop := fun c ds => ∃ (p : Pot) (b many : Nat), c = potC p ∧ PotOk p ∧ ds = [.int b, .int many] ∧ (b = 2 ∨ b = 3) ∧ 1 ≤ many ∧ many ≤ 100
def PostAny : Ct → List D → Ct → D → Prop := fun _ ds c' d => ∀ b many : Nat, ds = [.int b, .int many] → PostBook many c' d
theorem map_erase {α β : Type} {f : α → β} : ∀ (L : List α) (j : Nat), (L.eraseIdx j).map f = (L.map f).eraseIdx j
  | [], _ => rfl
  | _ :: _, 0 => rfl
  | a :: l, j + 1 => by
    show f a :: (l.eraseIdx j).map f = f a :: (l.map f).eraseIdx j
    rw [map_erase l j]
theorem small_lt {n : Nat} (h : n ≤ 1000) : n < 2 ^ 8500 := Nat.lt_of_le_of_lt h (Nat.lt_of_lt_of_le (show 1000 < 2 ^ 10 by decide) (Nat.pow_le_pow_right (by decide) (by decide)))
theorem ok_law_any_book (c : Cn K mg base) : Has P w K mg base "_law_any_book" 2 ps_law_any_book (spN K PreAny PostAny) := by
  refine mk_law_any_book c fun fd F => fn_N F sc_law_any_book (fun c ds h => by obtain ⟨_, _, _, _, _, rfl, _⟩ := h; rfl) fun cdv A outer s H E hr => ?_
  refine ⟨_, (pss_cons (ps_set (i := 3) sc_law_any_book.nd rfl (by first | exact Or.inl rfl | exact Or.inr rfl) (pe_lst pa_nil))
    (pss_cons (ps_for PassesOwn.never rfl (FlRange.pi_rangeL1 (by rfl) c.f_range (pa_cons (pv 2) pa_nil)) (pg_name (i := 4) sc_law_any_book.nd rfl (by first | exact Or.inl rfl | exact Or.inr rfl)) (pss_cons (ps_par (i := 6) (j := 7) rfl sc_law_any_book.nd rfl rfl (by decide) rfl rfl (pa_cons (pe_lc (own := [("at", 5)]) rfl sc_law_any_book.nd (FlRange.pi_rangeL1 (by rfl) c.f_range (pa_cons (pe_op op_mul (pv 1) (pv 1)) pa_nil)) (blkOk_by rfl) (fun _ _ _ _ _ => (pg_name (i := 5) sc_law_any_book.nd rfl (by first | exact Or.inl rfl | exact Or.inr rfl))) (fun _ _ _ _ _ => pts_nil) (fun _ _ _ _ _ => (pe_tup (pa_cons (pe_op op_fdivW (pv 5) (pv 1)) (pa_cons (pe_op op_mod (pe_callTy call_int1 (by rfl) c.f_int b_int (pa_cons (pv 5) pa_nil)) (pv 1)) pa_nil))))) (pa_cons (pe_lst pa_nil) pa_nil)) rfl)
    (pss_cons (ps_for PassesOwn.never rfl (FlRange.pi_rangeL1 (by rfl) c.f_range (pa_cons (pe_op op_mul (pv 1) (pv 1)) pa_nil)) (pg_name (i := 5) sc_law_any_book.nd rfl (by first | exact Or.inl rfl | exact Or.inr rfl)) (pss_cons (ps_asg (bM K rfl PySem.F.plainAttrs_list PySem.F.slot_list_pop PySem.F.type_list_pop mt_popAt (pv 6) (pa_cons (pe_has (ok_law_draw c) hr (pa_cons (pv 0) (pa_cons (pe_callB (cLen K rfl) (by rfl) c.f_len b_len (pa_cons (pv 6) pa_nil)) pa_nil))) pa_nil)) (pgT K rfl (n := 2) rfl (pgs_cons (pg_name (i := 8) sc_law_any_book.nd rfl (by first | exact Or.inl rfl | exact Or.inr rfl)) (pgs_cons (pg_name (i := 9) sc_law_any_book.nd rfl (by first | exact Or.inl rfl | exact Or.inr rfl)) pgs_nil))))
    (pss_one (ps_expr (bM K rfl PySem.F.plainAttrs_list PySem.F.slot_list_append PySem.F.type_list_append mt_append (pv 7) (pa_cons (pe_tup (pa_cons (pv 8) (pa_cons (pv 9) (pa_cons (pe_has (ok_law_draw c) hr (pa_cons (pv 0) (pa_cons (pv 2) pa_nil))) pa_nil)))) pa_nil))))))
    (pss_one (ps_expr (bM K rfl PySem.F.plainAttrs_list PySem.F.slot_list_append PySem.F.type_list_append mt_append (pv 3) (pa_cons (pe_callTy (cTup K rfl) (by rfl) c.f_tuple b_tuple (pa_cons (pv 7) pa_nil)) pa_nil)))))))
    (pss_one (ps_ret (pe_tup (pa_cons (pv 1) (pa_cons (pe_callTy (cTup K rfl) (by rfl) c.f_tuple b_tuple (pa_cons (pv 3) pa_nil)) pa_nil))))))), ?_⟩
  rintro c ds ⟨p, b, many, rfl, hp, rfl, hb, hm, hm2⟩
  show SD K _ [.o true (potC p), .d (.int (b : Nat)), .d (.int (many : Nat)), .any, .any, .any, .any, .any, .any, .any] _
  have hb2 : 2 ≤ b ∧ b ≤ 3 := by omega
  have hbb : 4 ≤ b * b ∧ b * b ≤ 9 := by rcases hb with rfl | rfl <;> decide
  have hbi : (0 : Int) < b := by omega
  walk_at "asgN"
  apply sd_seq
  refine sd_for (ds := rangeD 0 many) (e0 := [.o true (potC p), .d (.int (b : Nat)), .d (.int (many : Nat)), .o false (.lst []), .any, .any, .any, .any, .any, .any]) (by
      have e : many = ((many : Nat) : Int).toNat := (Int.toNat_natCast _).symm
      exact cast (congrArg (fun z => EI K _ _ _ (rangeD 0 z)) e.symm) (ei_rangeL1 (K := K) (n := (many : Nat)) (ea_consP (ee_var rfl) ea_nil)))
    (fun i e => ∃ (p : Pot) (rows : List Bk.Row) (v4 v5 v6 v7 v8 v9 : S), PotOk p ∧ rows.length = i ∧ (∀ r ∈ rows, RowOk b many r) ∧ S.isPm v4 = false ∧ S.isPm v5 = false ∧ S.isPm v6 = false ∧ S.isPm v7 = false ∧ S.isPm v8 = false ∧ S.isPm v9 = false ∧
      e = [.o true (potC p), .d (.int (b : Nat)), .d (.int (many : Nat)), .o false (.lst (rows.map dRow)), v4, v5, v6, v7, v8, v9]) ⟨p, [], .any, .any, .any, .any, .any, .any, hp, rfl, (fun r hr => by cases hr), rfl, rfl, rfl, rfl, rfl, rfl, rfl⟩ ?_ ?_
  · rintro i dd e hdd ⟨p, rows, v4, v5, v6, v7, v8, v9, hp, hrl, hro, h4, h5, h6, h7, h8, h9, rfl⟩
    have hi : i < many := by
      have := (List.getElem?_eq_some_iff.mp hdd).1
      rw [rangeD_len] at this
      exact this
    refine ⟨_, _, gg_name rfl h4, ?_⟩
    -- the block's own name is the loop's, too
    refine sd_pre (e1 := [.o true (potC p), .d (.int (b : Nat)), .d (.int (many : Nat)), .o false (.lst (rows.map dRow)), .d dd, .any, v6, v7, v8, v9]) (sub_forget (i := 5) (s := v5) rfl h5) ?_
    apply sd_seq; apply sd_of
    · apply ss_parX (s := v6) (s' := v7)
      · apply ex_n
        · apply en_lcF (ys := (left0 b).map dCell)
          · exact ei_rangeL1 (n := ((b * b : Nat) : Int)) (ea_consP (EE.is (ee_opP (ee_var rfl) (ee_var rfl) (rr_ic (Or.inl ⟨by omega, by omega⟩))) (by push_cast; rfl)) ea_nil)
          · unfold left0; rw [rangeD_len, List.length_map, List.length_map, List.length_range, Int.toNat_natCast]
          · rw [rangeD_len, Int.toNat_natCast]; omega
          · rfl
          · intro j d y hd hy
            have hj := (List.getElem?_eq_some_iff.mp hd).1
            rw [rangeD_len] at hj
            rw [rangeD_get hj, Int.zero_add] at hd
            cases hd
            rw [Int.toNat_natCast] at hj
            unfold left0 at hy
            rw [List.getElem?_map, List.getElem?_map, List.getElem?_range hj] at hy
            cases hy
            refine ⟨_, _, gg_name rfl rfl, et_yes, ?_, rfl, rfl⟩
            refine ee_tup (ea_consP (ee_opP (ee_var rfl) (ee_var rfl) (rr_ic (small_div (n := b) (by omega) (by omega)))) (ea_consP (ee_opP (ee_cb (ea_consP (ee_var rfl) ea_nil) rc_int1) (ee_var rfl) (rr_ic hbi)) ea_nil)) (show 2 ≤ 1000000 by decide)
        · intro _ z; cases z
        apply ex_n
        · walk_at "en"
        · intro _ z; cases z
        exact ex_nil
      · decide
      · rfl
      · exact h6
      · rfl
      · exact h7
    apply sd_seq
    refine sd_for (ds := rangeD 0 (b * b)) (e0 := [.o true (potC p), .d (.int (b : Nat)), .d (.int (many : Nat)), .o false (.lst (rows.map dRow)), .d dd, .any, .o false (.lst ((left0 b).map dCell)), .o false (.lst []), v8, v9]) (by
        have e : b * b = ((b * b : Nat) : Int).toNat := (Int.toNat_natCast _).symm
        refine cast (congrArg (fun z => EI K _ _ _ (rangeD 0 z)) e.symm) (ei_rangeL1 (K := K) (n := ((b * b : Nat) : Int)) (ea_consP (EE.is (ee_opP (ee_var rfl) (ee_var rfl) (rr_ic (Or.inl ⟨by omega, by omega⟩))) (by push_cast; rfl)) ea_nil)))
      (fun j e => ∃ (p : Pot) (L : List (Int × Int)) (row : Bk.Row) (v5 v8 v9 : S), PotOk p ∧ PartRow b many j L row ∧ S.isPm v5 = false ∧ S.isPm v8 = false ∧ S.isPm v9 = false ∧
        e = [.o true (potC p), .d (.int (b : Nat)), .d (.int (many : Nat)), .o false (.lst (rows.map dRow)), .d dd, v5, .o false (.lst (L.map dCell)), .o false (.lst (row.map dPart)), v8, v9]) ⟨p, left0 b, [], .any, v8, v9, hp, left0_ok hb, rfl, h8, h9, rfl⟩ ?_ ?_
    · rintro j d2 e hd2 ⟨p, L, row, v5, v8, v9, hp, hpr, h5, h8, h9, rfl⟩
      have hj : j < b * b := by
        have := (List.getElem?_eq_some_iff.mp hd2).1
        rw [rangeD_len] at this
        exact this
      have hLl : 0 < L.length := by have := hpr.lL; omega
      have hLb : L.length ≤ 9 := by have := hpr.lL; omega
      have hdr := drawV_lt (p := p) hLl
      have hx := List.getElem?_eq_getElem hdr
      have hp2 := drawP_ok (many := L.length) hp
      have ho := drawV_lt (p := drawP p L.length) (show 0 < many by omega)
      refine ⟨_, _, gg_name rfl h5, ?_⟩
      apply sd_seq; apply sd_of
      · apply ss_asgG
        · apply ee_popAt (k := drawV p L.length) (d := dCell L[drawV p L.length]) (ds' := L.map dCell) rfl
          · apply ee_draw (many := L.length) rfl
            · refine EE.is (ee_lenO rfl) ?_
              rw [List.length_map]
            · exact hp
            · exact hLl
            · exact small_lt (by omega)
          · rfl
          · omega
          · exact seq_nat (by rw [List.length_map]; exact hdr)
          · rw [List.getElem?_map, hx]; rfl
        · exact gg_tup (ds := [.int L[drawV p L.length].1, .int L[drawV p L.length].2]) (ggs_cons (gg_name rfl h8) (ggs_cons (gg_name rfl h9) ggs_nil)) rfl
      apply sd_of
      · apply ss_append rfl
        · apply ee_tup
          · apply ea_cons; exact ee_var rfl
            apply ea_cons; exact ee_var rfl
            apply ea_cons
            · exact ee_draw (many := many) rfl (ee_var rfl) hp2 (by omega) (small_lt (by omega))
            exact ea_nil
          · exact (show 3 ≤ 1000000 by decide)
        · rfl
        · rw [List.length_map, hpr.lr]; omega
      refine ⟨drawP (drawP p L.length) many, L.eraseIdx (drawV p L.length), row ++ [(L[drawV p L.length].1, L[drawV p L.length].2, drawV (drawP p L.length) many)], .d d2, .d (.int L[drawV p L.length].1), .d (.int L[drawV p L.length].2), drawP_ok hp2, hpr.step hx ho, rfl, rfl, rfl, ?_⟩
      rw [dRow_snoc, map_erase]
      rfl
    · rintro e ⟨p, L, row, v5, v8, v9, hp, hpr, h5, h8, h9, rfl⟩
      rw [rangeD_len] at hpr
      show SD K _ _ _
      apply sd_of
      · apply ss_append rfl
        · exact ee_tupleO rfl
        · rfl
        · rw [List.length_map, hrl]; omega
      refine ⟨p, rows ++ [row], .d dd, v5, .o false (.lst (L.map dCell)), .o false (.lst (row.map dPart)), v8, v9, hp, by rw [List.length_append, hrl]; rfl, ?_, rfl, h5, rfl, rfl, h8, h9, ?_⟩
      · intro r hr
        rcases List.mem_append.mp hr with hr | hr
        · exact hro r hr
        · have e : r = row := by simpa using hr
          rw [e]; exact hpr.done
      · rw [List.map_append]; rfl
  · rintro e ⟨p, rows, v4, v5, v6, v7, v8, v9, hp, hrl, hro, h4, h5, h6, h7, h8, h9, rfl⟩
    rw [rangeD_len] at hrl
    walk_at "ret"
    refine ⟨potC p, rfl, fun b' many' he => ?_⟩
    injection he with e1 e2
    injection e2 with e2 _
    injection e2 with e2
    have em : many = many' := by omega
    subst em
    refine ⟨p, ⟨b, rows⟩, rfl, hp, rfl, bookOk_of hb hm hm2 hrl hro, ?_⟩
    show rows.length ≤ many
    omega
end
end K20
set_option autoImplicit false
set_option Elab.async false
set_option linter.all false
set_option maxRecDepth 100000
set_option maxHeartbeats 4000000
namespace K20
open PySem PySem.Spec PyProof.Rows L2 Fl Bk
local macro_rules | `(tactic| walk_at "sd") => `(tactic| first | assumption | rfl | omega | exact Nat.le_of_ble_eq_true rfl | (constructor <;> omega) | decide | (left; constructor <;> omega) | (right; constructor <;> omega))
local macro_rules | `(tactic| walk_at "fn") => `(tactic| fail "fn")
local macro_rules | `(tactic| walk_at "rc") => `(tactic| first | exact rc_len rfl | exact rc_tuple rfl | exact rc_all | exact rc_any | exact rc_sum | exact rc_int1 | exact rc_min2 | exact rc_max2)
local macro_rules | `(tactic| walk_at "rcn") => `(tactic| first | exact rcn_list rfl)
local macro_rules | `(tactic| walk_at "rr") => `(tactic| first | exact rr_i | exact rr_b | exact rr_eqI | exact rr_neI | exact rr_eqB | exact rr_neB | exact rr_eqS | exact rr_neS | (apply rr_ixT; first | rfl | assumption) | (apply rr_ixL; first | rfl | assumption) | (apply rr_ic; walk_at "sd") | (apply rr_catT; first | (exact List.cons_ne_nil _ _) | assumption; walk_at "sd"))
local macro_rules | `(tactic| walk_at "ea") => `(tactic| first | exact ea_nil | (apply ea_cons; walk_at "ee"; walk_at "ea"))
local macro_rules | `(tactic| walk_at "et") => `(tactic| first | (apply et_test; walk_at "ee") | (apply et_B; walk_at "ee") | (apply et_not; walk_at "et") | exact et_yes | (apply et_andP; walk_at "et"; walk_at "et") | (apply et_orP; walk_at "et"; walk_at "et"))
local macro_rules | `(tactic| walk_at "en") => `(tactic| first | (apply en_lst; walk_at "ea"; walk_at "sd") | (apply en_cb; walk_at "ea"; walk_at "rcn") | (apply en_revO; rfl) | (apply en_revL; walk_at "ee"))
local macro_rules | `(tactic| walk_at "ex") => `(tactic| first | exact ex_nil | (apply ex_n; walk_at "en"; (intro _ z; cases z); walk_at "ex") | (apply ex_t; walk_at "ee"; walk_at "ex"))
local macro_rules | `(tactic| walk_at "eo") => `(tactic| first | exact eo_no | (apply eo_part; walk_at "ee"))
local macro_rules | `(tactic| walk_at "gg") => `(tactic| first | exact gg_name rfl rfl | exact gg_name rfl (by assumption) | (apply gg_tup; walk_at "ggs"; rfl) | (apply gg_lst; walk_at "ggs"; rfl))
local macro_rules | `(tactic| walk_at "ggs") => `(tactic| first | exact ggs_nil | (apply ggs_cons; walk_at "gg"; walk_at "ggs"))
local macro_rules | `(tactic| walk_at "ei") => `(tactic| first | (apply ei_rangeL1; walk_at "ea") | (apply ei_rangeL2; walk_at "ea") | (apply ei_tup; walk_at "ee") | (apply ei_list; walk_at "ee"))
local macro_rules | `(tactic| walk_at "ee") => `(tactic| first
  | exact ee_var rfl
  | exact ee_int
  | exact ee_bl
  | exact ee_non
  | exact ee_str
  | (apply ee_ixO rfl; walk_at "ee"; rfl; first | rfl | assumption)
  | (apply ee_op; walk_at "ee"; walk_at "ee"; walk_at "rr")
  | (apply ee_tup; walk_at "ea"; walk_at "sd")
  | (apply ee_call; walk_at "ea"; walk_at "fn")
  | (apply ee_isi; walk_at "ee"; rfl; rfl)
  | exact ee_lenO rfl
  | exact ee_tupleO rfl
  | (apply ee_cb; walk_at "ea"; walk_at "rc")
  | (apply ee_andP; walk_at "ee"; walk_at "ee")
  | (apply ee_orP; walk_at "ee"; walk_at "ee")
  | (apply ee_notV; walk_at "ee")
  | (apply ee_neg; walk_at "ee")
  | (apply ee_revT; walk_at "ee")
  | (apply ee_slT; walk_at "ee"; walk_at "eo"; walk_at "eo"; walk_at "sd")
  | (apply EN.tree; walk_at "en"))
local macro_rules | `(tactic| walk_at "asg") => `(tactic| (apply sd_seq; apply sd_asg; apply ed_of; walk_at "ee"; refine ⟨⟨_, rfl, rfl⟩, ?_⟩))
local macro_rules | `(tactic| walk_at "asgN") => `(tactic| (apply sd_seq; apply sd_of; apply ss_asgN; walk_at "en"; rfl; rfl))
local macro_rules | `(tactic| walk_at "asgG") => `(tactic| (apply sd_seq; apply sd_of; apply ss_asgG; walk_at "ee"; walk_at "gg"))
local macro_rules | `(tactic| walk_at "par") => `(tactic| (apply sd_seq; apply sd_of; apply ss_parX; walk_at "ex"; decide; rfl; rfl; rfl; rfl))
local macro_rules | `(tactic| walk_at "par3") => `(tactic| (apply sd_seq; apply sd_of; apply ss_par3X; walk_at "ex"; decide; decide; decide; rfl; rfl; rfl; rfl; rfl; rfl))
local macro_rules | `(tactic| walk_at "ret") => `(tactic| (apply sd_ret; apply ed_of; walk_at "ee"))
local macro_rules | `(tactic| walk_at "no") => `(tactic| (apply sd_seq; apply sd_if; apply td_of; walk_at "et"))
local macro_rules | `(tactic| walk_at "drop") => `(tactic| (apply sd_seq; apply sd_drop; apply ed_of; walk_at "ee"))
local macro_rules | `(tactic| walk_at "fn") => `(tactic| exact r_is_integer)
local macro_rules | `(tactic| walk_at "fn") => `(tactic| exact r_is_natural)
local macro_rules | `(tactic| walk_at "fn") => `(tactic| exact r_is_below)
local macro_rules | `(tactic| walk_at "fn") => `(tactic| exact r_is_pair)
local macro_rules | `(tactic| walk_at "fn") => `(tactic| (apply r_power; walk_at "sd"))
local macro_rules | `(tactic| walk_at "fn") => `(tactic| (apply r_is_cell_below; walk_at "sd"))
local macro_rules | `(tactic| walk_at "fn") => `(tactic| (apply r_is_posture; walk_at "sd"; walk_at "sd"))
local macro_rules | `(tactic| walk_at "fn") => `(tactic| exact r_posed)
local macro_rules | `(tactic| walk_at "fn") => `(tactic| (apply r_is_part; assumption))
local macro_rules | `(tactic| walk_at "fn") => `(tactic| (apply r_is_kind_of; assumption; assumption))
local macro_rules | `(tactic| walk_at "fn") => `(tactic| (apply r_is_book; assumption))
local macro_rules | `(tactic| walk_at "fn") => `(tactic| (apply r_check_book; assumption))
local macro_rules | `(tactic| walk_at "fn") => `(tactic| (apply r_check_kind; assumption))
local macro_rules | `(tactic| walk_at "fn") => `(tactic| (apply r_turned_of; assumption))
local macro_rules | `(tactic| walk_at "fn") => `(tactic| (apply r_check_posture; assumption; assumption))
local macro_rules | `(tactic| walk_at "fn") => `(tactic| (apply r_turned; assumption; assumption; assumption))
local macro_rules | `(tactic| walk_at "fn") => `(tactic| (apply r_backward_of; assumption))
local macro_rules | `(tactic| walk_at "fn") => `(tactic| (apply r_backward; assumption))
local macro_rules | `(tactic| walk_at "fn") => `(tactic| exact r_check_depth)
local macro_rules | `(tactic| walk_at "fn") => `(tactic| exact r_check_many)
local macro_rules | `(tactic| walk_at "fn") => `(tactic| (apply r_cells_each_way; assumption))
local macro_rules | `(tactic| walk_at "fn") => `(tactic| (apply r_how_many_cells; assumption))
local macro_rules | `(tactic| walk_at "fn") => `(tactic| (apply r_check_cell; assumption; assumption))
local macro_rules | `(tactic| walk_at "fn") => `(tactic| (apply r_check_number; assumption; walk_at "sd"))
local macro_rules | `(tactic| walk_at "fn") => `(tactic| (apply r_way_to; assumption; assumption; assumption; assumption))
local macro_rules | `(tactic| walk_at "fn") => `(tactic| (apply r_number_in; assumption; assumption; assumption; assumption))
local macro_rules | `(tactic| walk_at "fn") => `(tactic| (apply r_number_of; assumption; assumption; assumption))
local macro_rules | `(tactic| walk_at "fn") => `(tactic| (apply r_cell_in; assumption; assumption; assumption; assumption))
local macro_rules | `(tactic| walk_at "fn") => `(tactic| (apply r_cell_of; assumption; assumption; assumption))
local macro_rules | `(tactic| walk_at "fn") => `(tactic| (apply r_kinds_on; assumption; assumption; assumption))
local macro_rules | `(tactic| walk_at "fn") => `(tactic| (apply r_thread_of; assumption; assumption; assumption; assumption))
local macro_rules | `(tactic| walk_at "fn") => `(tactic| (apply r_thread; assumption; assumption; assumption; assumption))
local macro_rules | `(tactic| walk_at "fn") => `(tactic| (apply r_first_cell; assumption; assumption))
local macro_rules | `(tactic| walk_at "fn") => `(tactic| (apply r_last_cell; assumption; assumption))
local macro_rules | `(tactic| walk_at "fn") => `(tactic| (apply r_whole; assumption; assumption; assumption))
local macro_rules | `(tactic| walk_at "fn") => `(tactic| (apply r_numbered; assumption; assumption))
local macro_rules | `(tactic| walk_at "fn") => `(tactic| (apply r_begun_of; assumption; assumption))
local macro_rules | `(tactic| walk_at "fn") => `(tactic| (apply r_begun_at; assumption; assumption))
local macro_rules | `(tactic| walk_at "fn") => `(tactic| (apply r_law_same; assumption))
local macro_rules | `(tactic| walk_at "fn") => `(tactic| exact r_law_posed)
local macro_rules | `(tactic| walk_at "fn") => `(tactic| (apply r_law_picture; assumption))
local macro_rules | `(tactic| walk_at "fn") => `(tactic| (apply r_law_figures; walk_at "sd"; walk_at "sd"; walk_at "sd"))
local macro_rules | `(tactic| walk_at "fn") => `(tactic| (apply r_law_way; assumption; assumption; assumption))
local macro_rules | `(tactic| walk_at "fn") => `(tactic| (apply r_law_carried; assumption; assumption; walk_at "sd"))
local macro_rules | `(tactic| walk_at "fn") => `(tactic| (apply r_law_begun; assumption; assumption))
section
variable {P : Program} {w : World} {K : PySem.W.Frag} {mg : Str → Option Value} {base : Heap}
def rowL (r : Bk.Row) : D := .list (r.map dPart)
def PrePath : Ct → List D → Prop := fun c ds => ∃ (p : Pot) (b : Nat), c = potC p ∧ PotOk p ∧ ds = [.int b] ∧ (b = 2 ∨ b = 3)
def PostPath : Ct → List D → Ct → D → Prop := fun _ _ c' d => PostBook 4 c' d
def pathK (b : Nat) : List Bk.Row := if b = 2 then path2 else path3
theorem path_ok {b : Nat} (h : b = 2 ∨ b = 3) : BookOk ⟨b, pathK b⟩ := by
  rcases h with rfl | rfl
  · exact path2_ok
  · exact path3_ok
theorem flip_lt : ∀ f ∈ flips, f.1 < 2 ∧ f.2 < 2 := by decide
theorem pth_row_snoc {f : Nat × Nat} {j : Nat} : ((List.range (j + 1)).map (pth f.1 f.2)).map dPart = ((List.range j).map (pth f.1 f.2)).map dPart ++ [dPart (pth f.1 f.2 j)] := by
  rw [List.range_succ, List.map_append, List.map_append]; rfl
theorem ok_law_path_book (c : Cn K mg base) : Has P w K mg base "_law_path_book" 2 ps_law_path_book (spN K PrePath PostPath) := by
  refine mk_law_path_book c fun fd F => fn_N F sc_law_path_book (fun c ds h => by obtain ⟨_, _, _, _, rfl, _⟩ := h; rfl) fun cdv A outer s H E hr => ?_
  refine ⟨_, (pss_cons (ps_if (pt_cmpR op_eq (pv 1) pe_int (nomark _)) (pss_cons (ps_set (i := 4) sc_law_path_book.nd rfl (by first | exact Or.inl rfl | exact Or.inr rfl) (pe_lst (pa_cons (pe_lst (pa_cons (pe_tup (pa_cons pe_int (pa_cons pe_int (pa_cons pe_int pa_nil)))) (pa_cons (pe_tup (pa_cons pe_int (pa_cons pe_int (pa_cons pe_int pa_nil)))) (pa_cons (pe_tup (pa_cons pe_int (pa_cons pe_int (pa_cons pe_int pa_nil)))) (pa_cons (pe_tup (pa_cons pe_int (pa_cons pe_int (pa_cons pe_int pa_nil)))) pa_nil))))) (pa_cons (pe_lst (pa_cons (pe_tup (pa_cons pe_int (pa_cons pe_int (pa_cons pe_int pa_nil)))) (pa_cons (pe_tup (pa_cons pe_int (pa_cons pe_int (pa_cons pe_int pa_nil)))) (pa_cons (pe_tup (pa_cons pe_int (pa_cons pe_int (pa_cons pe_int pa_nil)))) (pa_cons (pe_tup (pa_cons pe_int (pa_cons pe_int (pa_cons pe_int pa_nil)))) pa_nil))))) pa_nil))))
    (pss_one (ps_set (i := 4) sc_law_path_book.nd rfl (by first | exact Or.inl rfl | exact Or.inr rfl) (pe_op op_cat (pv 4) (pe_lst (pa_cons (pe_lst (pa_cons (pe_tup (pa_cons pe_int (pa_cons pe_int (pa_cons pe_int pa_nil)))) (pa_cons (pe_tup (pa_cons pe_int (pa_cons pe_int (pa_cons pe_int pa_nil)))) (pa_cons (pe_tup (pa_cons pe_int (pa_cons pe_int (pa_cons pe_int pa_nil)))) (pa_cons (pe_tup (pa_cons pe_int (pa_cons pe_int (pa_cons pe_int pa_nil)))) pa_nil))))) (pa_cons (pe_lst (pa_cons (pe_tup (pa_cons pe_int (pa_cons pe_int (pa_cons pe_int pa_nil)))) (pa_cons (pe_tup (pa_cons pe_int (pa_cons pe_int (pa_cons pe_int pa_nil)))) (pa_cons (pe_tup (pa_cons pe_int (pa_cons pe_int (pa_cons pe_int pa_nil)))) (pa_cons (pe_tup (pa_cons pe_int (pa_cons pe_int (pa_cons pe_int pa_nil)))) pa_nil))))) pa_nil))))))) (pss_cons (ps_set (i := 4) sc_law_path_book.nd rfl (by first | exact Or.inl rfl | exact Or.inr rfl) (pe_lst pa_nil))
    (pss_one (ps_for PassesOwn.never rfl (piL K rfl (pe_lst (pa_cons (pe_tup (pa_cons pe_int (pa_cons pe_int pa_nil))) (pa_cons (pe_tup (pa_cons pe_int (pa_cons pe_int pa_nil))) (pa_cons (pe_tup (pa_cons pe_int (pa_cons pe_int pa_nil))) (pa_cons (pe_tup (pa_cons pe_int (pa_cons pe_int pa_nil))) pa_nil)))))) (pg_name (i := 5) sc_law_path_book.nd rfl (by first | exact Or.inl rfl | exact Or.inr rfl)) (pss_cons (ps_set (i := 3) sc_law_path_book.nd rfl (by first | exact Or.inl rfl | exact Or.inr rfl) (pe_lst pa_nil))
    (pss_cons (ps_for PassesOwn.never rfl (FlRange.pi_rangeL1 (by rfl) c.f_range (pa_cons pe_int pa_nil)) (pg_name (i := 10) sc_law_path_book.nd rfl (by first | exact Or.inl rfl | exact Or.inr rfl)) (pss_cons (ps_par (i := 12) (j := 13) rfl sc_law_path_book.nd rfl rfl (by decide) rfl rfl (pa_cons (pe_op op_fdivW (pv 10) pe_int) (pa_cons (pe_ifExp (pt_cmpR op_ne (pe_op op_fdivW (pv 10) pe_int) pe_int (nomark _)) (pe_op op_mod (pe_callTy call_int1 (by rfl) c.f_int b_int (pa_cons (pv 10) pa_nil)) pe_int) (pe_op op_sub pe_int (pe_op op_mod (pe_callTy call_int1 (by rfl) c.f_int b_int (pa_cons (pv 10) pa_nil)) pe_int))) pa_nil)) rfl)
    (pss_cons (ps_set (i := 11) sc_law_path_book.nd rfl (by first | exact Or.inl rfl | exact Or.inr rfl) (pe_op op_add (pe_op op_mul pe_int (pe_op op_xor (pe_ix (ixT K rfl) (pv 5) pe_int (fun _ _ => rfl)) (pe_op op_and (pv 13) pe_int))) (pe_op op_xor (pe_ix (ixT K rfl) (pv 5) pe_int (fun _ _ => rfl)) (pe_op op_and (pv 12) pe_int))))
    (pss_one (ps_expr (bM K rfl PySem.F.plainAttrs_list PySem.F.slot_list_append PySem.F.type_list_append mt_append (pv 3) (pa_cons (pe_tup (pa_cons (pe_ifExp (pt_cmpR op_eq (pe_ix (ixT K rfl) (pv 5) pe_int (fun _ _ => rfl)) pe_int (nomark _)) (pe_op op_sub pe_int (pv 12)) (pv 12)) (pa_cons (pe_ifExp (pt_cmpR op_eq (pe_ix (ixT K rfl) (pv 5) pe_int (fun _ _ => rfl)) pe_int (nomark _)) (pe_op op_sub pe_int (pv 13)) (pv 13)) (pa_cons (pv 11) pa_nil)))) pa_nil)))))))
    (pss_one (ps_expr (bM K rfl PySem.F.plainAttrs_list PySem.F.slot_list_append PySem.F.type_list_append mt_append (pv 4) (pa_cons (pv 3) pa_nil))))))))))
    (pss_cons (ps_asg (pe_tup (pa_cons (pe_has (ok_law_draw c) hr (pa_cons (pv 0) (pa_cons pe_int pa_nil))) (pa_cons (pe_has (ok_law_draw c) hr (pa_cons (pv 0) (pa_cons pe_int pa_nil))) (pa_cons (pe_has (ok_law_draw c) hr (pa_cons (pv 0) (pa_cons pe_int pa_nil))) pa_nil)))) (pgT K rfl (n := 3) rfl (pgs_cons (pg_name (i := 6) sc_law_path_book.nd rfl (by first | exact Or.inl rfl | exact Or.inr rfl)) (pgs_cons (pg_name (i := 7) sc_law_path_book.nd rfl (by first | exact Or.inl rfl | exact Or.inr rfl)) (pgs_cons (pg_name (i := 8) sc_law_path_book.nd rfl (by first | exact Or.inl rfl | exact Or.inr rfl)) pgs_nil)))))
    (pss_cons (ps_set (i := 2) sc_law_path_book.nd rfl (by first | exact Or.inl rfl | exact Or.inr rfl) (pe_lst pa_nil))
    (pss_cons (ps_for PassesOwn.never rfl (piL K rfl (pv 4)) (pg_name (i := 3) sc_law_path_book.nd rfl (by first | exact Or.inl rfl | exact Or.inr rfl)) (pss_cons (ps_setLc (own := [("x", 12), ("y", 13), ("kind", 11)]) (i := 9) rfl sc_law_path_book.nd rfl rfl (sw_true rfl rfl rfl (by decide +kernel)) (piL K rfl (pv 3)) (blkOk_by rfl) (fun _ _ _ _ _ => (pgT K rfl (n := 3) rfl (pgs_cons (pg_name (i := 12) sc_law_path_book.nd rfl (by first | exact Or.inl rfl | exact Or.inr rfl)) (pgs_cons (pg_name (i := 13) sc_law_path_book.nd rfl (by first | exact Or.inl rfl | exact Or.inr rfl)) (pgs_cons (pg_name (i := 11) sc_law_path_book.nd rfl (by first | exact Or.inl rfl | exact Or.inr rfl)) pgs_nil))))) (fun _ _ _ _ _ => pts_nil) (fun _ _ _ _ _ => (pe_op (catT K rfl) (pe_has (ok_law_posed c) hr (pa_cons (pv 1) (pa_cons (pv 12) (pa_cons (pv 13) (pa_cons (pv 6) (pa_cons (pv 7) pa_nil)))))) (pe_tup (pa_cons (pv 11) pa_nil)))))
    (pss_one (ps_expr (bM K rfl PySem.F.plainAttrs_list PySem.F.slot_list_append PySem.F.type_list_append mt_append (pv 2) (pa_cons (pe_callTy (cTup K rfl) (by rfl) c.f_tuple b_tuple (pa_cons (pe_ifExp (pt_cmpR op_eq (pv 8) pe_int (nomark _)) (revL K rfl (pv 9)) (pv 9)) pa_nil)) pa_nil))))))
    (pss_one (ps_ret (pe_tup (pa_cons (pv 1) (pa_cons (pe_callTy (cTup K rfl) (by rfl) c.f_tuple b_tuple (pa_cons (pv 2) pa_nil)) pa_nil))))))))), ?_⟩
  rintro c ds ⟨p, b, rfl, hp, rfl, hb⟩
  show SD K _ [.o true (potC p), .d (.int (b : Nat)), .any, .any, .any, .any, .any, .any, .any, .any, .any, .any, .any, .any] _
  have hok := path_ok hb
  refine sd_mid (fun e => ∃ v3 v5 v10 v11 v12 v13, S.isPm v3 = false ∧ S.isPm v5 = false ∧ S.isPm v10 = false ∧ S.isPm v11 = false ∧ S.isPm v12 = false ∧ S.isPm v13 = false ∧
    e = [.o true (potC p), .d (.int (b : Nat)), .any, v3, .o false (.lst ((pathK b).map rowL)), v5, .any, .any, .any, .any, v10, v11, v12, v13]) ?_ ?_
  · apply sd_if; apply td_of
    · walk_at "et"
    rcases hb with rfl | rfl
    · show SD K _ _ _
      apply sd_seq; apply sd_of
      · apply ss_asgN
        · walk_at "en"
        · rfl
        · rfl
      apply sd_of
      · apply ss_asgN
        · apply en_catO rfl
          · walk_at "en"
          · rfl
          · exact (show 4 ≤ 1000000 by decide)
        · rfl
        · rfl
      exact ⟨.any, .any, .any, .any, .any, .any, rfl, rfl, rfl, rfl, rfl, rfl, rfl⟩
    · show SD K _ _ _
      apply sd_seq; apply sd_of
      · apply ss_asgN
        · walk_at "en"
        · rfl
        · rfl
      refine sd_for (ds := flips.map fun f => .tuple [.int (f.1 : Nat), .int (f.2 : Nat)]) (e0 := [.o true (potC p), .d (.int ((3 : Nat) : Int)), .any, .any, .o false (.lst []), .any, .any, .any, .any, .any, .any, .any, .any, .any]) ?_
        (fun i e => ∃ v3 v5 v10 v11 v12 v13, S.isPm v3 = false ∧ S.isPm v5 = false ∧ S.isPm v10 = false ∧ S.isPm v11 = false ∧ S.isPm v12 = false ∧ S.isPm v13 = false ∧
          e = [.o true (potC p), .d (.int ((3 : Nat) : Int)), .any, v3, .o false (.lst (((flips.take i).map pthRow).map rowL)), v5, .any, .any, .any, .any, v10, v11, v12, v13]) ⟨.any, .any, .any, .any, .any, .any, rfl, rfl, rfl, rfl, rfl, rfl, rfl⟩ ?_ ?_
      · apply ei_list
        apply EN.tree
        apply en_lst
        · walk_at "ea"
        · exact (show 4 ≤ 1000000 by decide)
      · rintro i dd e hdd ⟨v3, v5, v10, v11, v12, v13, h3, h5, h10, h11, h12, h13, rfl⟩
        rw [List.getElem?_map] at hdd
        obtain ⟨f, hf, rfl⟩ := Option.map_eq_some_iff.mp hdd
        obtain ⟨f1, f2⟩ := flip_lt f (List.mem_of_getElem? hf)
        have hfl : flips.length = 4 := rfl
        refine ⟨_, _, gg_name rfl h5, ?_⟩
        apply sd_seq; apply sd_of
        · apply ss_asgN (s := v3)
          · walk_at "en"
          · rfl
          · exact h3
        apply sd_seq
        refine sd_for (ds := rangeD 0 9) (e0 := [.o true (potC p), .d (.int ((3 : Nat) : Int)), .any, .o false (.lst []), .o false (.lst (((flips.take i).map pthRow).map rowL)), .d (.tuple [.int (f.1 : Nat), .int (f.2 : Nat)]), .any, .any, .any, .any, v10, v11, v12, v13]) (ei_rangeL1 (n := 9) (ea_consP ee_int ea_nil))
          (fun j e => ∃ v10 v11 v12 v13, S.isPm v10 = false ∧ S.isPm v11 = false ∧ S.isPm v12 = false ∧ S.isPm v13 = false ∧
            e = [.o true (potC p), .d (.int ((3 : Nat) : Int)), .any, .o false (.lst (((List.range j).map (pth f.1 f.2)).map dPart)), .o false (.lst (((flips.take i).map pthRow).map rowL)), .d (.tuple [.int (f.1 : Nat), .int (f.2 : Nat)]), .any, .any, .any, .any, v10, v11, v12, v13]) ⟨v10, v11, v12, v13, h10, h11, h12, h13, rfl⟩ ?_ ?_
        · rintro j d2 e hd2 ⟨v10, v11, v12, v13, h10, h11, h12, h13, rfl⟩
          have hj : j < 9 := by
            have := (List.getElem?_eq_some_iff.mp hd2).1
            rw [rangeD_len] at this
            exact this
          rw [rangeD_get hj, Int.zero_add] at hd2
          cases hd2
          have hk := pth_kind ⟨f.1, f1⟩ ⟨f.2, f2⟩ ⟨j, hj⟩
          have c3 : CDivW (j : Int) 3 := divC (n := 3) (by decide) (by decide)
          refine ⟨_, _, gg_name rfl h10, ?_⟩
          apply sd_seq; apply sd_of
          · apply ss_parX (p := .t (.int (j / 3 : Nat))) (q := .t (.int (py3 j : Nat))) (s := v12) (s' := v13)
            · apply ex_t
              · refine EE.is (ee_opP (ee_var rfl) ee_int (rr_ic c3)) ?_
                have := cast_div j 3
                rw [← this]; rfl
              apply ex_t
              · refine ee_ifP (b := !decide (((j : Int) / 3) = 1)) (et_test (ee_opP (ee_opP (ee_var rfl) ee_int (rr_ic c3)) ee_int rr_neI)) (fun z => ?_) (fun z => ?_)
                · refine EE.is (ee_opP (ee_cb (ea_consP (ee_var rfl) ea_nil) rc_int1) ee_int (rr_ic (by decide))) ?_
                  have e1 : j / 3 ≠ 1 := by
                    intro e
                    rw [Bool.not_eq_true', decide_eq_false_iff_not] at z
                    exact z (by omega)
                  have e2 : py3 j = j % 3 := if_pos e1
                  rw [e2]
                  have := cast_mod j 3
                  rw [← this]; rfl
                · refine EE.is (ee_opP ee_int (ee_opP (ee_cb (ea_consP (ee_var rfl) ea_nil) rc_int1) ee_int (rr_ic (by decide))) rr_i) ?_
                  have e1 : j / 3 = 1 := by
                    rw [Bool.not_eq_false', decide_eq_true_eq] at z
                    omega
                  have e2 : py3 j = 2 - j % 3 := if_neg (fun h => h e1)
                  rw [e2]
                  congr 1
                  omega
              exact ex_nil
            · decide
            · rfl
            · exact h12
            · rfl
            · exact h13
          apply sd_seq; apply sd_asg; apply ed_of
          · refine EE.is (ee_opP (ee_opP ee_int (ee_opP (x := .int (f.1 : Nat)) (ee_opP (ee_var rfl) ee_int (rr_ixT rfl)) (ee_opP (x := .int (py3 j : Nat)) (ee_var rfl) ee_int rr_i) rr_i) (rr_ic (Or.inl (by decide)))) (ee_opP (x := .int (f.2 : Nat)) (ee_opP (ee_var rfl) ee_int (rr_ixT rfl)) (ee_opP (x := .int (j / 3 : Nat)) (ee_var rfl) ee_int rr_i) rr_i) rr_i) (y := .int ((pth f.1 f.2 j).2.2 : Nat)) ?_
            exact congrArg PyData.int hk
          refine ⟨⟨v11, rfl, h11⟩, ?_⟩
          apply sd_of
          · apply ss_append rfl
            · refine ee_tup (ds := [.int (pth f.1 f.2 j).1, .int (pth f.1 f.2 j).2.1, .int ((pth f.1 f.2 j).2.2 : Nat)]) (ea_consP ?_ (ea_consP ?_ (ea_consP (ee_var rfl) ea_nil))) (show 3 ≤ 1000000 by decide)
              · refine ee_ifP (b := decide ((f.1 : Int) = 1)) (et_test (ee_opP (ee_opP (ee_var rfl) ee_int (rr_ixT rfl)) ee_int rr_eqI)) (fun z => ?_) (fun z => ?_)
                · have e1 : f.1 = 1 := by have := of_decide_eq_true z; omega
                  refine EE.is (ee_opP ee_int (ee_var rfl) rr_i) ?_
                  unfold pth
                  rw [if_pos e1]
                · have e1 : ¬ f.1 = 1 := fun e => by have := of_decide_eq_false z; omega
                  refine EE.is (ee_var rfl) ?_
                  unfold pth
                  rw [if_neg e1]
              · refine ee_ifP (b := decide ((f.2 : Int) = 1)) (et_test (ee_opP (ee_opP (ee_var rfl) ee_int (rr_ixT rfl)) ee_int rr_eqI)) (fun z => ?_) (fun z => ?_)
                · have e1 : f.2 = 1 := by have := of_decide_eq_true z; omega
                  refine EE.is (ee_opP ee_int (ee_var rfl) rr_i) ?_
                  unfold pth
                  rw [if_pos e1]
                · have e1 : ¬ f.2 = 1 := fun e => by have := of_decide_eq_false z; omega
                  refine EE.is (ee_var rfl) ?_
                  unfold pth
                  rw [if_neg e1]
            · rfl
            · rw [List.length_map, List.length_map, List.length_range]; omega
          refine ⟨.d (.int (j : Int)), .d (.int ((pth f.1 f.2 j).2.2 : Nat)), .d (.int (j / 3 : Nat)), .d (.int (py3 j : Nat)), rfl, rfl, rfl, rfl, ?_⟩
          rw [pth_row_snoc]
          rfl
        · rintro e ⟨v10, v11, v12, v13, h10, h11, h12, h13, rfl⟩
          show SD K _ _ _
          refine sd_pre (sub_freeze (i := 3) rfl) ?_
          apply sd_of
          · apply ss_append rfl
            · exact ee_var rfl
            · rfl
            · rw [List.length_map, List.length_map, List.length_take]; omega
          refine ⟨.d (rowL (pthRow f)), .d (.tuple [.int (f.1 : Nat), .int (f.2 : Nat)]), v10, v11, v12, v13, rfl, rfl, h10, h11, h12, h13, ?_⟩
          rw [take_map_succ hf, List.map_append]
          rfl
      · rintro e ⟨v3, v5, v10, v11, v12, v13, h3, h5, h10, h11, h12, h13, rfl⟩
        exact ⟨v3, v5, v10, v11, v12, v13, h3, h5, h10, h11, h12, h13, rfl⟩
  rintro e ⟨v3, v5, v10, v11, v12, v13, h3, h5, h10, h11, h12, h13, rfl⟩
  generalize hKR : pathK b = KR at hok ⊢
  have hf := hok.few
  have hrows := hok.rows
  refine sd_pre (e1 := [.o true (potC p), .d (.int (b : Nat)), .any, v3, .d (.list (KR.map rowL)), v5, .any, .any, .any, .any, v10, .any, .any, .any]) ((((sub_freeze (i := 4) rfl).trans (sub_forget (i := 11) (s := v11) rfl h11)).trans (sub_forget (i := 12) (s := v12) rfl h12)).trans (sub_forget (i := 13) (s := v13) rfl h13)) ?_
  have d1 := drawV_lt (p := p) (many := 4) (by decide)
  have o1 := drawP_ok (many := 4) hp
  have d2 := drawV_lt (p := drawP p 4) (many := 2) (by decide)
  have o2 := drawP_ok (many := 2) o1
  have d3 := drawV_lt (p := drawP (drawP p 4) 2) (many := 2) (by decide)
  have o3 := drawP_ok (many := 2) o2
  apply sd_seq; apply sd_of
  · apply ss_tup3X
    · apply ex_t
      · exact ee_draw (many := 4) rfl ee_int hp (by decide) (small_lt (by decide))
      apply ex_t
      · exact ee_draw (many := 2) rfl ee_int o1 (by decide) (small_lt (by decide))
      apply ex_t
      · exact ee_draw (many := 2) rfl ee_int o2 (by decide) (small_lt (by decide))
      exact ex_nil
    · decide
    · decide
    · decide
    · rfl
    · rfl
    · rfl
    · rfl
    · rfl
    · rfl
  generalize drawV p 4 = r at d1 ⊢
  generalize drawV (drawP p 4) 2 = m at d2 ⊢
  generalize drawV (drawP (drawP p 4) 2) 2 = bk at d3 ⊢
  generalize drawP (drawP (drawP p 4) 2) 2 = q at o3 ⊢
  walk_at "asgN"
  apply sd_seq
  refine sd_for (ds := KR.map rowL) (e0 := [.o true (potC q), .d (.int (b : Nat)), .o false (.lst []), v3, .d (.list (KR.map rowL)), v5, .d (.int (r : Nat)), .d (.int (m : Nat)), .d (.int (bk : Nat)), .any, v10, .any, .any, .any]) (ei_list (ee_var rfl))
    (fun i e => ∃ v v2, S.isPm v = false ∧ S.isPm v2 = false ∧ e = [.o true (potC q), .d (.int (b : Nat)), .o false (.lst ((KR.take i).map fun row => dRow (pRow ⟨b, KR⟩ r m bk row))), v, .d (.list (KR.map rowL)), v5, .d (.int (r : Nat)), .d (.int (m : Nat)), .d (.int (bk : Nat)), v2, v10, .any, .any, .any]) ⟨v3, .any, h3, rfl, rfl⟩ ?_ ?_
  · rintro i d e hd ⟨v, v2, hv, hv2, rfl⟩
    rw [List.getElem?_map] at hd
    obtain ⟨row, hrow, rfl⟩ := Option.map_eq_some_iff.mp hd
    have hl := RowOk.few (hrows row (List.mem_of_getElem? hrow)) hok.b2.2
    have hlf : KR.length ≤ 100 := hf
    refine ⟨_, _, gg_name rfl hv, ?_⟩
    apply sd_seq; apply sd_of
    · apply ss_asgN (s := v2)
      · apply en_lcF (ys := row.map fun p => dPart (posePart b r m p))
        · exact ei_list (ds := row.map dPart) (ee_var rfl)
        · simp
        · rw [List.length_map]; omega
        · rfl
        · intro j d y hd hy
          rw [List.getElem?_map] at hd hy
          obtain ⟨p, hp, rfl⟩ := Option.map_eq_some_iff.mp hd
          rw [hp] at hy
          cases hy
          refine ⟨_, _, gg_tup (ds := [.int p.1, .int p.2.1, .int p.2.2]) (by walk_at "ggs") rfl, et_yes, ?_, rfl, rfl⟩
          apply ee_op
          · exact ee_call (ds := [.int (b : Nat), .int p.1, .int p.2.1, .int (r : Nat), .int (m : Nat)]) (d := dCell (Bk.posed b (p.1, p.2.1) r m)) (by walk_at "ea") r_law_posed
          · walk_at "ee"
          · exact rr_catT (List.cons_ne_nil _ _) (Nat.le_of_ble_eq_true rfl)
      · rfl
      · exact hv2
    refine sd_pre (sub_freeze (i := 9) rfl) ?_
    have hE : ∀ e : Fl.Env, e[8]? = some (.d (.int (bk : Nat))) → e[9]? = some (.d (.list (row.map fun p => dPart (posePart b r m p)))) → EE K (tCB (fun xs H Q => ∃ p ys, xs = [.ref p] ∧ ((SqL K H p ys ∧ ∀ l, H l = none → Q (.ref l) (upd H l (.tup ys))) ∨ (SqT K H p ys ∧ Q (.ref p) H))) (tCons (tIf (tTest (tOp rEq (tVar 8) (tC (.int 1)))) (tRevL K (tVar 9)) (tVar 9)) tNil)) e e (dRow (pRow ⟨b, KR⟩ r m bk row)) := by
      intro e h3 h6
      by_cases hb : bk = 1
      · have ec : dRow (pRow ⟨b, KR⟩ r m bk row) = .tuple (row.map fun p => dPart (posePart b r m p)).reverse := by
          unfold pRow dRow
          rw [if_pos hb, List.map_reverse, List.map_map]; rfl
        rw [ec]
        refine ee_cb (ea_consP (x := .list (row.map fun p => dPart (posePart b r m p)).reverse) ?_ ea_nil) (rc_tuple rfl)
        refine ee_ifP (b := decide ((bk : Int) = 1)) (et_test (ee_opP (ee_var h3) ee_int rr_eqI)) (fun _ => (en_revL (ee_var h6)).tree) (fun z => ?_)
        rw [hb] at z; exact absurd z (by decide)
      · have ec : dRow (pRow ⟨b, KR⟩ r m bk row) = .tuple (row.map fun p => dPart (posePart b r m p)) := by
          unfold pRow dRow
          rw [if_neg hb, List.map_map]; rfl
        rw [ec]
        refine ee_cb (ea_consP (x := .list (row.map fun p => dPart (posePart b r m p))) ?_ ea_nil) (rc_tuple rfl)
        refine ee_ifP (b := decide ((bk : Int) = 1)) (et_test (ee_opP (ee_var h3) ee_int rr_eqI)) (fun z => ?_) (fun _ => ee_var h6)
        have := of_decide_eq_true z
        exact absurd (show bk = 1 by omega) hb
    apply sd_of
    · apply ss_append rfl
      · exact hE _ rfl rfl
      · rfl
      · rw [List.length_map, List.length_take]; omega
    · refine ⟨.d (rowL row), .d (.list (row.map fun p => dPart (posePart b r m p))), rfl, rfl, ?_⟩
      rw [take_map_succ hrow]
      rfl
  · rintro e ⟨v, v2, hv, hv2, rfl⟩
    walk_at "ret"
    rw [List.length_map, List.take_length]
    refine ⟨potC q, rfl, q, pict ⟨b, KR⟩ r m bk, rfl, o3, ?_, pict_ok hok r m bk, ?_⟩
    · rw [pict_rows]
      show PyData.tuple _ = dBook _
      unfold dBook
      rw [List.map_map]; rfl
    · rw [pict_len]
      rw [← hKR]
      show (pathK b).length ≤ 4
      rcases hb with rfl | rfl <;> decide
end
end K20
set_option autoImplicit false
set_option Elab.async false
set_option linter.all false
set_option maxRecDepth 100000
set_option maxHeartbeats 4000000
namespace K20
open PySem PySem.Spec PyProof.Rows L2 Fl Bk
local macro_rules | `(tactic| walk_at "sd") => `(tactic| first | assumption | rfl | omega | exact Nat.le_of_ble_eq_true rfl | (constructor <;> omega) | decide | (left; constructor <;> omega) | (right; constructor <;> omega))
local macro_rules | `(tactic| walk_at "fn") => `(tactic| fail "fn")
local macro_rules | `(tactic| walk_at "rc") => `(tactic| first | exact rc_len rfl | exact rc_tuple rfl | exact rc_all | exact rc_any | exact rc_sum | exact rc_int1 | exact rc_min2 | exact rc_max2)
local macro_rules | `(tactic| walk_at "rcn") => `(tactic| first | exact rcn_list rfl)
local macro_rules | `(tactic| walk_at "rr") => `(tactic| first | exact rr_i | exact rr_b | exact rr_eqI | exact rr_neI | exact rr_eqB | exact rr_neB | exact rr_eqS | exact rr_neS | (apply rr_ixT; first | rfl | assumption) | (apply rr_ixL; first | rfl | assumption) | (apply rr_ic; walk_at "sd") | (apply rr_catT; first | (exact List.cons_ne_nil _ _) | assumption; walk_at "sd"))
local macro_rules | `(tactic| walk_at "ea") => `(tactic| first | exact ea_nil | (apply ea_cons; walk_at "ee"; walk_at "ea"))
local macro_rules | `(tactic| walk_at "et") => `(tactic| first | (apply et_test; walk_at "ee") | (apply et_B; walk_at "ee") | (apply et_not; walk_at "et") | exact et_yes | (apply et_andP; walk_at "et"; walk_at "et") | (apply et_orP; walk_at "et"; walk_at "et"))
local macro_rules | `(tactic| walk_at "en") => `(tactic| first | (apply en_lst; walk_at "ea"; walk_at "sd") | (apply en_cb; walk_at "ea"; walk_at "rcn") | (apply en_revO; rfl) | (apply en_revL; walk_at "ee"))
local macro_rules | `(tactic| walk_at "ex") => `(tactic| first | exact ex_nil | (apply ex_n; walk_at "en"; (intro _ z; cases z); walk_at "ex") | (apply ex_t; walk_at "ee"; walk_at "ex"))
local macro_rules | `(tactic| walk_at "eo") => `(tactic| first | exact eo_no | (apply eo_part; walk_at "ee"))
local macro_rules | `(tactic| walk_at "gg") => `(tactic| first | exact gg_name rfl rfl | exact gg_name rfl (by assumption) | (apply gg_tup; walk_at "ggs"; rfl) | (apply gg_lst; walk_at "ggs"; rfl))
local macro_rules | `(tactic| walk_at "ggs") => `(tactic| first | exact ggs_nil | (apply ggs_cons; walk_at "gg"; walk_at "ggs"))
local macro_rules | `(tactic| walk_at "ei") => `(tactic| first | (apply ei_rangeL1; walk_at "ea") | (apply ei_rangeL2; walk_at "ea") | (apply ei_tup; walk_at "ee") | (apply ei_list; walk_at "ee"))
local macro_rules | `(tactic| walk_at "ee") => `(tactic| first
  | exact ee_var rfl
  | exact ee_int
  | exact ee_bl
  | exact ee_non
  | exact ee_str
  | (apply ee_ixO rfl; walk_at "ee"; rfl; first | rfl | assumption)
  | (apply ee_op; walk_at "ee"; walk_at "ee"; walk_at "rr")
  | (apply ee_tup; walk_at "ea"; walk_at "sd")
  | (apply ee_call; walk_at "ea"; walk_at "fn")
  | (apply ee_isi; walk_at "ee"; rfl; rfl)
  | exact ee_lenO rfl
  | exact ee_tupleO rfl
  | (apply ee_cb; walk_at "ea"; walk_at "rc")
  | (apply ee_andP; walk_at "ee"; walk_at "ee")
  | (apply ee_orP; walk_at "ee"; walk_at "ee")
  | (apply ee_notV; walk_at "ee")
  | (apply ee_neg; walk_at "ee")
  | (apply ee_revT; walk_at "ee")
  | (apply ee_slT; walk_at "ee"; walk_at "eo"; walk_at "eo"; walk_at "sd")
  | (apply EN.tree; walk_at "en"))
local macro_rules | `(tactic| walk_at "asg") => `(tactic| (apply sd_seq; apply sd_asg; apply ed_of; walk_at "ee"; refine ⟨⟨_, rfl, rfl⟩, ?_⟩))
local macro_rules | `(tactic| walk_at "asgN") => `(tactic| (apply sd_seq; apply sd_of; apply ss_asgN; walk_at "en"; rfl; rfl))
local macro_rules | `(tactic| walk_at "asgG") => `(tactic| (apply sd_seq; apply sd_of; apply ss_asgG; walk_at "ee"; walk_at "gg"))
local macro_rules | `(tactic| walk_at "par") => `(tactic| (apply sd_seq; apply sd_of; apply ss_parX; walk_at "ex"; decide; rfl; rfl; rfl; rfl))
local macro_rules | `(tactic| walk_at "par3") => `(tactic| (apply sd_seq; apply sd_of; apply ss_par3X; walk_at "ex"; decide; decide; decide; rfl; rfl; rfl; rfl; rfl; rfl))
local macro_rules | `(tactic| walk_at "ret") => `(tactic| (apply sd_ret; apply ed_of; walk_at "ee"))
local macro_rules | `(tactic| walk_at "no") => `(tactic| (apply sd_seq; apply sd_if; apply td_of; walk_at "et"))
local macro_rules | `(tactic| walk_at "drop") => `(tactic| (apply sd_seq; apply sd_drop; apply ed_of; walk_at "ee"))
local macro_rules | `(tactic| walk_at "fn") => `(tactic| exact r_is_integer)
local macro_rules | `(tactic| walk_at "fn") => `(tactic| exact r_is_natural)
local macro_rules | `(tactic| walk_at "fn") => `(tactic| exact r_is_below)
local macro_rules | `(tactic| walk_at "fn") => `(tactic| exact r_is_pair)
local macro_rules | `(tactic| walk_at "fn") => `(tactic| (apply r_power; walk_at "sd"))
local macro_rules | `(tactic| walk_at "fn") => `(tactic| (apply r_is_cell_below; walk_at "sd"))
local macro_rules | `(tactic| walk_at "fn") => `(tactic| (apply r_is_posture; walk_at "sd"; walk_at "sd"))
local macro_rules | `(tactic| walk_at "fn") => `(tactic| exact r_posed)
local macro_rules | `(tactic| walk_at "fn") => `(tactic| (apply r_is_part; assumption))
local macro_rules | `(tactic| walk_at "fn") => `(tactic| (apply r_is_kind_of; assumption; assumption))
local macro_rules | `(tactic| walk_at "fn") => `(tactic| (apply r_is_book; assumption))
local macro_rules | `(tactic| walk_at "fn") => `(tactic| (apply r_check_book; assumption))
local macro_rules | `(tactic| walk_at "fn") => `(tactic| (apply r_check_kind; assumption))
local macro_rules | `(tactic| walk_at "fn") => `(tactic| (apply r_turned_of; assumption))
local macro_rules | `(tactic| walk_at "fn") => `(tactic| (apply r_check_posture; assumption; assumption))
local macro_rules | `(tactic| walk_at "fn") => `(tactic| (apply r_turned; assumption; assumption; assumption))
local macro_rules | `(tactic| walk_at "fn") => `(tactic| (apply r_backward_of; assumption))
local macro_rules | `(tactic| walk_at "fn") => `(tactic| (apply r_backward; assumption))
local macro_rules | `(tactic| walk_at "fn") => `(tactic| exact r_check_depth)
local macro_rules | `(tactic| walk_at "fn") => `(tactic| exact r_check_many)
local macro_rules | `(tactic| walk_at "fn") => `(tactic| (apply r_cells_each_way; assumption))
local macro_rules | `(tactic| walk_at "fn") => `(tactic| (apply r_how_many_cells; assumption))
local macro_rules | `(tactic| walk_at "fn") => `(tactic| (apply r_check_cell; assumption; assumption))
local macro_rules | `(tactic| walk_at "fn") => `(tactic| (apply r_check_number; assumption; walk_at "sd"))
local macro_rules | `(tactic| walk_at "fn") => `(tactic| (apply r_way_to; assumption; assumption; assumption; assumption))
local macro_rules | `(tactic| walk_at "fn") => `(tactic| (apply r_number_in; assumption; assumption; assumption; assumption))
local macro_rules | `(tactic| walk_at "fn") => `(tactic| (apply r_number_of; assumption; assumption; assumption))
local macro_rules | `(tactic| walk_at "fn") => `(tactic| (apply r_cell_in; assumption; assumption; assumption; assumption))
local macro_rules | `(tactic| walk_at "fn") => `(tactic| (apply r_cell_of; assumption; assumption; assumption))
local macro_rules | `(tactic| walk_at "fn") => `(tactic| (apply r_kinds_on; assumption; assumption; assumption))
local macro_rules | `(tactic| walk_at "fn") => `(tactic| (apply r_thread_of; assumption; assumption; assumption; assumption))
local macro_rules | `(tactic| walk_at "fn") => `(tactic| (apply r_thread; assumption; assumption; assumption; assumption))
local macro_rules | `(tactic| walk_at "fn") => `(tactic| (apply r_first_cell; assumption; assumption))
local macro_rules | `(tactic| walk_at "fn") => `(tactic| (apply r_last_cell; assumption; assumption))
local macro_rules | `(tactic| walk_at "fn") => `(tactic| (apply r_whole; assumption; assumption; assumption))
local macro_rules | `(tactic| walk_at "fn") => `(tactic| (apply r_numbered; assumption; assumption))
local macro_rules | `(tactic| walk_at "fn") => `(tactic| (apply r_begun_of; assumption; assumption))
local macro_rules | `(tactic| walk_at "fn") => `(tactic| (apply r_begun_at; assumption; assumption))
local macro_rules | `(tactic| walk_at "fn") => `(tactic| (apply r_law_same; assumption))
local macro_rules | `(tactic| walk_at "fn") => `(tactic| exact r_law_posed)
local macro_rules | `(tactic| walk_at "fn") => `(tactic| (apply r_law_picture; assumption))
local macro_rules | `(tactic| walk_at "fn") => `(tactic| (apply r_law_figures; walk_at "sd"; walk_at "sd"; walk_at "sd"))
local macro_rules | `(tactic| walk_at "fn") => `(tactic| (apply r_law_way; assumption; assumption; assumption))
local macro_rules | `(tactic| walk_at "fn") => `(tactic| (apply r_law_carried; assumption; assumption; walk_at "sd"))
local macro_rules | `(tactic| walk_at "fn") => `(tactic| (apply r_law_begun; assumption; assumption))
section
variable {P : Program} {w : World} {K : PySem.W.Frag} {mg : Str → Option Value} {base : Heap}
theorem okT_int {n : Nat} {i : Int} : okT (n + 1) (.int i) = true := by rw [okT]
theorem okT_bool {n : Nat} {i : Bool} : okT (n + 1) (.bool i) = true := by rw [okT]
theorem okT_tuple {n : Nat} {xs : List D} (h : xs.length ≤ 1000000) (hx : ∀ x ∈ xs, okT n x = true) : okT (n + 1) (.tuple xs) = true := by
  rw [okT, Bool.and_eq_true]
  exact ⟨decide_eq_true h, okTs_iff.mpr hx⟩
theorem okT_list {n : Nat} {xs : List D} (h : xs.length ≤ 1000000) (hx : ∀ x ∈ xs, okT n x = true) : okT (n + 1) (.list xs) = true := by
  rw [okT, Bool.and_eq_true]
  exact ⟨decide_eq_true h, okTs_iff.mpr hx⟩
theorem all2 {p : D → Prop} {x y : D} (h1 : p x) (h2 : p y) : ∀ z ∈ [x, y], p z := fun z hz => by
  rcases List.mem_cons.mp hz with rfl | hz
  · exact h1
  · have e : z = y := by simpa using hz
    rw [e]; exact h2
theorem all3 {p : D → Prop} {x y w : D} (h1 : p x) (h2 : p y) (h3 : p w) : ∀ z ∈ [x, y, w], p z := fun z hz => by
  rcases List.mem_cons.mp hz with rfl | hz
  · exact h1
  · exact all2 h2 h3 z hz
theorem okT_cell {n : Nat} {c : Int × Int} : okT (n + 2) (dCell c) = true := okT_tuple (show 2 ≤ 1000000 by decide) (all2 okT_int okT_int)
theorem okT_nats {n : Nat} {l : List Nat} (h : l.length ≤ 1000000) : okT (n + 2) (.tuple (dNats l)) = true := okT_tuple (by unfold dNats; rw [List.length_map]; exact h) fun x hx => by
  obtain ⟨k, _, rfl⟩ := List.mem_map.mp hx
  exact okT_int
theorem okT_natsL {n : Nat} {l : List Nat} (h : l.length ≤ 1000000) : okT (n + 2) (.list (dNats l)) = true := okT_list (by unfold dNats; rw [List.length_map]; exact h) fun x hx => by
  obtain ⟨k, _, rfl⟩ := List.mem_map.mp hx
  exact okT_int
theorem okT_part {n : Nat} {p : Part} : okT (n + 2) (dPart p) = true := okT_tuple (show 3 ≤ 1000000 by decide) (all3 okT_int okT_int okT_int)
theorem okT_row {n : Nat} {r : Bk.Row} (h : r.length ≤ 100) : okT (n + 3) (dRow r) = true := okT_tuple (by rw [List.length_map]; omega) fun x hx => by
  obtain ⟨p, _, rfl⟩ := List.mem_map.mp hx
  exact okT_part
theorem okT_book {n : Nat} {B : Book} (h : Slim B) : okT (n + 5) (dBook B) = true := okT_tuple (show 2 ≤ 1000000 by decide) (all2 okT_int (okT_tuple (by rw [List.length_map]; have := h.few; omega) fun x hx => by
  obtain ⟨r, hr, rfl⟩ := List.mem_map.mp hx
  exact okT_row (h.rows r hr)))
def PreDB : Ct → List D → Prop := fun c ds => ∃ p : Pot, c = potC p ∧ PotOk p ∧ ds = [.int 8]
def PostDB : Ct → List D → Ct → D → Prop := fun _ _ c' d => PostBook 8 c' d
theorem ok_law_drawn_book (c : Cn K mg base) : Has P w K mg base "_law_drawn_book" 3 ps_law_drawn_book (spN K PreDB PostDB) := by
  refine mk_law_drawn_book c fun fd F => fn_N F sc_law_drawn_book (fun c ds h => by obtain ⟨_, _, _, rfl⟩ := h; rfl) fun cdv A outer s H E hr => ?_
  refine ⟨_, (pss_cons (ps_set (i := 2) sc_law_drawn_book.nd rfl (by first | exact Or.inl rfl | exact Or.inr rfl) (pe_ifExp (pt_cmpR op_eq (pe_has (ok_law_draw c) hr (pa_cons (pv 0) (pa_cons pe_int pa_nil))) pe_int (nomark _)) pe_int pe_int))
    (pss_cons (ps_if (pw_and (pt_cmpR op_gt (pv 1) pe_int (nomark _)) (pw_and1 (pt_cmpR op_eq (pe_has (ok_law_draw c) hr (pa_cons (pv 0) (pa_cons pe_int pa_nil))) pe_int (nomark _)))).pt (pss_one (ps_ret (pe_has (ok_law_path_book c) hr (pa_cons (pv 0) (pa_cons (pv 2) pa_nil))))) pss_nil)
    (pss_one (ps_ret (pe_has (ok_law_any_book c) hr (pa_cons (pv 0) (pa_cons (pv 2) (pa_cons (pe_op op_add pe_int (pe_has (ok_law_draw c) hr (pa_cons (pv 0) (pa_cons (pv 1) pa_nil)))) pa_nil)))))))), ?_⟩
  rintro c ds ⟨p, rfl, hp, rfl⟩
  show SD K _ [.o true (potC p), .d (.int 8), .any] _
  have d1 := drawV_lt (p := p) (many := 4) (by decide)
  have o1 := drawP_ok (many := 4) hp
  have d2 := drawV_lt (p := drawP p 4) (many := 3) (by decide)
  have o2 := drawP_ok (many := 3) o1
  have d3 := drawV_lt (p := drawP (drawP p 4) 3) (many := 8) (by decide)
  have o3 := drawP_ok (many := 8) o2
  refine sd_mid (fun e => ∃ b : Nat, (b = 2 ∨ b = 3) ∧ e = [.o true (potC (drawP p 4)), .d (.int 8), .d (.int (b : Nat))]) ?_ ?_
  · have hT : ET K (tTest (tOp rEq (tCall (spN K PreDraw PostDraw) [] E0 (tCons (tVar 0) (tCons (tC (.int 4)) tNil))) (tC (.int 3)))) [.o true (potC p), .d (.int 8), .any] [.o true (potC (drawP p 4)), .d (.int 8), .any] (decide ((drawV p 4 : Int) = 3)) :=
      et_test (ee_op (ee_draw (many := 4) rfl ee_int hp (by decide) (small_lt (by decide))) ee_int rr_eqI)
    by_cases h3 : drawV p 4 = 3
    · apply sd_asg; apply ed_of
      · exact ee_ifT hT (decide_eq_true (by omega)) ee_int
      exact ⟨⟨_, rfl, rfl⟩, 3, Or.inr rfl, rfl⟩
    · apply sd_asg; apply ed_of
      · exact ee_ifF hT (decide_eq_false (by omega)) ee_int
      exact ⟨⟨_, rfl, rfl⟩, 2, Or.inl rfl, rfl⟩
  rintro e ⟨b, hb, rfl⟩
  apply sd_seq
  apply sd_if; apply td_of
  · exact et_and (b := decide ((drawV (drawP p 4) 3 : Int) = 1)) (et_test (ee_opP (ee_var rfl) ee_int rr_b)) (fun _ => et_test (ee_op (ee_draw (many := 3) rfl ee_int o1 (by decide) (small_lt (by decide))) ee_int rr_eqI)) (fun z => nomatch z)
  have e8 : decide ((8 : Int) > 3) = true := rfl
  rw [e8, Bool.true_and]
  by_cases h1 : drawV (drawP p 4) 3 = 1
  · rw [if_pos (decide_eq_true (by omega))]
    apply sd_ret
    apply ed_callN rfl (ea_consP (ee_var rfl) ea_nil) rfl
    · exact ⟨_, b, rfl, o2, rfl, hb⟩
    · rintro c' d ⟨p', B, rfl, h2, rfl, h3, h4⟩
      exact ⟨potC p', rfl, p', B, rfl, h2, rfl, h3, by omega⟩
  · rw [if_neg (by rw [decide_eq_false (by omega)]; exact Bool.false_ne_true)]
    apply sd_next
    apply sd_ret
    apply ed_callN (ds := [.int (b : Nat), .int ((1 + drawV (drawP (drawP p 4) 3) 8 : Nat) : Int)]) (c := potC (drawP (drawP (drawP p 4) 3) 8)) (e1 := [.o true (potC (drawP (drawP (drawP p 4) 3) 8)), .d (.int 8), .d (.int (b : Nat))]) rfl
    · refine ea_cons (ee_var rfl) (ea_cons (EE.is (ee_op ee_int (ee_draw (many := 8) rfl (ee_var rfl) o2 (by decide) (small_lt (by decide))) rr_i) ?_) ea_nil)
      push_cast; rfl
    · rfl
    · exact ⟨_, b, _, rfl, o3, rfl, hb, by omega, by omega⟩
    · intro c' d h
      obtain ⟨p', B, rfl, h2, rfl, h3, h4⟩ := h _ _ rfl
      exact ⟨potC p', rfl, p', B, rfl, h2, rfl, h3, by omega⟩
end
end K20
set_option autoImplicit false
set_option Elab.async false
set_option linter.all false
set_option maxRecDepth 100000
set_option maxHeartbeats 4000000
namespace K20
open PySem PySem.Spec PyProof.Rows L2 Fl Bk
local macro_rules | `(tactic| walk_at "sd") => `(tactic| first | assumption | rfl | omega | exact Nat.le_of_ble_eq_true rfl | (constructor <;> omega) | decide | (left; constructor <;> omega) | (right; constructor <;> omega))
local macro_rules | `(tactic| walk_at "fn") => `(tactic| fail "fn")
local macro_rules | `(tactic| walk_at "rc") => `(tactic| first | exact rc_len rfl | exact rc_tuple rfl | exact rc_all | exact rc_any | exact rc_sum | exact rc_int1 | exact rc_min2 | exact rc_max2)
local macro_rules | `(tactic| walk_at "rcn") => `(tactic| first | exact rcn_list rfl)
local macro_rules | `(tactic| walk_at "rr") => `(tactic| first | exact rr_i | exact rr_b | exact rr_eqI | exact rr_neI | exact rr_eqB | exact rr_neB | exact rr_eqS | exact rr_neS | (apply rr_ixT; first | rfl | assumption) | (apply rr_ixL; first | rfl | assumption) | (apply rr_ic; walk_at "sd") | (apply rr_catT; first | (exact List.cons_ne_nil _ _) | assumption; walk_at "sd"))
local macro_rules | `(tactic| walk_at "ea") => `(tactic| first | exact ea_nil | (apply ea_cons; walk_at "ee"; walk_at "ea"))
local macro_rules | `(tactic| walk_at "et") => `(tactic| first | (apply et_test; walk_at "ee") | (apply et_B; walk_at "ee") | (apply et_not; walk_at "et") | exact et_yes | (apply et_andP; walk_at "et"; walk_at "et") | (apply et_orP; walk_at "et"; walk_at "et"))
local macro_rules | `(tactic| walk_at "en") => `(tactic| first | (apply en_lst; walk_at "ea"; walk_at "sd") | (apply en_cb; walk_at "ea"; walk_at "rcn") | (apply en_revO; rfl) | (apply en_revL; walk_at "ee"))
local macro_rules | `(tactic| walk_at "ex") => `(tactic| first | exact ex_nil | (apply ex_n; walk_at "en"; (intro _ z; cases z); walk_at "ex") | (apply ex_t; walk_at "ee"; walk_at "ex"))
local macro_rules | `(tactic| walk_at "eo") => `(tactic| first | exact eo_no | (apply eo_part; walk_at "ee"))
local macro_rules | `(tactic| walk_at "gg") => `(tactic| first | exact gg_name rfl rfl | exact gg_name rfl (by assumption) | (apply gg_tup; walk_at "ggs"; rfl) | (apply gg_lst; walk_at "ggs"; rfl))
local macro_rules | `(tactic| walk_at "ggs") => `(tactic| first | exact ggs_nil | (apply ggs_cons; walk_at "gg"; walk_at "ggs"))
local macro_rules | `(tactic| walk_at "ei") => `(tactic| first | (apply ei_rangeL1; walk_at "ea") | (apply ei_rangeL2; walk_at "ea") | (apply ei_tup; walk_at "ee") | (apply ei_list; walk_at "ee"))
local macro_rules | `(tactic| walk_at "ee") => `(tactic| first
  | exact ee_var rfl
  | exact ee_int
  | exact ee_bl
  | exact ee_non
  | exact ee_str
  | (apply ee_ixO rfl; walk_at "ee"; rfl; first | rfl | assumption)
  | (apply ee_op; walk_at "ee"; walk_at "ee"; walk_at "rr")
  | (apply ee_tup; walk_at "ea"; walk_at "sd")
  | (apply ee_call; walk_at "ea"; walk_at "fn")
  | (apply ee_isi; walk_at "ee"; rfl; rfl)
  | exact ee_lenO rfl
  | exact ee_tupleO rfl
  | (apply ee_cb; walk_at "ea"; walk_at "rc")
  | (apply ee_andP; walk_at "ee"; walk_at "ee")
  | (apply ee_orP; walk_at "ee"; walk_at "ee")
  | (apply ee_notV; walk_at "ee")
  | (apply ee_neg; walk_at "ee")
  | (apply ee_revT; walk_at "ee")
  | (apply ee_slT; walk_at "ee"; walk_at "eo"; walk_at "eo"; walk_at "sd")
  | (apply EN.tree; walk_at "en"))
local macro_rules | `(tactic| walk_at "asg") => `(tactic| (apply sd_seq; apply sd_asg; apply ed_of; walk_at "ee"; refine ⟨⟨_, rfl, rfl⟩, ?_⟩))
local macro_rules | `(tactic| walk_at "asgN") => `(tactic| (apply sd_seq; apply sd_of; apply ss_asgN; walk_at "en"; rfl; rfl))
local macro_rules | `(tactic| walk_at "asgG") => `(tactic| (apply sd_seq; apply sd_of; apply ss_asgG; walk_at "ee"; walk_at "gg"))
local macro_rules | `(tactic| walk_at "par") => `(tactic| (apply sd_seq; apply sd_of; apply ss_parX; walk_at "ex"; decide; rfl; rfl; rfl; rfl))
local macro_rules | `(tactic| walk_at "par3") => `(tactic| (apply sd_seq; apply sd_of; apply ss_par3X; walk_at "ex"; decide; decide; decide; rfl; rfl; rfl; rfl; rfl; rfl))
local macro_rules | `(tactic| walk_at "ret") => `(tactic| (apply sd_ret; apply ed_of; walk_at "ee"))
local macro_rules | `(tactic| walk_at "no") => `(tactic| (apply sd_seq; apply sd_if; apply td_of; walk_at "et"))
local macro_rules | `(tactic| walk_at "drop") => `(tactic| (apply sd_seq; apply sd_drop; apply ed_of; walk_at "ee"))
local macro_rules | `(tactic| walk_at "fn") => `(tactic| exact r_is_integer)
local macro_rules | `(tactic| walk_at "fn") => `(tactic| exact r_is_natural)
local macro_rules | `(tactic| walk_at "fn") => `(tactic| exact r_is_below)
local macro_rules | `(tactic| walk_at "fn") => `(tactic| exact r_is_pair)
local macro_rules | `(tactic| walk_at "fn") => `(tactic| (apply r_power; walk_at "sd"))
local macro_rules | `(tactic| walk_at "fn") => `(tactic| (apply r_is_cell_below; walk_at "sd"))
local macro_rules | `(tactic| walk_at "fn") => `(tactic| (apply r_is_posture; walk_at "sd"; walk_at "sd"))
local macro_rules | `(tactic| walk_at "fn") => `(tactic| exact r_posed)
local macro_rules | `(tactic| walk_at "fn") => `(tactic| (apply r_is_part; assumption))
local macro_rules | `(tactic| walk_at "fn") => `(tactic| (apply r_is_kind_of; assumption; assumption))
local macro_rules | `(tactic| walk_at "fn") => `(tactic| (apply r_is_book; assumption))
local macro_rules | `(tactic| walk_at "fn") => `(tactic| (apply r_check_book; assumption))
local macro_rules | `(tactic| walk_at "fn") => `(tactic| (apply r_check_kind; assumption))
local macro_rules | `(tactic| walk_at "fn") => `(tactic| (apply r_turned_of; assumption))
local macro_rules | `(tactic| walk_at "fn") => `(tactic| (apply r_check_posture; assumption; assumption))
local macro_rules | `(tactic| walk_at "fn") => `(tactic| (apply r_turned; assumption; assumption; assumption))
local macro_rules | `(tactic| walk_at "fn") => `(tactic| (apply r_backward_of; assumption))
local macro_rules | `(tactic| walk_at "fn") => `(tactic| (apply r_backward; assumption))
local macro_rules | `(tactic| walk_at "fn") => `(tactic| exact r_check_depth)
local macro_rules | `(tactic| walk_at "fn") => `(tactic| exact r_check_many)
local macro_rules | `(tactic| walk_at "fn") => `(tactic| (apply r_cells_each_way; assumption))
local macro_rules | `(tactic| walk_at "fn") => `(tactic| (apply r_how_many_cells; assumption))
local macro_rules | `(tactic| walk_at "fn") => `(tactic| (apply r_check_cell; assumption; assumption))
local macro_rules | `(tactic| walk_at "fn") => `(tactic| (apply r_check_number; assumption; walk_at "sd"))
local macro_rules | `(tactic| walk_at "fn") => `(tactic| (apply r_way_to; assumption; assumption; assumption; assumption))
local macro_rules | `(tactic| walk_at "fn") => `(tactic| (apply r_number_in; assumption; assumption; assumption; assumption))
local macro_rules | `(tactic| walk_at "fn") => `(tactic| (apply r_number_of; assumption; assumption; assumption))
local macro_rules | `(tactic| walk_at "fn") => `(tactic| (apply r_cell_in; assumption; assumption; assumption; assumption))
local macro_rules | `(tactic| walk_at "fn") => `(tactic| (apply r_cell_of; assumption; assumption; assumption))
local macro_rules | `(tactic| walk_at "fn") => `(tactic| (apply r_kinds_on; assumption; assumption; assumption))
local macro_rules | `(tactic| walk_at "fn") => `(tactic| (apply r_thread_of; assumption; assumption; assumption; assumption))
local macro_rules | `(tactic| walk_at "fn") => `(tactic| (apply r_thread; assumption; assumption; assumption; assumption))
local macro_rules | `(tactic| walk_at "fn") => `(tactic| (apply r_first_cell; assumption; assumption))
local macro_rules | `(tactic| walk_at "fn") => `(tactic| (apply r_last_cell; assumption; assumption))
local macro_rules | `(tactic| walk_at "fn") => `(tactic| (apply r_whole; assumption; assumption; assumption))
local macro_rules | `(tactic| walk_at "fn") => `(tactic| (apply r_numbered; assumption; assumption))
local macro_rules | `(tactic| walk_at "fn") => `(tactic| (apply r_begun_of; assumption; assumption))
local macro_rules | `(tactic| walk_at "fn") => `(tactic| (apply r_begun_at; assumption; assumption))
local macro_rules | `(tactic| walk_at "fn") => `(tactic| (apply r_law_same; assumption))
local macro_rules | `(tactic| walk_at "fn") => `(tactic| exact r_law_posed)
local macro_rules | `(tactic| walk_at "fn") => `(tactic| (apply r_law_picture; assumption))
local macro_rules | `(tactic| walk_at "fn") => `(tactic| (apply r_law_figures; walk_at "sd"; walk_at "sd"; walk_at "sd"))
local macro_rules | `(tactic| walk_at "fn") => `(tactic| (apply r_law_way; assumption; assumption; assumption))
local macro_rules | `(tactic| walk_at "fn") => `(tactic| (apply r_law_carried; assumption; assumption; walk_at "sd"))
local macro_rules | `(tactic| walk_at "fn") => `(tactic| (apply r_law_begun; assumption; assumption))
section
variable {P : Program} {w : World} {K : PySem.W.Frag} {mg : Str → Option Value} {base : Heap}
/-! ### the law's own: numbers, cells, threads are right -/
theorem carried_way {B : Book} (ho : BookOk B) {d n r m bk : Nat} (hn : n < cells B d) : dCarried B d n r m bk = dWay (pict B r m bk) d n := by
  obtain ⟨h1, h2⟩ := at_pict ho (r := r) (m := m) (bk := bk) (kind0 ho) hn
  unfold dCarried dWay
  rw [h1, h2]
def PreRight : Ct → List D → Prop := fun c ds => ∃ (p : Pot) (B : Book) (r m bk : Nat), c = potC p ∧ PotOk p ∧ ds = [dBook B, dBook (pict B r m bk), dTri r m bk] ∧ BookOk B
def PostTrue : Ct → List D → Ct → D → Prop := fun _ _ c' d => ∃ p' : Pot, c' = potC p' ∧ PotOk p' ∧ d = .bool true
theorem cells_draw {B : Book} (h : BookOk B) {d : Nat} (hd : d ≤ 2000) : cells B d < 2 ^ 8500 := Nat.lt_trans (cells_bound h hd) (Nat.pow_lt_pow_right (by decide) (by decide))
theorem depths : ∀ v : Fin 6, ∃ dd : Nat, dd ≤ 60 ∧ [0, 1, 3, 7, 24, 60][v.val]? = some dd := by decide
theorem okT_way {B : Book} {d n : Nat} (hd : d ≤ 2000) {k : Nat} : okT (k + 3) (.list [dCell (cellAt B 0 d n), .tuple (dNats (kindsAt B 0 d n)), .int (n : Nat)]) = true :=
  okT_list (show 3 ≤ 1000000 by decide) (all3 okT_cell (okT_nats (by rw [kindsAt_len]; omega)) okT_int)
/-- the cells that a law carries over -/
theorem en_cells {env : Fl.Env} {wi : TI} {ns : List Nat} {B : Book} {d r m bk : Nat} {ib id iw iv : Nat} (hi : EI K wi env env (dNats ns)) (hz : ns.length ≤ 1000000) (ho : BookOk B) (hd : d ≤ 2000) (hn : ∀ n ∈ ns, n < cells B d)
    (hv : anyB env [iv] = true) (e1 : ∀ x : D, (env.set iv (.d x))[ib]? = some (.d (dBook B))) (e2 : ∀ x : D, (env.set iv (.d x))[id]? = some (.d (.int (d : Nat)))) (e3 : ∀ x : D, (env.set iv (.d x))[iw]? = some (.d (dTri r m bk))) (e4 : ∀ x : D, (env.set iv (.d x))[iv]? = some (.d x)) (e5 : ∀ x : D, (env.set iv (.d x)).set iv .any = env) (e6 : ∃ s, env[iv]? = some s ∧ s.isPm = false) :
    EN K (tLc wi (gName iv) tYes (tOp (rIxL K) (tCall (spP K f_law_carried) [] E0 (tCons (tVar ib) (tCons (tVar id) (tCons (tVar iv) (tCons (tVar iw) tNil))))) (tC (.int 0))) [iv]) env env (.lst (ns.map fun n => dCell (cellAt (pict B r m bk) 0 d n))) := by
  obtain ⟨s, hs1, hs2⟩ := e6
  refine en_lcF hi (by unfold dNats; rw [List.length_map, List.length_map]) (by unfold dNats; rw [List.length_map]; exact hz) hv fun i x y hx hy => ?_
  unfold dNats at hx
  rw [List.getElem?_map] at hx hy
  obtain ⟨n, hnn, rfl⟩ := Option.map_eq_some_iff.mp hx
  rw [hnn] at hy
  cases hy
  have hlt := hn n (List.mem_of_getElem? hnn)
  refine ⟨[iv], env.set iv (.d (.int (n : Nat))), gg_name hs1 hs2, et_yes, ?_, ?_, e5 _⟩
  · refine ee_opP (x := dCarried B d n r m bk) (ee_callP (ds := [dBook B, .int (d : Nat), .int (n : Nat), dTri r m bk]) (ea_consP (ee_var (e1 _)) (ea_consP (ee_var (e2 _)) (ea_consP (ee_var (e4 _)) (ea_consP (ee_var (e3 _)) ea_nil)))) (r_law_carried ho hd hlt)) ee_int ?_
    rw [carried_way ho hlt]
    exact rr_ixL rfl
  · unfold cokB
    simp [e4, S.isD, S.isFree]
theorem thread_map {B : Book} {d first behind : Nat} : dThread B 0 d first behind = .list (((List.range (behind - first)).map fun i => first + i).map fun n => dCell (cellAt B 0 d n)) := by
  unfold dThread
  rw [List.map_map]; rfl
theorem okT_thread {B : Book} {d first behind k : Nat} (h : behind - first ≤ 1000000) : okT (k + 3) (dThread B 0 d first behind) = true := okT_list (by rw [List.length_map, List.length_range]; exact h) fun x hx => by
  obtain ⟨i, _, rfl⟩ := List.mem_map.mp hx
  exact okT_cell
theorem nats_range {lo hi : Nat} : rangeD (lo : Int) (((hi : Nat) : Int) - (lo : Nat)).toNat = dNats ((List.range (hi - lo)).map fun i => lo + i) := by
  have e : (((hi : Nat) : Int) - (lo : Nat)).toNat = hi - lo := by omega
  rw [e]
  unfold rangeD dNats
  rw [List.map_map]
  apply List.map_congr_left
  intro i _
  show PyData.int _ = PyData.int _
  congr 1
theorem ee_bb {env : Fl.Env} {i : Nat} {B : Book} {tl : D} (h : env[i]? = some (.d (.tuple [.int (B.b : Nat), tl]))) (hb : B.b ≤ 3) : EE K (tOp (rI CMul fun i j => .int (i * j)) (tOp (rIxT K) (tVar i) (tC (.int 0))) (tOp (rIxT K) (tVar i) (tC (.int 0)))) env env (.int ((B.b * B.b : Nat) : Int)) := by
  have h1 : EE K (tOp (rIxT K) (tVar i) (tC (.int 0))) env env (.int (B.b : Nat)) := ee_opP (ee_var h) ee_int (rr_ixT rfl)
  refine EE.is (ee_opP h1 h1 (rr_ic (Or.inl ⟨by omega, by omega⟩))) ?_
  push_cast; rfl
theorem ok_law_whole_right (c : Cn K mg base) : Has P w K mg base "_law_whole_right" 10 ps_law_whole_right (spN K PreRight PostTrue) := by
  refine mk_law_whole_right c fun fd F => fn_N F sc_law_whole_right (fun c ds h => by obtain ⟨_, _, _, _, _, _, _, rfl, _⟩ := h; rfl) fun cdv A outer s H E hr => ?_
  refine ⟨_, (pss_cons (ps_set (i := 4) sc_law_whole_right.nd rfl (by first | exact Or.inl rfl | exact Or.inr rfl) (pe_has (ok_law_draw c) hr (pa_cons (pv 0) (pa_cons (pe_ifExp (pt_cmpR op_eq (pe_ix (ixT K rfl) (pv 1) pe_int (fun _ _ => rfl)) pe_int (nomark _)) pe_int pe_int) pa_nil))))
    (pss_cons (ps_setLc (own := [("number", 6)]) (i := 5) rfl sc_law_whole_right.nd rfl rfl (sw_true rfl rfl rfl (by decide +kernel)) (FlRange.pi_rangeL1 (by rfl) c.f_range (pa_cons (pe_has (ok_law_power c) hr (pa_cons (pe_op op_mul (pe_ix (ixT K rfl) (pv 1) pe_int (fun _ _ => rfl)) (pe_ix (ixT K rfl) (pv 1) pe_int (fun _ _ => rfl))) (pa_cons (pv 4) pa_nil))) pa_nil)) (blkOk_by rfl) (fun _ _ _ _ _ => (pg_name (i := 6) sc_law_whole_right.nd rfl (by first | exact Or.inl rfl | exact Or.inr rfl))) (fun _ _ _ _ _ => pts_nil) (fun _ _ _ _ _ => (pe_ix (ixL K rfl) (pe_has (ok_law_carried c) hr (pa_cons (pv 1) (pa_cons (pv 4) (pa_cons (pv 6) (pa_cons (pv 3) pa_nil))))) pe_int (fun _ _ => rfl))))
    (pss_one (ps_ret (pe_has (ok_law_same c 8) hr (pa_cons (pe_has (ok_whole c) hr (pa_cons (pv 2) (pa_cons (pv 4) pa_nil))) (pa_cons (pv 5) pa_nil))))))), ?_⟩
  rintro c ds ⟨p, B, r, m, bk, rfl, hp, rfl, ho⟩
  show SD K _ [.o true (potC p), .d (.tuple [.int (B.b : Nat), .tuple (B.kinds.map dRow)]), .d (dBook (pict B r m bk)), .d (dTri r m bk), .any, .any, .any] _
  have hb := ho.b2
  have h9 := bb9 ho
  have hT := pict_ok ho r m bk
  refine sd_mid (fun e => ∃ (p : Pot) (d : Nat), PotOk p ∧ d ≤ 3 ∧ e = [.o true (potC p), .d (.tuple [.int (B.b : Nat), .tuple (B.kinds.map dRow)]), .d (dBook (pict B r m bk)), .d (dTri r m bk), .d (.int (d : Nat)), .any, .any]) ?_ ?_
  · have hte : ET K (tTest (tOp rEq (tOp (rIxT K) (tVar 1) (tC (.int 0))) (tC (.int 2)))) [.o true (potC p), .d (.tuple [.int (B.b : Nat), .tuple (B.kinds.map dRow)]), .d (dBook (pict B r m bk)), .d (dTri r m bk), .any, .any, .any] [.o true (potC p), .d (.tuple [.int (B.b : Nat), .tuple (B.kinds.map dRow)]), .d (dBook (pict B r m bk)), .d (dTri r m bk), .any, .any, .any] (decide ((B.b : Int) = 2)) := et_test (ee_opP (ee_opP (ee_var rfl) ee_int (rr_ixT rfl)) ee_int rr_eqI)
    by_cases h2 : B.b = 2
    · have d1 := drawV_lt (p := p) (many := 4) (by decide)
      apply sd_asg; apply ed_of
      · exact ee_draw (many := 4) rfl (ee_ifT hte (decide_eq_true (by omega)) ee_int) hp (by decide) (small_lt (by decide))
      exact ⟨⟨_, rfl, rfl⟩, _, _, drawP_ok hp, by omega, rfl⟩
    · have d1 := drawV_lt (p := p) (many := 3) (by decide)
      apply sd_asg; apply ed_of
      · exact ee_draw (many := 3) rfl (ee_ifF hte (decide_eq_false (by omega)) ee_int) hp (by decide) (small_lt (by decide))
      exact ⟨⟨_, rfl, rfl⟩, _, _, drawP_ok hp, by omega, rfl⟩
  rintro e ⟨p, d, hp, hd, rfl⟩
  have hd2 : d ≤ 2000 := by omega
  have hcs : cells B d ≤ 1000 := by
    have h1 : cells B d ≤ 9 ^ d := Nat.pow_le_pow_left h9.2 d
    have h2 : 9 ^ d ≤ 9 ^ 3 := Nat.pow_le_pow_right (by decide) hd
    have h3 : (9 : Nat) ^ 3 = 729 := by decide
    omega
  apply sd_seq; apply sd_of
  · apply ss_asgN
    · refine en_cells (ns := (List.range (cells B d - 0)).map fun i => 0 + i) (ib := 1) (id := 4) (iw := 3) (iv := 6) ?_ ?_ ho hd2 ?_ rfl (fun _ => rfl) (fun _ => rfl) (fun _ => rfl) (fun _ => rfl) (fun _ => rfl) ⟨_, rfl, rfl⟩
      · rw [← nats_range]
        have e0 : ((cells B d : Nat) : Int) - ((0 : Nat) : Int) = (cells B d : Nat) := by omega
        rw [e0]
        exact ei_rangeL1 (n := (cells B d : Nat)) (ea_consP (ee_callP (ds := [.int ((B.b * B.b : Nat) : Int), .int (d : Nat)]) (ea_consP (ee_bb (B := B) rfl hb.2) (ea_consP (ee_var rfl) ea_nil)) (r_power (by omega))) ea_nil)
      · rw [List.length_map, List.length_range]; omega
      · intro n hn
        obtain ⟨i, hi, rfl⟩ := List.mem_map.mp hn
        have := List.mem_range.mp hi
        omega
    · rfl
    · rfl
  refine sd_pre (sub_freeze (i := 5) rfl) ?_
  apply sd_ret; apply ed_of
  · refine ee_callP (ds := [dThread (pict B r m bk) 0 d 0 (cells B d), dThread (pict B r m bk) 0 d 0 (cells B d)]) (ea_consP ?_ (ea_consP ?_ ea_nil)) (r_law_same (okT_thread (k := 5) (by omega)))
    · have := r_whole hT hd2 (by rw [pict_cells]; omega)
      rw [pict_cells] at this
      exact ee_callP (ea_consP (ee_var rfl) (ea_consP (ee_var rfl) ea_nil)) this
    · rw [thread_map]
      exact ee_var rfl
  · exact ⟨potC p, rfl, p, rfl, hp, rfl⟩
end
end K20
set_option autoImplicit false
set_option Elab.async false
set_option linter.all false
set_option maxRecDepth 100000
set_option maxHeartbeats 4000000
namespace K20
open PySem PySem.Spec PyProof.Rows L2 Fl Bk
local macro_rules | `(tactic| walk_at "sd") => `(tactic| first | assumption | rfl | omega | exact Nat.le_of_ble_eq_true rfl | (constructor <;> omega) | decide | (left; constructor <;> omega) | (right; constructor <;> omega))
local macro_rules | `(tactic| walk_at "fn") => `(tactic| fail "fn")
local macro_rules | `(tactic| walk_at "rc") => `(tactic| first | exact rc_len rfl | exact rc_tuple rfl | exact rc_all | exact rc_any | exact rc_sum | exact rc_int1 | exact rc_min2 | exact rc_max2)
local macro_rules | `(tactic| walk_at "rcn") => `(tactic| first | exact rcn_list rfl)
local macro_rules | `(tactic| walk_at "rr") => `(tactic| first | exact rr_i | exact rr_b | exact rr_eqI | exact rr_neI | exact rr_eqB | exact rr_neB | exact rr_eqS | exact rr_neS | (apply rr_ixT; first | rfl | assumption) | (apply rr_ixL; first | rfl | assumption) | (apply rr_ic; walk_at "sd") | (apply rr_catT; first | (exact List.cons_ne_nil _ _) | assumption; walk_at "sd"))
local macro_rules | `(tactic| walk_at "ea") => `(tactic| first | exact ea_nil | (apply ea_cons; walk_at "ee"; walk_at "ea"))
local macro_rules | `(tactic| walk_at "et") => `(tactic| first | (apply et_test; walk_at "ee") | (apply et_B; walk_at "ee") | (apply et_not; walk_at "et") | exact et_yes | (apply et_andP; walk_at "et"; walk_at "et") | (apply et_orP; walk_at "et"; walk_at "et"))
local macro_rules | `(tactic| walk_at "en") => `(tactic| first | (apply en_lst; walk_at "ea"; walk_at "sd") | (apply en_cb; walk_at "ea"; walk_at "rcn") | (apply en_revO; rfl) | (apply en_revL; walk_at "ee"))
local macro_rules | `(tactic| walk_at "ex") => `(tactic| first | exact ex_nil | (apply ex_n; walk_at "en"; (intro _ z; cases z); walk_at "ex") | (apply ex_t; walk_at "ee"; walk_at "ex"))
local macro_rules | `(tactic| walk_at "eo") => `(tactic| first | exact eo_no | (apply eo_part; walk_at "ee"))
local macro_rules | `(tactic| walk_at "gg") => `(tactic| first | exact gg_name rfl rfl | exact gg_name rfl (by assumption) | (apply gg_tup; walk_at "ggs"; rfl) | (apply gg_lst; walk_at "ggs"; rfl))
local macro_rules | `(tactic| walk_at "ggs") => `(tactic| first | exact ggs_nil | (apply ggs_cons; walk_at "gg"; walk_at "ggs"))
local macro_rules | `(tactic| walk_at "ei") => `(tactic| first | (apply ei_rangeL1; walk_at "ea") | (apply ei_rangeL2; walk_at "ea") | (apply ei_tup; walk_at "ee") | (apply ei_list; walk_at "ee"))
local macro_rules | `(tactic| walk_at "ee") => `(tactic| first
  | exact ee_var rfl
  | exact ee_int
  | exact ee_bl
  | exact ee_non
  | exact ee_str
  | (apply ee_ixO rfl; walk_at "ee"; rfl; first | rfl | assumption)
  | (apply ee_op; walk_at "ee"; walk_at "ee"; walk_at "rr")
  | (apply ee_tup; walk_at "ea"; walk_at "sd")
  | (apply ee_call; walk_at "ea"; walk_at "fn")
  | (apply ee_isi; walk_at "ee"; rfl; rfl)
  | exact ee_lenO rfl
  | exact ee_tupleO rfl
  | (apply ee_cb; walk_at "ea"; walk_at "rc")
  | (apply ee_andP; walk_at "ee"; walk_at "ee")
  | (apply ee_orP; walk_at "ee"; walk_at "ee")
  | (apply ee_notV; walk_at "ee")
  | (apply ee_neg; walk_at "ee")
  | (apply ee_revT; walk_at "ee")
  | (apply ee_slT; walk_at "ee"; walk_at "eo"; walk_at "eo"; walk_at "sd")
  | (apply EN.tree; walk_at "en"))
local macro_rules | `(tactic| walk_at "asg") => `(tactic| (apply sd_seq; apply sd_asg; apply ed_of; walk_at "ee"; refine ⟨⟨_, rfl, rfl⟩, ?_⟩))
local macro_rules | `(tactic| walk_at "asgN") => `(tactic| (apply sd_seq; apply sd_of; apply ss_asgN; walk_at "en"; rfl; rfl))
local macro_rules | `(tactic| walk_at "asgG") => `(tactic| (apply sd_seq; apply sd_of; apply ss_asgG; walk_at "ee"; walk_at "gg"))
local macro_rules | `(tactic| walk_at "par") => `(tactic| (apply sd_seq; apply sd_of; apply ss_parX; walk_at "ex"; decide; rfl; rfl; rfl; rfl))
local macro_rules | `(tactic| walk_at "par3") => `(tactic| (apply sd_seq; apply sd_of; apply ss_par3X; walk_at "ex"; decide; decide; decide; rfl; rfl; rfl; rfl; rfl; rfl))
local macro_rules | `(tactic| walk_at "ret") => `(tactic| (apply sd_ret; apply ed_of; walk_at "ee"))
local macro_rules | `(tactic| walk_at "no") => `(tactic| (apply sd_seq; apply sd_if; apply td_of; walk_at "et"))
local macro_rules | `(tactic| walk_at "drop") => `(tactic| (apply sd_seq; apply sd_drop; apply ed_of; walk_at "ee"))
local macro_rules | `(tactic| walk_at "fn") => `(tactic| exact r_is_integer)
local macro_rules | `(tactic| walk_at "fn") => `(tactic| exact r_is_natural)
local macro_rules | `(tactic| walk_at "fn") => `(tactic| exact r_is_below)
local macro_rules | `(tactic| walk_at "fn") => `(tactic| exact r_is_pair)
local macro_rules | `(tactic| walk_at "fn") => `(tactic| (apply r_power; walk_at "sd"))
local macro_rules | `(tactic| walk_at "fn") => `(tactic| (apply r_is_cell_below; walk_at "sd"))
local macro_rules | `(tactic| walk_at "fn") => `(tactic| (apply r_is_posture; walk_at "sd"; walk_at "sd"))
local macro_rules | `(tactic| walk_at "fn") => `(tactic| exact r_posed)
local macro_rules | `(tactic| walk_at "fn") => `(tactic| (apply r_is_part; assumption))
local macro_rules | `(tactic| walk_at "fn") => `(tactic| (apply r_is_kind_of; assumption; assumption))
local macro_rules | `(tactic| walk_at "fn") => `(tactic| (apply r_is_book; assumption))
local macro_rules | `(tactic| walk_at "fn") => `(tactic| (apply r_check_book; assumption))
local macro_rules | `(tactic| walk_at "fn") => `(tactic| (apply r_check_kind; assumption))
local macro_rules | `(tactic| walk_at "fn") => `(tactic| (apply r_turned_of; assumption))
local macro_rules | `(tactic| walk_at "fn") => `(tactic| (apply r_check_posture; assumption; assumption))
local macro_rules | `(tactic| walk_at "fn") => `(tactic| (apply r_turned; assumption; assumption; assumption))
local macro_rules | `(tactic| walk_at "fn") => `(tactic| (apply r_backward_of; assumption))
local macro_rules | `(tactic| walk_at "fn") => `(tactic| (apply r_backward; assumption))
local macro_rules | `(tactic| walk_at "fn") => `(tactic| exact r_check_depth)
local macro_rules | `(tactic| walk_at "fn") => `(tactic| exact r_check_many)
local macro_rules | `(tactic| walk_at "fn") => `(tactic| (apply r_cells_each_way; assumption))
local macro_rules | `(tactic| walk_at "fn") => `(tactic| (apply r_how_many_cells; assumption))
local macro_rules | `(tactic| walk_at "fn") => `(tactic| (apply r_check_cell; assumption; assumption))
local macro_rules | `(tactic| walk_at "fn") => `(tactic| (apply r_check_number; assumption; walk_at "sd"))
local macro_rules | `(tactic| walk_at "fn") => `(tactic| (apply r_way_to; assumption; assumption; assumption; assumption))
local macro_rules | `(tactic| walk_at "fn") => `(tactic| (apply r_number_in; assumption; assumption; assumption; assumption))
local macro_rules | `(tactic| walk_at "fn") => `(tactic| (apply r_number_of; assumption; assumption; assumption))
local macro_rules | `(tactic| walk_at "fn") => `(tactic| (apply r_cell_in; assumption; assumption; assumption; assumption))
local macro_rules | `(tactic| walk_at "fn") => `(tactic| (apply r_cell_of; assumption; assumption; assumption))
local macro_rules | `(tactic| walk_at "fn") => `(tactic| (apply r_kinds_on; assumption; assumption; assumption))
local macro_rules | `(tactic| walk_at "fn") => `(tactic| (apply r_thread_of; assumption; assumption; assumption; assumption))
local macro_rules | `(tactic| walk_at "fn") => `(tactic| (apply r_thread; assumption; assumption; assumption; assumption))
local macro_rules | `(tactic| walk_at "fn") => `(tactic| (apply r_first_cell; assumption; assumption))
local macro_rules | `(tactic| walk_at "fn") => `(tactic| (apply r_last_cell; assumption; assumption))
local macro_rules | `(tactic| walk_at "fn") => `(tactic| (apply r_whole; assumption; assumption; assumption))
local macro_rules | `(tactic| walk_at "fn") => `(tactic| (apply r_numbered; assumption; assumption))
local macro_rules | `(tactic| walk_at "fn") => `(tactic| (apply r_begun_of; assumption; assumption))
local macro_rules | `(tactic| walk_at "fn") => `(tactic| (apply r_begun_at; assumption; assumption))
local macro_rules | `(tactic| walk_at "fn") => `(tactic| (apply r_law_same; assumption))
local macro_rules | `(tactic| walk_at "fn") => `(tactic| exact r_law_posed)
local macro_rules | `(tactic| walk_at "fn") => `(tactic| (apply r_law_picture; assumption))
local macro_rules | `(tactic| walk_at "fn") => `(tactic| (apply r_law_figures; walk_at "sd"; walk_at "sd"; walk_at "sd"))
local macro_rules | `(tactic| walk_at "fn") => `(tactic| (apply r_law_way; assumption; assumption; assumption))
local macro_rules | `(tactic| walk_at "fn") => `(tactic| (apply r_law_carried; assumption; assumption; walk_at "sd"))
local macro_rules | `(tactic| walk_at "fn") => `(tactic| (apply r_law_begun; assumption; assumption))
section
variable {P : Program} {w : World} {K : PySem.W.Frag} {mg : Str → Option Value} {base : Heap}
theorem ok_law_numbers_right (c : Cn K mg base) : Has P w K mg base "_law_numbers_right" 10 ps_law_numbers_right (spN K PreRight PostTrue) := by
  refine mk_law_numbers_right c fun fd F => fn_N F sc_law_numbers_right (fun c ds h => by obtain ⟨_, _, _, _, _, _, _, rfl, _⟩ := h; rfl) fun cdv A outer s H E hr => ?_
  refine ⟨_, (pss_cons (ps_set (i := 4) sc_law_numbers_right.nd rfl (by first | exact Or.inl rfl | exact Or.inr rfl) (pe_ix (ixL K rfl) (pe_lst (pa_cons pe_int (pa_cons pe_int (pa_cons pe_int (pa_cons pe_int (pa_cons pe_int (pa_cons pe_int pa_nil))))))) (pe_has (ok_law_draw c) hr (pa_cons (pv 0) (pa_cons pe_int pa_nil))) (fun _ _ => rfl)))
    (pss_cons (ps_set (i := 5) sc_law_numbers_right.nd rfl (by first | exact Or.inl rfl | exact Or.inr rfl) (pe_has (ok_law_power c) hr (pa_cons (pe_op op_mul (pe_ix (ixT K rfl) (pv 1) pe_int (fun _ _ => rfl)) (pe_ix (ixT K rfl) (pv 1) pe_int (fun _ _ => rfl))) (pa_cons (pv 4) pa_nil))))
    (pss_cons (ps_for PassesOwn.never rfl (FlRange.pi_rangeL1 (by rfl) c.f_range (pa_cons pe_int pa_nil)) (pg_name (i := 6) sc_law_numbers_right.nd rfl (by first | exact Or.inl rfl | exact Or.inr rfl)) (pss_cons (ps_set (i := 9) sc_law_numbers_right.nd rfl (by first | exact Or.inl rfl | exact Or.inr rfl) (pe_ifExp (pt_cmpR op_lt (pv 6) pe_int (nomark _)) (pe_ix (ixL K rfl) (pe_lst (pa_cons pe_int (pa_cons (pe_op op_sub (pv 5) pe_int) (pa_cons (pe_op op_fdivW (pv 5) pe_int) pa_nil)))) (pv 6) (fun _ _ => rfl)) (pe_has (ok_law_draw c) hr (pa_cons (pv 0) (pa_cons (pv 5) pa_nil)))))
    (pss_cons (ps_asg (pe_has (ok_law_carried c) hr (pa_cons (pv 1) (pa_cons (pv 4) (pa_cons (pv 9) (pa_cons (pv 3) pa_nil))))) (pgL K rfl (n := 2) rfl (pgs_cons (pg_name (i := 13) sc_law_numbers_right.nd rfl (by first | exact Or.inl rfl | exact Or.inr rfl)) (pgs_cons (pg_name (i := 14) sc_law_numbers_right.nd rfl (by first | exact Or.inl rfl | exact Or.inr rfl)) pgs_nil))))
    (pss_cons (ps_set (i := 10) sc_law_numbers_right.nd rfl (by first | exact Or.inl rfl | exact Or.inr rfl) (pe_lst (pa_cons (pe_has (ok_cell_of c) hr (pa_cons (pv 2) (pa_cons (pv 4) (pa_cons (pv 9) pa_nil)))) (pa_cons (pe_has (ok_kinds_on c) hr (pa_cons (pv 2) (pa_cons (pv 4) (pa_cons (pv 9) pa_nil)))) (pa_cons (pe_has (ok_number_of c) hr (pa_cons (pv 2) (pa_cons (pv 4) (pa_cons (pv 13) pa_nil)))) pa_nil)))))
    (pss_one (ps_if (pt_not (pt_val (pe_has (ok_law_same c 8) hr (pa_cons (pv 10) (pa_cons (pe_lst (pa_cons (pv 13) (pa_cons (pv 14) (pa_cons (pv 9) pa_nil)))) pa_nil))))) (pss_one (ps_ret pe_bl)) pss_nil))))))
    (pss_cons (ps_setLc (own := [("number", 9)]) (i := 7) rfl sc_law_numbers_right.nd rfl rfl (sw_true rfl rfl rfl (by decide +kernel)) (piL K rfl (pe_lst (pa_cons pe_int (pa_cons (pe_op op_sub (pv 5) pe_int) pa_nil)))) (blkOk_by rfl) (fun _ _ _ _ _ => (pg_name (i := 9) sc_law_numbers_right.nd rfl (by first | exact Or.inl rfl | exact Or.inr rfl))) (fun _ _ _ _ _ => pts_nil) (fun _ _ _ _ _ => (pe_ix (ixL K rfl) (pe_has (ok_law_carried c) hr (pa_cons (pv 1) (pa_cons (pv 4) (pa_cons (pv 9) (pa_cons (pv 3) pa_nil))))) pe_int (fun _ _ => rfl))))
    (pss_cons (ps_if (pt_not (pt_val (pe_has (ok_law_same c 8) hr (pa_cons (pe_lst (pa_cons (pe_has (ok_first_cell c) hr (pa_cons (pv 2) (pa_cons (pv 4) pa_nil))) (pa_cons (pe_hasK (okK_last_cell c) hr (pk_cons (pv 4) (pk_cons (pv 2) pk_nil))) pa_nil))) (pa_cons (pv 7) pa_nil))))) (pss_one (ps_ret pe_bl)) pss_nil)
    (pss_cons (ps_par (i := 11) (j := 12) rfl sc_law_numbers_right.nd rfl rfl (by decide) rfl rfl (pa_cons (pe_has (ok_law_draw c) hr (pa_cons (pv 0) (pa_cons (pv 5) pa_nil))) (pa_cons (pe_has (ok_law_draw c) hr (pa_cons (pv 0) (pa_cons pe_int pa_nil))) pa_nil)) rfl)
    (pss_cons (ps_setLc (own := [("number", 9)]) (i := 8) rfl sc_law_numbers_right.nd rfl rfl (sw_true rfl rfl rfl (by decide +kernel)) (FlRange.pi_rangeL2 (by rfl) c.f_range (pa_cons (pv 11) (pa_cons (pe_callB (call_min2 rfl) (by rfl) c.f_min b_min (pa_cons (pv 5) (pa_cons (pe_op op_add (pv 11) (pv 12)) pa_nil))) pa_nil))) (blkOk_by rfl) (fun _ _ _ _ _ => (pg_name (i := 9) sc_law_numbers_right.nd rfl (by first | exact Or.inl rfl | exact Or.inr rfl))) (fun _ _ _ _ _ => pts_nil) (fun _ _ _ _ _ => (pe_ix (ixL K rfl) (pe_has (ok_law_carried c) hr (pa_cons (pv 1) (pa_cons (pv 4) (pa_cons (pv 9) (pa_cons (pv 3) pa_nil))))) pe_int (fun _ _ => rfl))))
    (pss_one (ps_ret (pe_has (ok_law_same c 8) hr (pa_cons (pe_has (ok_thread c) hr (pa_cons (pv 2) (pa_cons (pv 4) (pa_cons (pv 11) (pa_cons (pv 12) pa_nil))))) (pa_cons (pv 8) pa_nil)))))))))))), ?_⟩
  rintro c ds ⟨p, B, r, m, bk, rfl, hp, rfl, ho⟩
  show SD K _ [.o true (potC p), .d (.tuple [.int (B.b : Nat), .tuple (B.kinds.map dRow)]), .d (dBook (pict B r m bk)), .d (dTri r m bk), .any, .any, .any, .any, .any, .any, .any, .any, .any, .any, .any] _
  have hb := ho.b2
  have h9 := bb9 ho
  have hT := pict_ok ho r m bk
  -- d
  have d1 := drawV_lt (p := p) (many := 6) (by decide)
  have o1 := drawP_ok (many := 6) hp
  obtain ⟨d, hd, hget⟩ := depths ⟨drawV p 6, d1⟩
  have hat : atI [PyData.int 0, .int 1, .int 3, .int 7, .int 24, .int 60] (drawV p 6 : Nat) = some (.int (d : Nat)) := Bk.atI_nat (by
    have e : [PyData.int 0, .int 1, .int 3, .int 7, .int 24, .int 60] = [0, 1, 3, 7, 24, 60].map fun (n : Nat) => PyData.int (n : Int) := rfl
    rw [e, List.getElem?_map]
    have h2 : [0, 1, 3, 7, 24, 60][drawV p 6]? = some d := hget
    rw [h2]; rfl)
  apply sd_seq; apply sd_asg; apply ed_of
  · refine ee_op (x := .list [.int 0, .int 1, .int 3, .int 7, .int 24, .int 60]) (EN.tree (en_lst (e1 := [.o true (potC p), .d (.tuple [.int (B.b : Nat), .tuple (B.kinds.map dRow)]), .d (dBook (pict B r m bk)), .d (dTri r m bk), .any, .any, .any, .any, .any, .any, .any, .any, .any, .any, .any]) ?_ (show 6 ≤ 1000000 by decide))) (ee_draw (many := 6) rfl ee_int hp (by decide) (small_lt (by decide))) (rr_ixL hat)
    walk_at "ea"
  refine ⟨⟨_, rfl, rfl⟩, ?_⟩
  have hd2 : d ≤ 2000 := by omega
  have hcp := cells_pos ho d
  have hcd := cells_draw ho hd2
  generalize hq : drawP p 6 = q at o1 ⊢
  -- many
  apply sd_seq; apply sd_asg; apply ed_of
  · exact ee_callP (d := .int (cells B d : Nat)) (ds := [.int ((B.b * B.b : Nat) : Int), .int (d : Nat)]) (ea_consP (ee_bb (B := B) rfl hb.2) (ea_consP (ee_var rfl) ea_nil)) (r_power (by omega))
  refine ⟨⟨_, rfl, rfl⟩, ?_⟩
  -- five numbers
  apply sd_seq
  refine sd_for (ds := rangeD 0 5) (e0 := [.o true (potC q), .d (.tuple [.int (B.b : Nat), .tuple (B.kinds.map dRow)]), .d (dBook (pict B r m bk)), .d (dTri r m bk), .d (.int (d : Nat)), .d (.int (cells B d : Nat)), .any, .any, .any, .any, .any, .any, .any, .any, .any]) (ei_rangeL1 (n := 5) (ea_consP ee_int ea_nil))
    (fun i e => ∃ (p : Pot) (v6 v9 v10 v13 v14 : S), PotOk p ∧ S.isPm v6 = false ∧ S.isPm v9 = false ∧ S.isPm v10 = false ∧ S.isPm v13 = false ∧ S.isPm v14 = false ∧
      e = [.o true (potC p), .d (.tuple [.int (B.b : Nat), .tuple (B.kinds.map dRow)]), .d (dBook (pict B r m bk)), .d (dTri r m bk), .d (.int (d : Nat)), .d (.int (cells B d : Nat)), v6, .any, .any, v9, v10, .any, .any, v13, v14]) ⟨q, .any, .any, .any, .any, .any, o1, rfl, rfl, rfl, rfl, rfl, rfl⟩ ?_ ?_
  · rintro i dd e hdd ⟨p, v6, v9, v10, v13, v14, hp, h6, h9', h10, h13, h14, rfl⟩
    have hi : i < 5 := by
      have := (List.getElem?_eq_some_iff.mp hdd).1
      rw [rangeD_len] at this
      exact this
    rw [rangeD_get hi, Int.zero_add] at hdd
    cases hdd
    refine ⟨_, _, gg_name rfl h6, ?_⟩
    -- number
    refine sd_mid (fun e => ∃ (p : Pot) (n : Nat), PotOk p ∧ n < cells B d ∧ e = [.o true (potC p), .d (.tuple [.int (B.b : Nat), .tuple (B.kinds.map dRow)]), .d (dBook (pict B r m bk)), .d (dTri r m bk), .d (.int (d : Nat)), .d (.int (cells B d : Nat)), .d (.int (i : Int)), .any, .any, .d (.int (n : Nat)), v10, .any, .any, v13, v14]) ?_ ?_
    · have hte : ET K (tTest (tOp (rI0 fun i j => .bl (decide (i < j))) (tVar 6) (tC (.int 3)))) [.o true (potC p), .d (.tuple [.int (B.b : Nat), .tuple (B.kinds.map dRow)]), .d (dBook (pict B r m bk)), .d (dTri r m bk), .d (.int (d : Nat)), .d (.int (cells B d : Nat)), .d (.int (i : Int)), .any, .any, v9, v10, .any, .any, v13, v14] [.o true (potC p), .d (.tuple [.int (B.b : Nat), .tuple (B.kinds.map dRow)]), .d (dBook (pict B r m bk)), .d (dTri r m bk), .d (.int (d : Nat)), .d (.int (cells B d : Nat)), .d (.int (i : Int)), .any, .any, v9, v10, .any, .any, v13, v14] (decide ((i : Int) < 3)) := et_test (ee_opP (ee_var rfl) ee_int rr_b)
      by_cases h3 : i < 3
      · have hn : ∃ n : Nat, n < cells B d ∧ atI [PyData.int 0, .int ((cells B d : Nat) - 1 : Int), .int ((cells B d : Nat) / 2 : Int)] (i : Int) = some (.int (n : Nat)) := by
          match i, h3 with
          | 0, _ => exact ⟨0, hcp, rfl⟩
          | 1, _ => exact ⟨cells B d - 1, by omega, Bk.atI_nat (n := 1) (by
              have e : ((cells B d : Nat) : Int) - 1 = ((cells B d - 1 : Nat) : Int) := by omega
              show some (PyData.int (((cells B d : Nat) : Int) - 1)) = _
              rw [e])⟩
          | 2, _ => exact ⟨cells B d / 2, by omega, Bk.atI_nat (n := 2) (by
              have e : ((cells B d : Nat) : Int) / 2 = ((cells B d / 2 : Nat) : Int) := by omega
              show some (PyData.int (((cells B d : Nat) : Int) / 2)) = _
              rw [e])⟩
        obtain ⟨n, hn1, hn2⟩ := hn
        apply sd_asg; apply ed_of
        · refine ee_ifT hte (decide_eq_true (by omega)) (ee_opP (x := .list [.int 0, .int ((cells B d : Nat) - 1 : Int), .int ((cells B d : Nat) / 2 : Int)]) (EN.tree (en_lst (ea_consP ee_int (ea_consP (ee_opP (ee_var rfl) ee_int rr_i) (ea_consP (ee_opP (ee_var rfl) ee_int (rr_ic (divC (n := 2) (by decide) (by decide)))) ea_nil))) (show 3 ≤ 1000000 by decide))) (ee_var rfl) (rr_ixL hn2))
        exact ⟨⟨_, rfl, h9'⟩, p, n, hp, hn1, rfl⟩
      · apply sd_asg; apply ed_of
        · exact ee_ifF hte (decide_eq_false (by omega)) (ee_draw (many := cells B d) rfl (ee_var rfl) hp hcp hcd)
        exact ⟨⟨_, rfl, h9'⟩, _, _, drawP_ok hp, drawV_lt hcp, rfl⟩
    rintro e ⟨p, n, hp, hn, rfl⟩
    have hn' : n < cells (pict B r m bk) d := by rw [pict_cells]; exact hn
    -- cell, kinds
    apply sd_seq; apply sd_of
    · apply ss_asgG (d := dWay (pict B r m bk) d n)
      · rw [← carried_way ho hn]
        exact ee_callP (ds := [dBook B, .int (d : Nat), .int (n : Nat), dTri r m bk]) (ea_consP (ee_var rfl) (ea_consP (ee_var rfl) (ea_consP (ee_var rfl) (ea_consP (ee_var rfl) ea_nil)))) (r_law_carried ho hd2 hn)
      · exact gg_lst (ds := [dCell (cellAt (pict B r m bk) 0 d n), .tuple (dNats (kindsAt (pict B r m bk) 0 d n))]) (ggs_cons (gg_name rfl h13) (ggs_cons (gg_name rfl h14) ggs_nil)) rfl
    -- told
    apply sd_seq; apply sd_of
    · apply ss_asgN (s := v10)
      · apply en_lst (ds := [dCell (cellAt (pict B r m bk) 0 d n), .tuple (dNats (kindsAt (pict B r m bk) 0 d n)), .int (n : Nat)])
        · refine ea_consP ?_ (ea_consP ?_ (ea_consP ?_ ea_nil))
          · exact ee_callP (ds := [dBook (pict B r m bk), .int (d : Nat), .int (n : Nat)]) (ea_consP (ee_var rfl) (ea_consP (ee_var rfl) (ea_consP (ee_var rfl) ea_nil))) (r_cell_of hT hd2 hn')
          · exact ee_callP (ds := [dBook (pict B r m bk), .int (d : Nat), .int (n : Nat)]) (ea_consP (ee_var rfl) (ea_consP (ee_var rfl) (ea_consP (ee_var rfl) ea_nil))) (r_kinds_on hT hd2 hn')
          · exact ee_callP (ds := [dBook (pict B r m bk), .int (d : Nat), dCell (cellAt (pict B r m bk) 0 d n)]) (ea_consP (ee_var rfl) (ea_consP (ee_var rfl) (ea_consP (ee_var rfl) ea_nil))) (r_number_of hT hd2 hn')
        · exact (show 3 ≤ 1000000 by decide)
      · rfl
      · exact h10
    refine sd_pre (sub_freeze (i := 10) rfl) ?_
    apply sd_ifF
    · apply et_not; apply et_B
      refine ee_callP (ds := [.list [dCell (cellAt (pict B r m bk) 0 d n), .tuple (dNats (kindsAt (pict B r m bk) 0 d n)), .int (n : Nat)], .list [dCell (cellAt (pict B r m bk) 0 d n), .tuple (dNats (kindsAt (pict B r m bk) 0 d n)), .int (n : Nat)]]) (ea_consP (ee_var rfl) (ea_consP (EN.tree (en_lst (ea_consP (ee_var rfl) (ea_consP (ee_var rfl) (ea_consP (ee_var rfl) ea_nil))) (show 3 ≤ 1000000 by decide))) ea_nil)) (r_law_same (okT_way hd2))
    · rfl
    apply sd_next
    exact ⟨p, .d (.int (i : Int)), .d (.int (n : Nat)), _, _, _, hp, rfl, rfl, rfl, rfl, rfl, rfl⟩
  rintro e ⟨p, v6, v9, v10, v13, v14, hp, h6, h9', h10, h13, h14, rfl⟩
  -- the ends
  refine sd_pre (e1 := [.o true (potC p), .d (.tuple [.int (B.b : Nat), .tuple (B.kinds.map dRow)]), .d (dBook (pict B r m bk)), .d (dTri r m bk), .d (.int (d : Nat)), .d (.int (cells B d : Nat)), v6, .any, .any, .any, v10, .any, .any, v13, v14]) (sub_forget (i := 9) (s := v9) rfl h9') ?_
  apply sd_seq; apply sd_of
  · apply ss_asgN
    · refine en_cells (ns := [0, cells B d - 1]) (ib := 1) (id := 4) (iw := 3) (iv := 9) ?_ (show 2 ≤ 1000000 by decide) ho hd2 ?_ rfl (fun _ => rfl) (fun _ => rfl) (fun _ => rfl) (fun _ => rfl) (fun _ => rfl) ⟨_, rfl, rfl⟩
      · have e : dNats [0, cells B d - 1] = [.int 0, .int (((cells B d : Nat) : Int) - 1)] := by
          have e2 : ((cells B d : Nat) : Int) - 1 = ((cells B d - 1 : Nat) : Int) := by omega
          rw [e2]; rfl
        rw [e]
        exact ei_list (EN.tree (en_lst (ea_consP ee_int (ea_consP (ee_opP (ee_var rfl) ee_int rr_i) ea_nil)) (show 2 ≤ 1000000 by decide)))
      · intro n hn
        rcases List.mem_cons.mp hn with rfl | hn
        · exact hcp
        · have e : n = cells B d - 1 := by simpa using hn
          omega
    · rfl
    · rfl
  refine sd_pre (sub_freeze (i := 7) rfl) ?_
  apply sd_seq; apply sd_ifF
  · apply et_not; apply et_B
    refine ee_callP (ds := [.list [dCell (cellAt (pict B r m bk) 0 d 0), dCell (cellAt (pict B r m bk) 0 d (cells B d - 1))], .list [dCell (cellAt (pict B r m bk) 0 d 0), dCell (cellAt (pict B r m bk) 0 d (cells B d - 1))]]) (ea_consP (EN.tree (en_lst (ea_consP ?_ (ea_consP ?_ ea_nil)) (show 2 ≤ 1000000 by decide))) (ea_consP (ee_var rfl) ea_nil)) (r_law_same (okT_list (show 2 ≤ 1000000 by decide) (all2 okT_cell okT_cell)))
    · exact ee_callP (ds := [dBook (pict B r m bk), .int (d : Nat)]) (ea_consP (ee_var rfl) (ea_consP (ee_var rfl) ea_nil)) (r_first_cell hT hd2)
    · have h := r_last_cell hT hd2
      rw [pict_cells] at h
      exact ee_callW (ds := [.int (d : Nat), dBook (pict B r m bk)]) (ea_consP (ee_var rfl) (ea_consP (ee_var rfl) ea_nil)) rfl (fun i hi => show i < 2 by simp at hi; omega) h
  · rfl
  apply sd_next
  -- first, size
  have o2 := drawP_ok (many := cells B d) hp
  have l1 := drawV_lt (p := p) hcp
  have l2 := drawV_lt (p := drawP p (cells B d)) (many := 301) (by decide)
  have o3 := drawP_ok (many := 301) o2
  apply sd_seq; apply sd_of
  · apply ss_parX
    · apply ex_t
      · exact ee_draw (many := cells B d) rfl (ee_var rfl) hp hcp hcd
      apply ex_t
      · exact ee_draw (many := 301) rfl ee_int o2 (by decide) (small_lt (by decide))
      exact ex_nil
    · decide
    · rfl
    · rfl
    · rfl
    · rfl
  generalize drawV p (cells B d) = first at l1 ⊢
  generalize drawV (drawP p (cells B d)) 301 = size at l2 ⊢
  generalize drawP (drawP p (cells B d)) 301 = q2 at o3 ⊢
  apply sd_seq; apply sd_of
  · apply ss_asgN
    · refine en_cells (ns := (List.range (min (first + size) (cells B d) - first)).map fun i => first + i) (ib := 1) (id := 4) (iw := 3) (iv := 9) ?_ ?_ ho hd2 ?_ rfl (fun _ => rfl) (fun _ => rfl) (fun _ => rfl) (fun _ => rfl) (fun _ => rfl) ⟨_, rfl, rfl⟩
      · rw [← nats_range]
        refine ei_rangeL2 (m := (first : Nat)) (n := ((min (first + size) (cells B d) : Nat) : Int)) (ea_consP (ee_var rfl) (ea_consP (EE.is (ee_cb (ea_consP (ee_var rfl) (ea_consP (ee_opP (ee_var rfl) (ee_var rfl) rr_i) ea_nil)) rc_min2) ?_) ea_nil))
        have e : min ((cells B d : Nat) : Int) ((first : Int) + size) = ((min (first + size) (cells B d) : Nat) : Int) := by omega
        rw [e]
      · rw [List.length_map, List.length_range]; omega
      · intro n hn
        obtain ⟨i, hi, rfl⟩ := List.mem_map.mp hn
        have := List.mem_range.mp hi
        omega
    · rfl
    · rfl
  refine sd_pre (sub_freeze (i := 8) rfl) ?_
  apply sd_ret; apply ed_of
  · refine ee_callP (ds := [dThread (pict B r m bk) 0 d first (min (first + size) (cells B d)), dThread (pict B r m bk) 0 d first (min (first + size) (cells B d))]) (ea_consP ?_ (ea_consP ?_ ea_nil)) (r_law_same (okT_thread (k := 5) (by omega)))
    · have h := r_thread (many := size) hT hd2 (show first < cells (pict B r m bk) d by rw [pict_cells]; exact l1) (by omega)
      rw [pict_cells] at h
      exact ee_callP (ea_consP (ee_var rfl) (ea_consP (ee_var rfl) (ea_consP (ee_var rfl) (ea_consP (ee_var rfl) ea_nil)))) h
    · rw [thread_map]
      exact ee_var rfl
  · exact ⟨potC q2, rfl, q2, rfl, o3, rfl⟩
end
end K20
set_option autoImplicit false
set_option Elab.async false
set_option linter.all false
set_option maxRecDepth 100000
set_option maxHeartbeats 4000000
namespace K20
open PySem PySem.Spec PyProof.Rows L2 Fl Bk
local macro_rules | `(tactic| walk_at "sd") => `(tactic| first | assumption | rfl | omega | exact Nat.le_of_ble_eq_true rfl | (constructor <;> omega) | decide | (left; constructor <;> omega) | (right; constructor <;> omega))
local macro_rules | `(tactic| walk_at "fn") => `(tactic| fail "fn")
local macro_rules | `(tactic| walk_at "rc") => `(tactic| first | exact rc_len rfl | exact rc_tuple rfl | exact rc_all | exact rc_any | exact rc_sum | exact rc_int1 | exact rc_min2 | exact rc_max2)
local macro_rules | `(tactic| walk_at "rcn") => `(tactic| first | exact rcn_list rfl)
local macro_rules | `(tactic| walk_at "rr") => `(tactic| first | exact rr_i | exact rr_b | exact rr_eqI | exact rr_neI | exact rr_eqB | exact rr_neB | exact rr_eqS | exact rr_neS | (apply rr_ixT; first | rfl | assumption) | (apply rr_ixL; first | rfl | assumption) | (apply rr_ic; walk_at "sd") | (apply rr_catT; first | (exact List.cons_ne_nil _ _) | assumption; walk_at "sd"))
local macro_rules | `(tactic| walk_at "ea") => `(tactic| first | exact ea_nil | (apply ea_cons; walk_at "ee"; walk_at "ea"))
local macro_rules | `(tactic| walk_at "et") => `(tactic| first | (apply et_test; walk_at "ee") | (apply et_B; walk_at "ee") | (apply et_not; walk_at "et") | exact et_yes | (apply et_andP; walk_at "et"; walk_at "et") | (apply et_orP; walk_at "et"; walk_at "et"))
local macro_rules | `(tactic| walk_at "en") => `(tactic| first | (apply en_lst; walk_at "ea"; walk_at "sd") | (apply en_cb; walk_at "ea"; walk_at "rcn") | (apply en_revO; rfl) | (apply en_revL; walk_at "ee"))
local macro_rules | `(tactic| walk_at "ex") => `(tactic| first | exact ex_nil | (apply ex_n; walk_at "en"; (intro _ z; cases z); walk_at "ex") | (apply ex_t; walk_at "ee"; walk_at "ex"))
local macro_rules | `(tactic| walk_at "eo") => `(tactic| first | exact eo_no | (apply eo_part; walk_at "ee"))
local macro_rules | `(tactic| walk_at "gg") => `(tactic| first | exact gg_name rfl rfl | exact gg_name rfl (by assumption) | (apply gg_tup; walk_at "ggs"; rfl) | (apply gg_lst; walk_at "ggs"; rfl))
local macro_rules | `(tactic| walk_at "ggs") => `(tactic| first | exact ggs_nil | (apply ggs_cons; walk_at "gg"; walk_at "ggs"))
local macro_rules | `(tactic| walk_at "ei") => `(tactic| first | (apply ei_rangeL1; walk_at "ea") | (apply ei_rangeL2; walk_at "ea") | (apply ei_tup; walk_at "ee") | (apply ei_list; walk_at "ee"))
local macro_rules | `(tactic| walk_at "ee") => `(tactic| first
  | exact ee_var rfl
  | exact ee_int
  | exact ee_bl
  | exact ee_non
  | exact ee_str
  | (apply ee_ixO rfl; walk_at "ee"; rfl; first | rfl | assumption)
  | (apply ee_op; walk_at "ee"; walk_at "ee"; walk_at "rr")
  | (apply ee_tup; walk_at "ea"; walk_at "sd")
  | (apply ee_call; walk_at "ea"; walk_at "fn")
  | (apply ee_isi; walk_at "ee"; rfl; rfl)
  | exact ee_lenO rfl
  | exact ee_tupleO rfl
  | (apply ee_cb; walk_at "ea"; walk_at "rc")
  | (apply ee_andP; walk_at "ee"; walk_at "ee")
  | (apply ee_orP; walk_at "ee"; walk_at "ee")
  | (apply ee_notV; walk_at "ee")
  | (apply ee_neg; walk_at "ee")
  | (apply ee_revT; walk_at "ee")
  | (apply ee_slT; walk_at "ee"; walk_at "eo"; walk_at "eo"; walk_at "sd")
  | (apply EN.tree; walk_at "en"))
local macro_rules | `(tactic| walk_at "asg") => `(tactic| (apply sd_seq; apply sd_asg; apply ed_of; walk_at "ee"; refine ⟨⟨_, rfl, rfl⟩, ?_⟩))
local macro_rules | `(tactic| walk_at "asgN") => `(tactic| (apply sd_seq; apply sd_of; apply ss_asgN; walk_at "en"; rfl; rfl))
local macro_rules | `(tactic| walk_at "asgG") => `(tactic| (apply sd_seq; apply sd_of; apply ss_asgG; walk_at "ee"; walk_at "gg"))
local macro_rules | `(tactic| walk_at "par") => `(tactic| (apply sd_seq; apply sd_of; apply ss_parX; walk_at "ex"; decide; rfl; rfl; rfl; rfl))
local macro_rules | `(tactic| walk_at "par3") => `(tactic| (apply sd_seq; apply sd_of; apply ss_par3X; walk_at "ex"; decide; decide; decide; rfl; rfl; rfl; rfl; rfl; rfl))
local macro_rules | `(tactic| walk_at "ret") => `(tactic| (apply sd_ret; apply ed_of; walk_at "ee"))
local macro_rules | `(tactic| walk_at "no") => `(tactic| (apply sd_seq; apply sd_if; apply td_of; walk_at "et"))
local macro_rules | `(tactic| walk_at "drop") => `(tactic| (apply sd_seq; apply sd_drop; apply ed_of; walk_at "ee"))
local macro_rules | `(tactic| walk_at "fn") => `(tactic| exact r_is_integer)
local macro_rules | `(tactic| walk_at "fn") => `(tactic| exact r_is_natural)
local macro_rules | `(tactic| walk_at "fn") => `(tactic| exact r_is_below)
local macro_rules | `(tactic| walk_at "fn") => `(tactic| exact r_is_pair)
local macro_rules | `(tactic| walk_at "fn") => `(tactic| (apply r_power; walk_at "sd"))
local macro_rules | `(tactic| walk_at "fn") => `(tactic| (apply r_is_cell_below; walk_at "sd"))
local macro_rules | `(tactic| walk_at "fn") => `(tactic| (apply r_is_posture; walk_at "sd"; walk_at "sd"))
local macro_rules | `(tactic| walk_at "fn") => `(tactic| exact r_posed)
local macro_rules | `(tactic| walk_at "fn") => `(tactic| (apply r_is_part; assumption))
local macro_rules | `(tactic| walk_at "fn") => `(tactic| (apply r_is_kind_of; assumption; assumption))
local macro_rules | `(tactic| walk_at "fn") => `(tactic| (apply r_is_book; assumption))
local macro_rules | `(tactic| walk_at "fn") => `(tactic| (apply r_check_book; assumption))
local macro_rules | `(tactic| walk_at "fn") => `(tactic| (apply r_check_kind; assumption))
local macro_rules | `(tactic| walk_at "fn") => `(tactic| (apply r_turned_of; assumption))
local macro_rules | `(tactic| walk_at "fn") => `(tactic| (apply r_check_posture; assumption; assumption))
local macro_rules | `(tactic| walk_at "fn") => `(tactic| (apply r_turned; assumption; assumption; assumption))
local macro_rules | `(tactic| walk_at "fn") => `(tactic| (apply r_backward_of; assumption))
local macro_rules | `(tactic| walk_at "fn") => `(tactic| (apply r_backward; assumption))
local macro_rules | `(tactic| walk_at "fn") => `(tactic| exact r_check_depth)
local macro_rules | `(tactic| walk_at "fn") => `(tactic| exact r_check_many)
local macro_rules | `(tactic| walk_at "fn") => `(tactic| (apply r_cells_each_way; assumption))
local macro_rules | `(tactic| walk_at "fn") => `(tactic| (apply r_how_many_cells; assumption))
local macro_rules | `(tactic| walk_at "fn") => `(tactic| (apply r_check_cell; assumption; assumption))
local macro_rules | `(tactic| walk_at "fn") => `(tactic| (apply r_check_number; assumption; walk_at "sd"))
local macro_rules | `(tactic| walk_at "fn") => `(tactic| (apply r_way_to; assumption; assumption; assumption; assumption))
local macro_rules | `(tactic| walk_at "fn") => `(tactic| (apply r_number_in; assumption; assumption; assumption; assumption))
local macro_rules | `(tactic| walk_at "fn") => `(tactic| (apply r_number_of; assumption; assumption; assumption))
local macro_rules | `(tactic| walk_at "fn") => `(tactic| (apply r_cell_in; assumption; assumption; assumption; assumption))
local macro_rules | `(tactic| walk_at "fn") => `(tactic| (apply r_cell_of; assumption; assumption; assumption))
local macro_rules | `(tactic| walk_at "fn") => `(tactic| (apply r_kinds_on; assumption; assumption; assumption))
local macro_rules | `(tactic| walk_at "fn") => `(tactic| (apply r_thread_of; assumption; assumption; assumption; assumption))
local macro_rules | `(tactic| walk_at "fn") => `(tactic| (apply r_thread; assumption; assumption; assumption; assumption))
local macro_rules | `(tactic| walk_at "fn") => `(tactic| (apply r_first_cell; assumption; assumption))
local macro_rules | `(tactic| walk_at "fn") => `(tactic| (apply r_last_cell; assumption; assumption))
local macro_rules | `(tactic| walk_at "fn") => `(tactic| (apply r_whole; assumption; assumption; assumption))
local macro_rules | `(tactic| walk_at "fn") => `(tactic| (apply r_numbered; assumption; assumption))
local macro_rules | `(tactic| walk_at "fn") => `(tactic| (apply r_begun_of; assumption; assumption))
local macro_rules | `(tactic| walk_at "fn") => `(tactic| (apply r_begun_at; assumption; assumption))
local macro_rules | `(tactic| walk_at "fn") => `(tactic| (apply r_law_same; assumption))
local macro_rules | `(tactic| walk_at "fn") => `(tactic| exact r_law_posed)
local macro_rules | `(tactic| walk_at "fn") => `(tactic| (apply r_law_picture; assumption))
local macro_rules | `(tactic| walk_at "fn") => `(tactic| (apply r_law_figures; walk_at "sd"; walk_at "sd"; walk_at "sd"))
local macro_rules | `(tactic| walk_at "fn") => `(tactic| (apply r_law_way; assumption; assumption; assumption))
local macro_rules | `(tactic| walk_at "fn") => `(tactic| (apply r_law_carried; assumption; assumption; walk_at "sd"))
local macro_rules | `(tactic| walk_at "fn") => `(tactic| (apply r_law_begun; assumption; assumption))
section
variable {P : Program} {w : World} {K : PySem.W.Frag} {mg : Str → Option Value} {base : Heap}
/-! ### the law's own: kinds named anew, kinds twice -/
def PreBook : Ct → List D → Prop := fun c ds => ∃ (p : Pot) (B : Book), c = potC p ∧ PotOk p ∧ ds = [dBook B] ∧ BookOk B
def PostRenamed : Ct → List D → Ct → D → Prop := fun _ ds c' d => ∀ B : Book, ds = [dBook B] → ∃ (p' : Pot) (π : List Nat) (ks : List Bk.Row), c' = potC p' ∧ PotOk p' ∧ Renamed B π ks ∧ d = .list [dBook ⟨B.b, ks⟩, .list (dNats π)]
theorem dBook_inj {B B' : Book} (h : dBook B = dBook B') : B = B' := by
  unfold dBook at h
  injection h with h
  injection h with h1 h2
  injection h1 with h1
  injection h2 with h2 _
  injection h2 with h2
  have hp : ∀ p q : Part, dPart p = dPart q → p = q := fun p q e => by
    unfold dPart at e
    injection e with e
    injection e with e1 e
    injection e with e2 e
    injection e with e3 _
    injection e1 with e1
    injection e2 with e2
    injection e3 with e3
    exact Prod.ext e1 (Prod.ext e2 (by omega))
  have hl : ∀ (l l' : List Part), l.map dPart = l'.map dPart → l = l' := fun l => by
    induction l with
    | nil => intro l' e; cases l' with | nil => rfl | cons _ _ => cases e
    | cons a l ih =>
      intro l' e
      cases l' with
      | nil => cases e
      | cons b l' =>
        rw [List.map_cons, List.map_cons] at e
        injection e with e1 e2
        rw [hp _ _ e1, ih _ e2]
  have hk : ∀ (l l' : List Bk.Row), l.map dRow = l'.map dRow → l = l' := fun l => by
    induction l with
    | nil => intro l' e; cases l' with | nil => rfl | cons _ _ => cases e
    | cons a l ih =>
      intro l' e
      cases l' with
      | nil => cases e
      | cons b l' =>
        rw [List.map_cons, List.map_cons] at e
        injection e with e1 e2
        unfold dRow at e1
        injection e1 with e1
        rw [hl _ _ e1, ih _ e2]
  cases B; cases B'
  simp only [Book.mk.injEq] at *
  exact ⟨by omega, hk _ _ h2⟩
theorem nodup_app_step {a : List Nat} {L : List Nat} {j x : Nat} (h : (a ++ L).Nodup) (hx : L[j]? = some x) : (a ++ [x] ++ L.eraseIdx j).Nodup := by
  obtain ⟨hj, ex⟩ := List.getElem?_eq_some_iff.mp hx
  have hp : (x :: L.eraseIdx j).Perm L := by
    rw [← ex]; exact erase_perm L j hj
  rw [List.append_assoc]
  exact (List.Perm.append_left _ hp).nodup_iff.mpr h
theorem ok_law_renamed (c : Cn K mg base) : Has P w K mg base "_law_renamed" 2 ps_law_renamed (spN K PreBook PostRenamed) := by
  refine mk_law_renamed c fun fd F => fn_N F sc_law_renamed (fun c ds h => by obtain ⟨_, _, _, _, rfl, _⟩ := h; rfl) fun cdv A outer s H E hr => ?_
  refine ⟨_, (pss_cons (ps_set (i := 2) sc_law_renamed.nd rfl (by first | exact Or.inl rfl | exact Or.inr rfl) (pe_callB (cLen K rfl) (by rfl) c.f_len b_len (pa_cons (pe_ix (ixT K rfl) (pv 1) pe_int (fun _ _ => rfl)) pa_nil)))
    (pss_cons (ps_asg (pe_tup (pa_cons (pe_listRg rfl (by rfl) c.f_list (prg_2 (by rfl) c.f_range pe_int (pv 2))) (pa_cons (pe_lst (pa_cons pe_int pa_nil)) pa_nil))) (pgT K rfl (n := 2) rfl (pgs_cons (pg_name (i := 5) sc_law_renamed.nd rfl (by first | exact Or.inl rfl | exact Or.inr rfl)) (pgs_cons (pg_name (i := 6) sc_law_renamed.nd rfl (by first | exact Or.inl rfl | exact Or.inr rfl)) pgs_nil))))
    (pss_cons (ps_for PassesOwn.never rfl (FlRange.pi_rangeL2 (by rfl) c.f_range (pa_cons pe_int (pa_cons (pv 2) pa_nil))) (pg_name (i := 3) sc_law_renamed.nd rfl (by first | exact Or.inl rfl | exact Or.inr rfl)) (pss_one (ps_expr (bM K rfl PySem.F.plainAttrs_list PySem.F.slot_list_append PySem.F.type_list_append mt_append (pv 6) (pa_cons (bM K rfl PySem.F.plainAttrs_list PySem.F.slot_list_pop PySem.F.type_list_pop mt_popAt (pv 5) (pa_cons (pe_has (ok_law_draw c) hr (pa_cons (pv 0) (pa_cons (pe_callB (cLen K rfl) (by rfl) c.f_len b_len (pa_cons (pv 5) pa_nil)) pa_nil))) pa_nil)) pa_nil)))))
    (pss_cons (ps_setLc (own := [("at", 3)]) (i := 4) rfl sc_law_renamed.nd rfl rfl (sw_true rfl rfl rfl (by decide +kernel)) (FlRange.pi_rangeL1 (by rfl) c.f_range (pa_cons (pv 2) pa_nil)) (blkOk_by rfl) (fun _ _ _ _ _ => (pg_name (i := 3) sc_law_renamed.nd rfl (by first | exact Or.inl rfl | exact Or.inr rfl))) (fun _ _ _ _ _ => pts_nil) (fun _ _ _ _ _ => (pe_tup pa_nil)))
    (pss_cons (ps_for PassesOwn.never rfl (FlRange.pi_rangeL1 (by rfl) c.f_range (pa_cons (pv 2) pa_nil)) (pg_name (i := 3) sc_law_renamed.nd rfl (by first | exact Or.inl rfl | exact Or.inr rfl)) (pss_one (ps_asg (pe_callTy (cTup K rfl) (by rfl) c.f_tuple b_tuple (pa_cons (pe_lc (own := [("x", 7), ("y", 8), ("kind", 9)]) rfl sc_law_renamed.nd (piT K rfl (pe_ix (ixT K rfl) (pe_ix (ixT K rfl) (pv 1) pe_int (fun _ _ => rfl)) (pv 3) (fun _ _ => rfl))) (blkOk_by rfl) (fun _ _ _ _ _ => (pgT K rfl (n := 3) rfl (pgs_cons (pg_name (i := 7) sc_law_renamed.nd rfl (by first | exact Or.inl rfl | exact Or.inr rfl)) (pgs_cons (pg_name (i := 8) sc_law_renamed.nd rfl (by first | exact Or.inl rfl | exact Or.inr rfl)) (pgs_cons (pg_name (i := 9) sc_law_renamed.nd rfl (by first | exact Or.inl rfl | exact Or.inr rfl)) pgs_nil))))) (fun _ _ _ _ _ => pts_nil) (fun _ _ _ _ _ => (pe_tup (pa_cons (pv 7) (pa_cons (pv 8) (pa_cons (pe_ix (ixL K rfl) (pv 6) (pv 9) (fun _ _ => rfl)) pa_nil)))))) pa_nil)) (pg_sub (pv 4) (pe_ix (ixL K rfl) (pv 6) (pv 3) (fun _ _ => rfl)) set_list))))
    (pss_one (ps_ret (pe_lst (pa_cons (pe_tup (pa_cons (pe_ix (ixT K rfl) (pv 1) pe_int (fun _ _ => rfl)) (pa_cons (pe_callTy (cTup K rfl) (by rfl) c.f_tuple b_tuple (pa_cons (pv 4) pa_nil)) pa_nil))) (pa_cons (pv 6) pa_nil)))))))))), ?_⟩
  rintro c ds ⟨p, B, rfl, hp, rfl, ho⟩
  show SD K _ [.o true (potC p), .d (.tuple [.int (B.b : Nat), .tuple (B.kinds.map dRow)]), .any, .any, .any, .any, .any, .any, .any, .any] _
  have hf := ho.few
  have h0 := kind0 ho
  have hlr : (B.kinds.map dRow).length = B.kinds.length := List.length_map _
  apply sd_seq; apply sd_asg; apply ed_of
  · refine EE.is (y := .int (B.kinds.length : Nat)) (ee_cb (ea_consP (ee_opP (ee_var rfl) ee_int (rr_ixT rfl)) ea_nil) (rc_len rfl)) ?_
    rw [hlr]
  refine ⟨⟨_, rfl, rfl⟩, ?_⟩
  apply sd_seq; apply sd_of
  · apply ss_tupX (p := .n (.lst (dNats ((List.range (B.kinds.length - 1)).map fun i => 1 + i)))) (q := .n (.lst (dNats [0])))
    · apply ex_n
      · rw [← nats_range]
        exact en_lstRg2 (m := ((1 : Nat) : Int)) (n := (B.kinds.length : Nat)) ee_int (ee_var rfl) (RgOk.of_le (by omega) (by omega) (by omega) (by omega))
      · intro _ z; cases z
      apply ex_n
      · exact en_lst (ea_consP ee_int ea_nil) (show 1 ≤ 1000000 by decide)
      · intro _ z; cases z
      exact ex_nil
    · decide
    · rfl
    · rfl
    · rfl
    · rfl
  apply sd_seq
  refine sd_for (ds := dNats ((List.range (B.kinds.length - 1)).map fun i => 1 + i)) (e0 := [.o true (potC p), .d (.tuple [.int (B.b : Nat), .tuple (B.kinds.map dRow)]), .d (.int (B.kinds.length : Nat)), .any, .any, .o false (.lst (dNats ((List.range (B.kinds.length - 1)).map fun i => 1 + i))), .o false (.lst (dNats [0])), .any, .any, .any]) (by
      rw [← nats_range]
      exact ei_rangeL2 (m := ((1 : Nat) : Int)) (n := (B.kinds.length : Nat)) (ea_consP ee_int (ea_consP (ee_var rfl) ea_nil)))
    (fun i e => ∃ (p : Pot) (L π : List Nat) (v3 : S), PotOk p ∧ S.isPm v3 = false ∧ (π ++ L).Nodup ∧ (∀ m ∈ π ++ L, m < B.kinds.length) ∧ π.length = i + 1 ∧ L.length + i + 1 = B.kinds.length ∧ π.getD 0 0 = 0 ∧
      e = [.o true (potC p), .d (.tuple [.int (B.b : Nat), .tuple (B.kinds.map dRow)]), .d (.int (B.kinds.length : Nat)), v3, .any, .o false (.lst (dNats L)), .o false (.lst (dNats π)), .any, .any, .any]) ?_ ?_ ?_
  · refine ⟨p, _, [0], .any, hp, rfl, ?_, ?_, rfl, ?_, rfl, rfl⟩
    · show (0 :: (List.range (B.kinds.length - 1)).map fun i => 1 + i).Nodup
      rw [List.nodup_cons]
      refine ⟨fun z => ?_, nodup_map (fun a b e => by omega) List.nodup_range⟩
      obtain ⟨i, _, e⟩ := List.mem_map.mp z
      omega
    · intro m hm
      rcases List.mem_append.mp hm with hm | hm
      · have e : m = 0 := by simpa using hm
        omega
      · obtain ⟨i, hi, rfl⟩ := List.mem_map.mp hm
        have := List.mem_range.mp hi
        omega
    · rw [List.length_map, List.length_range]; omega
  · rintro i dd e hdd ⟨p, L, π, v3, hp, h3, hnod, hlt, hpl, hLl, hz, rfl⟩
    have hi : i < B.kinds.length - 1 := by
      have := (List.getElem?_eq_some_iff.mp hdd).1
      simpa [dNats] using this
    have hL0 : 0 < L.length := by omega
    have hdr := drawV_lt (p := p) hL0
    have hx := List.getElem?_eq_getElem hdr
    refine ⟨_, _, gg_name rfl h3, ?_⟩
    apply sd_of
    · apply ss_append (ds' := dNats π) rfl
      · apply ee_popAt (k := drawV p L.length) (d := .int (L[drawV p L.length] : Nat)) (ds' := dNats L) rfl
        · apply ee_draw (many := L.length) rfl
          · refine EE.is (ee_lenO rfl) ?_
            unfold dNats; rw [List.length_map]
          · exact hp
          · exact hL0
          · exact small_lt (by omega)
        · rfl
        · omega
        · exact seq_nat (by unfold dNats; rw [List.length_map]; exact hdr)
        · unfold dNats; rw [List.getElem?_map, hx]; rfl
      · rfl
      · unfold dNats; rw [List.length_map]; omega
    refine ⟨drawP p L.length, L.eraseIdx (drawV p L.length), π ++ [L[drawV p L.length]], .d dd, drawP_ok hp, rfl, nodup_app_step hnod hx, ?_, by rw [List.length_append, hpl]; rfl, by rw [List.length_eraseIdx_of_lt hdr]; omega, ?_, ?_⟩
    · intro m hm
      apply hlt
      rcases List.mem_append.mp hm with hm | hm
      · rcases List.mem_append.mp hm with hm | hm
        · exact List.mem_append_left _ hm
        · have e : m = L[drawV p L.length] := by simpa using hm
          rw [e]; exact List.mem_append_right _ (List.getElem_mem hdr)
      · exact List.mem_append_right _ (List.mem_of_mem_eraseIdx hm)
    · rw [List.getD_eq_getElem?_getD, List.getElem?_append_left (by omega), ← List.getD_eq_getElem?_getD]
      exact hz
    · rw [dNats_snoc]
      have e : dNats (L.eraseIdx (drawV p L.length)) = (dNats L).eraseIdx (drawV p L.length) := map_erase _ _
      rw [e]; rfl
  rintro e ⟨p, L, π, v3, hp, h3, hnod, hlt, hpl, hLl, hz, rfl⟩
  have hlen : (dNats ((List.range (B.kinds.length - 1)).map fun i => 1 + i)).length = B.kinds.length - 1 := by simp [dNats]
  rw [hlen] at hpl hLl
  have hpl : π.length = B.kinds.length := by omega
  have hnod : π.Nodup := (List.nodup_append.mp hnod).1
  have hlt : ∀ m ∈ π, m < B.kinds.length := fun m hm => hlt m (List.mem_append_left _ hm)
  refine sd_pre (e1 := [.o true (potC p), .d (.tuple [.int (B.b : Nat), .tuple (B.kinds.map dRow)]), .d (.int (B.kinds.length : Nat)), .any, .any, .o false (.lst (dNats L)), .o false (.lst (dNats π)), .any, .any, .any]) (sub_forget (i := 3) (s := v3) rfl h3) ?_
  apply sd_seq; apply sd_of
  · apply ss_asgN
    · apply en_lcF (ys := (List.replicate B.kinds.length ([] : Bk.Row)).map dRow)
      · exact ei_rangeL1 (n := (B.kinds.length : Nat)) (ea_consP (ee_var rfl) ea_nil)
      · rw [rangeD_len]; simp
      · rw [rangeD_len, Int.toNat_natCast]; omega
      · rfl
      · intro i d y hd hy
        have ey : y = .tuple [] := by
          rw [List.getElem?_map] at hy
          obtain ⟨r, hr, rfl⟩ := Option.map_eq_some_iff.mp hy
          rw [List.eq_of_mem_replicate (List.mem_of_getElem? hr)]; rfl
        subst ey
        exact ⟨_, _, gg_name rfl rfl, et_yes, ee_tup ea_nil (show 0 ≤ 1000000 by decide), rfl, rfl⟩
    · rfl
    · rfl
  apply sd_seq
  refine sd_for (ds := rangeD 0 B.kinds.length) (e0 := [.o true (potC p), .d (.tuple [.int (B.b : Nat), .tuple (B.kinds.map dRow)]), .d (.int (B.kinds.length : Nat)), .any, .o false (.lst ((List.replicate B.kinds.length ([] : Bk.Row)).map dRow)), .o false (.lst (dNats L)), .o false (.lst (dNats π)), .any, .any, .any]) (by
      have e : B.kinds.length = ((B.kinds.length : Nat) : Int).toNat := (Int.toNat_natCast _).symm
      refine cast (congrArg (fun z => EI K _ _ _ (rangeD 0 z)) e.symm) (ei_rangeL1 (K := K) (n := (B.kinds.length : Nat)) (ea_consP (ee_var rfl) ea_nil)))
    (fun i e => ∃ (ks : List Bk.Row) (v3 : S), S.isPm v3 = false ∧ ks.length = B.kinds.length ∧ (∀ k, k < i → ks[π.getD k 0]? = some ((B.row k).map (nameP π))) ∧
      e = [.o true (potC p), .d (.tuple [.int (B.b : Nat), .tuple (B.kinds.map dRow)]), .d (.int (B.kinds.length : Nat)), v3, .o false (.lst (ks.map dRow)), .o false (.lst (dNats L)), .o false (.lst (dNats π)), .any, .any, .any]) ⟨_, .any, rfl, by simp, fun k hk => absurd hk (Nat.not_lt_zero _), rfl⟩ ?_ ?_
  · rintro i dd e hdd ⟨ks, v3, h3, hkl, hks, rfl⟩
    have hi : i < B.kinds.length := by
      have := (List.getElem?_eq_some_iff.mp hdd).1
      rw [rangeD_len] at this
      exact this
    rw [rangeD_get hi, Int.zero_add] at hdd
    cases hdd
    have hrow := at_row hi
    have hro := ho.row hi
    have hrl := RowOk.few hro ho.b2.2
    have hpi : i < π.length := by omega
    have hpg : π[i]? = some (π.getD i 0) := by
      have e := List.getElem?_eq_getElem hpi
      rw [e, getD_of e]
    have hpt : π.getD i 0 < B.kinds.length := hlt _ (List.mem_of_getElem? hpg)
    refine ⟨_, _, gg_name rfl h3, ?_⟩
    apply sd_of
    · apply ss_setL (i := 4) (d := dRow ((B.row i).map (nameP π))) (j := π.getD i 0) (n := (π.getD i 0 : Nat)) (ds' := ks.map dRow)
      · refine ee_cb (ea_consP (x := .list ((B.row i).map fun p => dPart (nameP π p))) (EN.tree ?_) ea_nil) ?_
        · apply en_lcF (ys := (B.row i).map fun p => dPart (nameP π p))
          · exact ei_tup (ds := (B.row i).map dPart) (ee_opP (ee_opP (ee_var rfl) ee_int (rr_ixT rfl)) (ee_var rfl) (rr_ixT hrow))
          · simp
          · rw [List.length_map]; omega
          · rfl
          · intro j d y hd hy
            rw [List.getElem?_map] at hd hy
            obtain ⟨q, hq, rfl⟩ := Option.map_eq_some_iff.mp hd
            rw [hq] at hy
            cases hy
            have hqk := (hro.inn q (List.mem_of_getElem? hq)).2.2.2.2
            have hqg : π[q.2.2]? = some (π.getD q.2.2 0) := by
              have e := List.getElem?_eq_getElem (show q.2.2 < π.length by omega)
              rw [e, getD_of e]
            have hqa : atI (dNats π) (q.2.2 : Nat) = some (.int (π.getD q.2.2 0 : Nat)) := Bk.atI_nat (by unfold dNats; rw [List.getElem?_map, hqg]; rfl)
            refine ⟨_, _, gg_tup (ds := [.int q.1, .int q.2.1, .int q.2.2]) (by walk_at "ggs") rfl, et_yes, ?_, rfl, rfl⟩
            exact ee_tup (ea_consP (ee_var rfl) (ea_consP (ee_var rfl) (ea_consP (ee_ixO rfl (ee_var rfl) rfl hqa) ea_nil))) (show 3 ≤ 1000000 by decide)
        · have e : dRow ((B.row i).map (nameP π)) = .tuple ((B.row i).map fun p => dPart (nameP π p)) := by
            unfold dRow; rw [List.map_map]; rfl
          rw [e]
          exact rc_tuple rfl
      · rfl
      · exact ee_ixO (d := .int (π.getD i 0 : Nat)) rfl (ee_var rfl) rfl (Bk.atI_nat (by unfold dNats; rw [List.getElem?_map, hpg]; rfl))
      · rfl
      · exact ixN_nat (by rw [List.length_map, hkl]; exact hpt)
    refine ⟨ks.set (π.getD i 0) ((B.row i).map (nameP π)), .d (.int (i : Int)), rfl, by rw [List.length_set]; exact hkl, fun k hk => ?_, ?_⟩
    · by_cases e : k = i
      · subst e
        rw [List.getElem?_set_self (by rw [hkl]; exact hpt)]
      · have hki : k < i := by omega
        have hkg : π[k]? = some (π.getD k 0) := by
          have e := List.getElem?_eq_getElem (show k < π.length by omega)
          rw [e, getD_of e]
        rw [List.getElem?_set_ne (Ne.symm (nodup_ne hnod hkg hpg hki))]
        exact hks k hki
    · rw [List.map_set]; rfl
  · rintro e ⟨ks, v3, h3, hkl, hks, rfl⟩
    rw [rangeD_len] at hks
    show SD K _ _ _
    refine sd_pre (sub_freeze (i := 6) rfl) ?_
    apply sd_ret; apply ed_of
    · refine EN.tree (en_lst (ds := [dBook ⟨B.b, ks⟩, .list (dNats π)]) (ea_consP (ee_tup (ds := [.int (B.b : Nat), .tuple (ks.map dRow)]) (ea_consP (ee_opP (ee_var rfl) ee_int (rr_ixT rfl)) (ea_consP (ee_tupleO rfl) ea_nil)) (show 2 ≤ 1000000 by decide)) (ea_consP (ee_var rfl) ea_nil)) (show 2 ≤ 1000000 by decide))
    · refine ⟨potC p, rfl, fun B' hB => ?_⟩
      injection hB with hB _
      have e := dBook_inj hB
      subst e
      exact ⟨p, π, ks, rfl, hp, ⟨hpl, hnod, hlt, hz, hkl, hks⟩, rfl⟩
end
end K20
set_option autoImplicit false
set_option Elab.async false
set_option linter.all false
set_option maxRecDepth 100000
set_option maxHeartbeats 4000000
namespace K20
open PySem PySem.Spec PyProof.Rows L2 Fl Bk
local macro_rules | `(tactic| walk_at "sd") => `(tactic| first | assumption | rfl | omega | exact Nat.le_of_ble_eq_true rfl | (constructor <;> omega) | decide | (left; constructor <;> omega) | (right; constructor <;> omega))
local macro_rules | `(tactic| walk_at "fn") => `(tactic| fail "fn")
local macro_rules | `(tactic| walk_at "rc") => `(tactic| first | exact rc_len rfl | exact rc_tuple rfl | exact rc_all | exact rc_any | exact rc_sum | exact rc_int1 | exact rc_min2 | exact rc_max2)
local macro_rules | `(tactic| walk_at "rcn") => `(tactic| first | exact rcn_list rfl)
local macro_rules | `(tactic| walk_at "rr") => `(tactic| first | exact rr_i | exact rr_b | exact rr_eqI | exact rr_neI | exact rr_eqB | exact rr_neB | exact rr_eqS | exact rr_neS | (apply rr_ixT; first | rfl | assumption) | (apply rr_ixL; first | rfl | assumption) | (apply rr_ic; walk_at "sd") | (apply rr_catT; first | (exact List.cons_ne_nil _ _) | assumption; walk_at "sd"))
local macro_rules | `(tactic| walk_at "ea") => `(tactic| first | exact ea_nil | (apply ea_cons; walk_at "ee"; walk_at "ea"))
local macro_rules | `(tactic| walk_at "et") => `(tactic| first | (apply et_test; walk_at "ee") | (apply et_B; walk_at "ee") | (apply et_not; walk_at "et") | exact et_yes | (apply et_andP; walk_at "et"; walk_at "et") | (apply et_orP; walk_at "et"; walk_at "et"))
local macro_rules | `(tactic| walk_at "en") => `(tactic| first | (apply en_lst; walk_at "ea"; walk_at "sd") | (apply en_cb; walk_at "ea"; walk_at "rcn") | (apply en_revO; rfl) | (apply en_revL; walk_at "ee"))
local macro_rules | `(tactic| walk_at "ex") => `(tactic| first | exact ex_nil | (apply ex_n; walk_at "en"; (intro _ z; cases z); walk_at "ex") | (apply ex_t; walk_at "ee"; walk_at "ex"))
local macro_rules | `(tactic| walk_at "eo") => `(tactic| first | exact eo_no | (apply eo_part; walk_at "ee"))
local macro_rules | `(tactic| walk_at "gg") => `(tactic| first | exact gg_name rfl rfl | exact gg_name rfl (by assumption) | (apply gg_tup; walk_at "ggs"; rfl) | (apply gg_lst; walk_at "ggs"; rfl))
local macro_rules | `(tactic| walk_at "ggs") => `(tactic| first | exact ggs_nil | (apply ggs_cons; walk_at "gg"; walk_at "ggs"))
local macro_rules | `(tactic| walk_at "ei") => `(tactic| first | (apply ei_rangeL1; walk_at "ea") | (apply ei_rangeL2; walk_at "ea") | (apply ei_tup; walk_at "ee") | (apply ei_list; walk_at "ee"))
local macro_rules | `(tactic| walk_at "ee") => `(tactic| first
  | exact ee_var rfl
  | exact ee_int
  | exact ee_bl
  | exact ee_non
  | exact ee_str
  | (apply ee_ixO rfl; walk_at "ee"; rfl; first | rfl | assumption)
  | (apply ee_op; walk_at "ee"; walk_at "ee"; walk_at "rr")
  | (apply ee_tup; walk_at "ea"; walk_at "sd")
  | (apply ee_call; walk_at "ea"; walk_at "fn")
  | (apply ee_isi; walk_at "ee"; rfl; rfl)
  | exact ee_lenO rfl
  | exact ee_tupleO rfl
  | (apply ee_cb; walk_at "ea"; walk_at "rc")
  | (apply ee_andP; walk_at "ee"; walk_at "ee")
  | (apply ee_orP; walk_at "ee"; walk_at "ee")
  | (apply ee_notV; walk_at "ee")
  | (apply ee_neg; walk_at "ee")
  | (apply ee_revT; walk_at "ee")
  | (apply ee_slT; walk_at "ee"; walk_at "eo"; walk_at "eo"; walk_at "sd")
  | (apply EN.tree; walk_at "en"))
local macro_rules | `(tactic| walk_at "asg") => `(tactic| (apply sd_seq; apply sd_asg; apply ed_of; walk_at "ee"; refine ⟨⟨_, rfl, rfl⟩, ?_⟩))
local macro_rules | `(tactic| walk_at "asgN") => `(tactic| (apply sd_seq; apply sd_of; apply ss_asgN; walk_at "en"; rfl; rfl))
local macro_rules | `(tactic| walk_at "asgG") => `(tactic| (apply sd_seq; apply sd_of; apply ss_asgG; walk_at "ee"; walk_at "gg"))
local macro_rules | `(tactic| walk_at "par") => `(tactic| (apply sd_seq; apply sd_of; apply ss_parX; walk_at "ex"; decide; rfl; rfl; rfl; rfl))
local macro_rules | `(tactic| walk_at "par3") => `(tactic| (apply sd_seq; apply sd_of; apply ss_par3X; walk_at "ex"; decide; decide; decide; rfl; rfl; rfl; rfl; rfl; rfl))
local macro_rules | `(tactic| walk_at "ret") => `(tactic| (apply sd_ret; apply ed_of; walk_at "ee"))
local macro_rules | `(tactic| walk_at "no") => `(tactic| (apply sd_seq; apply sd_if; apply td_of; walk_at "et"))
local macro_rules | `(tactic| walk_at "drop") => `(tactic| (apply sd_seq; apply sd_drop; apply ed_of; walk_at "ee"))
local macro_rules | `(tactic| walk_at "fn") => `(tactic| exact r_is_integer)
local macro_rules | `(tactic| walk_at "fn") => `(tactic| exact r_is_natural)
local macro_rules | `(tactic| walk_at "fn") => `(tactic| exact r_is_below)
local macro_rules | `(tactic| walk_at "fn") => `(tactic| exact r_is_pair)
local macro_rules | `(tactic| walk_at "fn") => `(tactic| (apply r_power; walk_at "sd"))
local macro_rules | `(tactic| walk_at "fn") => `(tactic| (apply r_is_cell_below; walk_at "sd"))
local macro_rules | `(tactic| walk_at "fn") => `(tactic| (apply r_is_posture; walk_at "sd"; walk_at "sd"))
local macro_rules | `(tactic| walk_at "fn") => `(tactic| exact r_posed)
local macro_rules | `(tactic| walk_at "fn") => `(tactic| (apply r_is_part; assumption))
local macro_rules | `(tactic| walk_at "fn") => `(tactic| (apply r_is_kind_of; assumption; assumption))
local macro_rules | `(tactic| walk_at "fn") => `(tactic| (apply r_is_book; assumption))
local macro_rules | `(tactic| walk_at "fn") => `(tactic| (apply r_check_book; assumption))
local macro_rules | `(tactic| walk_at "fn") => `(tactic| (apply r_check_kind; assumption))
local macro_rules | `(tactic| walk_at "fn") => `(tactic| (apply r_turned_of; assumption))
local macro_rules | `(tactic| walk_at "fn") => `(tactic| (apply r_check_posture; assumption; assumption))
local macro_rules | `(tactic| walk_at "fn") => `(tactic| (apply r_turned; assumption; assumption; assumption))
local macro_rules | `(tactic| walk_at "fn") => `(tactic| (apply r_backward_of; assumption))
local macro_rules | `(tactic| walk_at "fn") => `(tactic| (apply r_backward; assumption))
local macro_rules | `(tactic| walk_at "fn") => `(tactic| exact r_check_depth)
local macro_rules | `(tactic| walk_at "fn") => `(tactic| exact r_check_many)
local macro_rules | `(tactic| walk_at "fn") => `(tactic| (apply r_cells_each_way; assumption))
local macro_rules | `(tactic| walk_at "fn") => `(tactic| (apply r_how_many_cells; assumption))
local macro_rules | `(tactic| walk_at "fn") => `(tactic| (apply r_check_cell; assumption; assumption))
local macro_rules | `(tactic| walk_at "fn") => `(tactic| (apply r_check_number; assumption; walk_at "sd"))
local macro_rules | `(tactic| walk_at "fn") => `(tactic| (apply r_way_to; assumption; assumption; assumption; assumption))
local macro_rules | `(tactic| walk_at "fn") => `(tactic| (apply r_number_in; assumption; assumption; assumption; assumption))
local macro_rules | `(tactic| walk_at "fn") => `(tactic| (apply r_number_of; assumption; assumption; assumption))
local macro_rules | `(tactic| walk_at "fn") => `(tactic| (apply r_cell_in; assumption; assumption; assumption; assumption))
local macro_rules | `(tactic| walk_at "fn") => `(tactic| (apply r_cell_of; assumption; assumption; assumption))
local macro_rules | `(tactic| walk_at "fn") => `(tactic| (apply r_kinds_on; assumption; assumption; assumption))
local macro_rules | `(tactic| walk_at "fn") => `(tactic| (apply r_thread_of; assumption; assumption; assumption; assumption))
local macro_rules | `(tactic| walk_at "fn") => `(tactic| (apply r_thread; assumption; assumption; assumption; assumption))
local macro_rules | `(tactic| walk_at "fn") => `(tactic| (apply r_first_cell; assumption; assumption))
local macro_rules | `(tactic| walk_at "fn") => `(tactic| (apply r_last_cell; assumption; assumption))
local macro_rules | `(tactic| walk_at "fn") => `(tactic| (apply r_whole; assumption; assumption; assumption))
local macro_rules | `(tactic| walk_at "fn") => `(tactic| (apply r_numbered; assumption; assumption))
local macro_rules | `(tactic| walk_at "fn") => `(tactic| (apply r_begun_of; assumption; assumption))
local macro_rules | `(tactic| walk_at "fn") => `(tactic| (apply r_begun_at; assumption; assumption))
local macro_rules | `(tactic| walk_at "fn") => `(tactic| (apply r_law_same; assumption))
local macro_rules | `(tactic| walk_at "fn") => `(tactic| exact r_law_posed)
local macro_rules | `(tactic| walk_at "fn") => `(tactic| (apply r_law_picture; assumption))
local macro_rules | `(tactic| walk_at "fn") => `(tactic| (apply r_law_figures; walk_at "sd"; walk_at "sd"; walk_at "sd"))
local macro_rules | `(tactic| walk_at "fn") => `(tactic| (apply r_law_way; assumption; assumption; assumption))
local macro_rules | `(tactic| walk_at "fn") => `(tactic| (apply r_law_carried; assumption; assumption; walk_at "sd"))
local macro_rules | `(tactic| walk_at "fn") => `(tactic| (apply r_law_begun; assumption; assumption))
section
variable {P : Program} {w : World} {K : PySem.W.Frag} {mg : Str → Option Value} {base : Heap}
def PreTwice : Ct → List D → Prop := fun c ds => ∃ (p : Pot) (B : Book), c = potC p ∧ PotOk p ∧ ds = [dBook B] ∧ BookOk B ∧ B.kinds.length ≤ 50
def PostTwice : Ct → List D → Ct → D → Prop := fun _ ds c' d => ∀ B : Book, ds = [dBook B] → ∃ (p' : Pot) (ks : List Bk.Row), c' = potC p' ∧ PotOk p' ∧ Doubled B ks ∧ d = dBook ⟨B.b, ks⟩
theorem ok_law_doubled (c : Cn K mg base) : Has P w K mg base "_law_doubled" 2 ps_law_doubled (spN K PreTwice PostTwice) := by
  refine mk_law_doubled c fun fd F => fn_N F sc_law_doubled (fun c ds h => by obtain ⟨_, _, _, _, rfl, _⟩ := h; rfl) fun cdv A outer s H E hr => ?_
  refine ⟨_, (pss_cons (ps_set (i := 2) sc_law_doubled.nd rfl (by first | exact Or.inl rfl | exact Or.inr rfl) (pe_lst pa_nil))
    (pss_cons (ps_for PassesOwn.never rfl (piT K rfl (pe_ix (ixT K rfl) (pv 1) pe_int (fun _ _ => rfl))) (pg_name (i := 3) sc_law_doubled.nd rfl (by first | exact Or.inl rfl | exact Or.inr rfl)) (pss_one (ps_for PassesOwn.never rfl (FlRange.pi_rangeL1 (by rfl) c.f_range (pa_cons pe_int pa_nil)) (pg_name (i := 4) sc_law_doubled.nd rfl (by first | exact Or.inl rfl | exact Or.inr rfl)) (pss_one (ps_expr (bM K rfl PySem.F.plainAttrs_list PySem.F.slot_list_append PySem.F.type_list_append mt_append (pv 2) (pa_cons (pe_callTy (cTup K rfl) (by rfl) c.f_tuple b_tuple (pa_cons (pe_lc (own := [("x", 5), ("y", 6), ("kind", 7)]) rfl sc_law_doubled.nd (piT K rfl (pv 3)) (blkOk_by rfl) (fun _ _ _ _ _ => (pgT K rfl (n := 3) rfl (pgs_cons (pg_name (i := 5) sc_law_doubled.nd rfl (by first | exact Or.inl rfl | exact Or.inr rfl)) (pgs_cons (pg_name (i := 6) sc_law_doubled.nd rfl (by first | exact Or.inl rfl | exact Or.inr rfl)) (pgs_cons (pg_name (i := 7) sc_law_doubled.nd rfl (by first | exact Or.inl rfl | exact Or.inr rfl)) pgs_nil))))) (fun _ _ _ _ _ => pts_nil) (fun _ _ _ _ _ => (pe_tup (pa_cons (pv 5) (pa_cons (pv 6) (pa_cons (pe_op op_add (pe_op op_mul pe_int (pv 7)) (pe_has (ok_law_draw c) hr (pa_cons (pv 0) (pa_cons pe_int pa_nil)))) pa_nil)))))) pa_nil)) pa_nil)))))))
    (pss_one (ps_ret (pe_tup (pa_cons (pe_ix (ixT K rfl) (pv 1) pe_int (fun _ _ => rfl)) (pa_cons (pe_callTy (cTup K rfl) (by rfl) c.f_tuple b_tuple (pa_cons (pv 2) pa_nil)) pa_nil))))))), ?_⟩
  rintro c ds ⟨p, B, rfl, hp, rfl, ho, h50⟩
  show SD K _ [.o true (potC p), .d (.tuple [.int (B.b : Nat), .tuple (B.kinds.map dRow)]), .any, .any, .any, .any, .any, .any] _
  walk_at "asgN"
  apply sd_seq
  refine sd_for (ds := B.kinds.map dRow) (e0 := [.o true (potC p), .d (.tuple [.int (B.b : Nat), .tuple (B.kinds.map dRow)]), .o false (.lst []), .any, .any, .any, .any, .any]) (ei_tup (ee_opP (ee_var rfl) ee_int (rr_ixT rfl)))
    (fun i e => ∃ (p : Pot) (ks : List Bk.Row) (v3 v4 : S), PotOk p ∧ S.isPm v3 = false ∧ S.isPm v4 = false ∧ ks.length = 2 * i ∧ (∀ k, k < 2 * i → ∃ r, ks[k]? = some r ∧ r.map halfP = B.row (k / 2)) ∧
      e = [.o true (potC p), .d (.tuple [.int (B.b : Nat), .tuple (B.kinds.map dRow)]), .o false (.lst (ks.map dRow)), v3, v4, .any, .any, .any]) ⟨p, [], .any, .any, hp, rfl, rfl, rfl, fun k hk => absurd hk (Nat.not_lt_zero _), rfl⟩ ?_ ?_
  · rintro i dd e hdd ⟨p, ks, v3, v4, hp, h3, h4, hkl, hks, rfl⟩
    rw [List.getElem?_map] at hdd
    obtain ⟨row, hrow, rfl⟩ := Option.map_eq_some_iff.mp hdd
    have hi : i < B.kinds.length := (List.getElem?_eq_some_iff.mp hrow).1
    have hri : row = B.row i := by
      have := B.row_get hi
      rw [hrow] at this
      injection this
    subst hri
    have hro := ho.row hi
    have hrl := RowOk.few hro ho.b2.2
    refine ⟨_, _, gg_name rfl h3, ?_⟩
    refine sd_for (ds := rangeD 0 2) (e0 := [.o true (potC p), .d (.tuple [.int (B.b : Nat), .tuple (B.kinds.map dRow)]), .o false (.lst (ks.map dRow)), .d (dRow (B.row i)), v4, .any, .any, .any]) (ei_rangeL1 (n := 2) (ea_consP ee_int ea_nil))
      (fun t e => ∃ (p : Pot) (ks : List Bk.Row) (v4 : S), PotOk p ∧ S.isPm v4 = false ∧ ks.length = 2 * i + t ∧ (∀ k, k < 2 * i + t → ∃ r, ks[k]? = some r ∧ r.map halfP = B.row (k / 2)) ∧
        e = [.o true (potC p), .d (.tuple [.int (B.b : Nat), .tuple (B.kinds.map dRow)]), .o false (.lst (ks.map dRow)), .d (dRow (B.row i)), v4, .any, .any, .any]) ⟨p, ks, v4, hp, h4, hkl, hks, rfl⟩ ?_ ?_
    · rintro t d2 e hd2 ⟨p, ks, v4, hp, h4, hkl, hks, rfl⟩
      have ht : t < 2 := by
        have := (List.getElem?_eq_some_iff.mp hd2).1
        rw [rangeD_len] at this
        exact this
      refine ⟨_, _, gg_name rfl h4, ?_⟩
      obtain ⟨e', ys, hyl, ⟨p2, r, hp2, rfl, rfl, hrr⟩, hEN⟩ := en_lcPF (K := K) (env := [.o true (potC p), .d (.tuple [.int (B.b : Nat), .tuple (B.kinds.map dRow)]), .o false (.lst (ks.map dRow)), .d (dRow (B.row i)), .d d2, .any, .any, .any]) (te := tTup (tCons (tVar 5) (tCons (tVar 6) (tCons (tOp (rI0 fun i j => .int (i + j)) (tOp (rI CMul fun i j => .int (i * j)) (tC (.int 2)) (tVar 7)) (tCall (spN K PreDraw PostDraw) [] E0 (tCons (tVar 0) (tCons (tC (.int 2)) tNil)))) tNil)))) (tt := tYes) (g := gTup K 3 (gCons (gName 5) (gCons (gName 6) (gCons (gName 7) gNil)))) (vs := [5, 6, 7])
        (ei_tup (ds := (B.row i).map dPart) (ee_var (i := 3) rfl))
        (fun j e acc => ∃ (q : Pot) (r : Bk.Row), PotOk q ∧ e = [.o true (potC q), .d (.tuple [.int (B.b : Nat), .tuple (B.kinds.map dRow)]), .o false (.lst (ks.map dRow)), .d (dRow (B.row i)), .d d2, .any, .any, .any] ∧ acc = r.map dPart ∧ r.map halfP = (B.row i).take j)
        ⟨p, [], hp, rfl, rfl, rfl⟩ (by rw [List.length_map]; omega) rfl (by
          rintro j dd e acc hdd ⟨q, r, hq, rfl, rfl, hr2⟩ _
          rw [List.getElem?_map] at hdd
          obtain ⟨x, hx, rfl⟩ := Option.map_eq_some_iff.mp hdd
          have hdr := drawV_lt (p := q) (many := 2) (by decide)
          refine ⟨_, _, _, _, .tuple [.int x.1, .int x.2.1, .int ((2 * x.2.2 + drawV q 2 : Nat) : Int)], gg_tup (ds := [.int x.1, .int x.2.1, .int x.2.2]) (ggs_cons (gg_name rfl rfl) (ggs_cons (gg_name rfl rfl) (ggs_cons (gg_name rfl rfl) ggs_nil))) rfl, et_yes,
            ee_tup (ea_cons (ee_var rfl) (ea_cons (ee_var rfl) (ea_cons (EE.is (ee_op (ee_op ee_int (ee_var rfl) (rr_ic (Or.inl (by decide)))) (ee_draw (many := 2) rfl ee_int hq (by decide) (small_lt (by decide))) rr_i) (by push_cast; rfl)) ea_nil))) (show 3 ≤ 1000000 by decide), rfl, rfl, ?_⟩
          refine ⟨drawP q 2, r ++ [(x.1, x.2.1, 2 * x.2.2 + drawV q 2)], drawP_ok hq, rfl, by rw [dRow_snoc]; rfl, ?_⟩
          rw [List.map_append, hr2, List.take_add_one, hx]
          congr 1
          show [halfP _] = [x]
          unfold halfP
          have e2 : (2 * x.2.2 + drawV q 2) / 2 = x.2.2 := by omega
          dsimp only
          rw [e2])
      rw [List.length_map, List.take_length] at hrr
      apply sd_of
      · apply ss_append rfl
        · exact ee_cb (ea_cons hEN.tree ea_nil) (rc_tuple rfl)
        · rfl
        · rw [List.length_map, hkl]; omega
      refine ⟨p2, ks ++ [r], .d d2, hp2, rfl, by rw [List.length_append, hkl]; rfl, fun k hk => ?_, by rw [List.map_append]; rfl⟩
      by_cases e : k < 2 * i + t
      · obtain ⟨r', h1, h2⟩ := hks k e
        refine ⟨r', ?_, h2⟩
        rw [List.getElem?_append_left (by omega)]; exact h1
      · have e2 : k = ks.length := by omega
        refine ⟨r, ?_, ?_⟩
        · rw [e2]; simp
        · have e3 : k / 2 = i := by omega
          rw [hrr, e3]
    · rintro e ⟨p, ks, v4, hp, h4, hkl, hks, rfl⟩
      rw [rangeD_len] at hkl hks
      exact ⟨p, ks, .d (dRow (B.row i)), v4, hp, rfl, h4, by omega, fun k hk => hks k (by omega), rfl⟩
  · rintro e ⟨p, ks, v3, v4, hp, h3, h4, hkl, hks, rfl⟩
    rw [List.length_map] at hkl hks
    apply sd_ret; apply ed_of
    · exact ee_tup (ds := [.int (B.b : Nat), .tuple (ks.map dRow)]) (ea_consP (ee_opP (ee_var rfl) ee_int (rr_ixT rfl)) (ea_consP (ee_tupleO rfl) ea_nil)) (show 2 ≤ 1000000 by decide)
    · refine ⟨potC p, rfl, fun B' hB => ?_⟩
      injection hB with hB _
      have e := dBook_inj hB
      subst e
      exact ⟨p, ks, rfl, hp, ⟨hkl, hks⟩, rfl⟩
end
end K20
set_option autoImplicit false
set_option Elab.async false
set_option linter.all false
set_option maxRecDepth 100000
set_option maxHeartbeats 4000000
namespace K20
open PySem PySem.Spec PyProof.Rows L2 Fl Bk
local macro_rules | `(tactic| walk_at "sd") => `(tactic| first | assumption | rfl | omega | exact Nat.le_of_ble_eq_true rfl | (constructor <;> omega) | decide | (left; constructor <;> omega) | (right; constructor <;> omega))
local macro_rules | `(tactic| walk_at "fn") => `(tactic| fail "fn")
local macro_rules | `(tactic| walk_at "rc") => `(tactic| first | exact rc_len rfl | exact rc_tuple rfl | exact rc_all | exact rc_any | exact rc_sum | exact rc_int1 | exact rc_min2 | exact rc_max2)
local macro_rules | `(tactic| walk_at "rcn") => `(tactic| first | exact rcn_list rfl)
local macro_rules | `(tactic| walk_at "rr") => `(tactic| first | exact rr_i | exact rr_b | exact rr_eqI | exact rr_neI | exact rr_eqB | exact rr_neB | exact rr_eqS | exact rr_neS | (apply rr_ixT; first | rfl | assumption) | (apply rr_ixL; first | rfl | assumption) | (apply rr_ic; walk_at "sd") | (apply rr_catT; first | (exact List.cons_ne_nil _ _) | assumption; walk_at "sd"))
local macro_rules | `(tactic| walk_at "ea") => `(tactic| first | exact ea_nil | (apply ea_cons; walk_at "ee"; walk_at "ea"))
local macro_rules | `(tactic| walk_at "et") => `(tactic| first | (apply et_test; walk_at "ee") | (apply et_B; walk_at "ee") | (apply et_not; walk_at "et") | exact et_yes | (apply et_andP; walk_at "et"; walk_at "et") | (apply et_orP; walk_at "et"; walk_at "et"))
local macro_rules | `(tactic| walk_at "en") => `(tactic| first | (apply en_lst; walk_at "ea"; walk_at "sd") | (apply en_cb; walk_at "ea"; walk_at "rcn") | (apply en_revO; rfl) | (apply en_revL; walk_at "ee"))
local macro_rules | `(tactic| walk_at "ex") => `(tactic| first | exact ex_nil | (apply ex_n; walk_at "en"; (intro _ z; cases z); walk_at "ex") | (apply ex_t; walk_at "ee"; walk_at "ex"))
local macro_rules | `(tactic| walk_at "eo") => `(tactic| first | exact eo_no | (apply eo_part; walk_at "ee"))
local macro_rules | `(tactic| walk_at "gg") => `(tactic| first | exact gg_name rfl rfl | exact gg_name rfl (by assumption) | (apply gg_tup; walk_at "ggs"; rfl) | (apply gg_lst; walk_at "ggs"; rfl))
local macro_rules | `(tactic| walk_at "ggs") => `(tactic| first | exact ggs_nil | (apply ggs_cons; walk_at "gg"; walk_at "ggs"))
local macro_rules | `(tactic| walk_at "ei") => `(tactic| first | (apply ei_rangeL1; walk_at "ea") | (apply ei_rangeL2; walk_at "ea") | (apply ei_tup; walk_at "ee") | (apply ei_list; walk_at "ee"))
local macro_rules | `(tactic| walk_at "ee") => `(tactic| first
  | exact ee_var rfl
  | exact ee_int
  | exact ee_bl
  | exact ee_non
  | exact ee_str
  | (apply ee_ixO rfl; walk_at "ee"; rfl; first | rfl | assumption)
  | (apply ee_op; walk_at "ee"; walk_at "ee"; walk_at "rr")
  | (apply ee_tup; walk_at "ea"; walk_at "sd")
  | (apply ee_call; walk_at "ea"; walk_at "fn")
  | (apply ee_isi; walk_at "ee"; rfl; rfl)
  | exact ee_lenO rfl
  | exact ee_tupleO rfl
  | (apply ee_cb; walk_at "ea"; walk_at "rc")
  | (apply ee_andP; walk_at "ee"; walk_at "ee")
  | (apply ee_orP; walk_at "ee"; walk_at "ee")
  | (apply ee_notV; walk_at "ee")
  | (apply ee_neg; walk_at "ee")
  | (apply ee_revT; walk_at "ee")
  | (apply ee_slT; walk_at "ee"; walk_at "eo"; walk_at "eo"; walk_at "sd")
  | (apply EN.tree; walk_at "en"))
local macro_rules | `(tactic| walk_at "asg") => `(tactic| (apply sd_seq; apply sd_asg; apply ed_of; walk_at "ee"; refine ⟨⟨_, rfl, rfl⟩, ?_⟩))
local macro_rules | `(tactic| walk_at "asgN") => `(tactic| (apply sd_seq; apply sd_of; apply ss_asgN; walk_at "en"; rfl; rfl))
local macro_rules | `(tactic| walk_at "asgG") => `(tactic| (apply sd_seq; apply sd_of; apply ss_asgG; walk_at "ee"; walk_at "gg"))
local macro_rules | `(tactic| walk_at "par") => `(tactic| (apply sd_seq; apply sd_of; apply ss_parX; walk_at "ex"; decide; rfl; rfl; rfl; rfl))
local macro_rules | `(tactic| walk_at "par3") => `(tactic| (apply sd_seq; apply sd_of; apply ss_par3X; walk_at "ex"; decide; decide; decide; rfl; rfl; rfl; rfl; rfl; rfl))
local macro_rules | `(tactic| walk_at "ret") => `(tactic| (apply sd_ret; apply ed_of; walk_at "ee"))
local macro_rules | `(tactic| walk_at "no") => `(tactic| (apply sd_seq; apply sd_if; apply td_of; walk_at "et"))
local macro_rules | `(tactic| walk_at "drop") => `(tactic| (apply sd_seq; apply sd_drop; apply ed_of; walk_at "ee"))
local macro_rules | `(tactic| walk_at "fn") => `(tactic| exact r_is_integer)
local macro_rules | `(tactic| walk_at "fn") => `(tactic| exact r_is_natural)
local macro_rules | `(tactic| walk_at "fn") => `(tactic| exact r_is_below)
local macro_rules | `(tactic| walk_at "fn") => `(tactic| exact r_is_pair)
local macro_rules | `(tactic| walk_at "fn") => `(tactic| (apply r_power; walk_at "sd"))
local macro_rules | `(tactic| walk_at "fn") => `(tactic| (apply r_is_cell_below; walk_at "sd"))
local macro_rules | `(tactic| walk_at "fn") => `(tactic| (apply r_is_posture; walk_at "sd"; walk_at "sd"))
local macro_rules | `(tactic| walk_at "fn") => `(tactic| exact r_posed)
local macro_rules | `(tactic| walk_at "fn") => `(tactic| (apply r_is_part; assumption))
local macro_rules | `(tactic| walk_at "fn") => `(tactic| (apply r_is_kind_of; assumption; assumption))
local macro_rules | `(tactic| walk_at "fn") => `(tactic| (apply r_is_book; assumption))
local macro_rules | `(tactic| walk_at "fn") => `(tactic| (apply r_check_book; assumption))
local macro_rules | `(tactic| walk_at "fn") => `(tactic| (apply r_check_kind; assumption))
local macro_rules | `(tactic| walk_at "fn") => `(tactic| (apply r_turned_of; assumption))
local macro_rules | `(tactic| walk_at "fn") => `(tactic| (apply r_check_posture; assumption; assumption))
local macro_rules | `(tactic| walk_at "fn") => `(tactic| (apply r_turned; assumption; assumption; assumption))
local macro_rules | `(tactic| walk_at "fn") => `(tactic| (apply r_backward_of; assumption))
local macro_rules | `(tactic| walk_at "fn") => `(tactic| (apply r_backward; assumption))
local macro_rules | `(tactic| walk_at "fn") => `(tactic| exact r_check_depth)
local macro_rules | `(tactic| walk_at "fn") => `(tactic| exact r_check_many)
local macro_rules | `(tactic| walk_at "fn") => `(tactic| (apply r_cells_each_way; assumption))
local macro_rules | `(tactic| walk_at "fn") => `(tactic| (apply r_how_many_cells; assumption))
local macro_rules | `(tactic| walk_at "fn") => `(tactic| (apply r_check_cell; assumption; assumption))
local macro_rules | `(tactic| walk_at "fn") => `(tactic| (apply r_check_number; assumption; walk_at "sd"))
local macro_rules | `(tactic| walk_at "fn") => `(tactic| (apply r_way_to; assumption; assumption; assumption; assumption))
local macro_rules | `(tactic| walk_at "fn") => `(tactic| (apply r_number_in; assumption; assumption; assumption; assumption))
local macro_rules | `(tactic| walk_at "fn") => `(tactic| (apply r_number_of; assumption; assumption; assumption))
local macro_rules | `(tactic| walk_at "fn") => `(tactic| (apply r_cell_in; assumption; assumption; assumption; assumption))
local macro_rules | `(tactic| walk_at "fn") => `(tactic| (apply r_cell_of; assumption; assumption; assumption))
local macro_rules | `(tactic| walk_at "fn") => `(tactic| (apply r_kinds_on; assumption; assumption; assumption))
local macro_rules | `(tactic| walk_at "fn") => `(tactic| (apply r_thread_of; assumption; assumption; assumption; assumption))
local macro_rules | `(tactic| walk_at "fn") => `(tactic| (apply r_thread; assumption; assumption; assumption; assumption))
local macro_rules | `(tactic| walk_at "fn") => `(tactic| (apply r_first_cell; assumption; assumption))
local macro_rules | `(tactic| walk_at "fn") => `(tactic| (apply r_last_cell; assumption; assumption))
local macro_rules | `(tactic| walk_at "fn") => `(tactic| (apply r_whole; assumption; assumption; assumption))
local macro_rules | `(tactic| walk_at "fn") => `(tactic| (apply r_numbered; assumption; assumption))
local macro_rules | `(tactic| walk_at "fn") => `(tactic| (apply r_begun_of; assumption; assumption))
local macro_rules | `(tactic| walk_at "fn") => `(tactic| (apply r_begun_at; assumption; assumption))
local macro_rules | `(tactic| walk_at "fn") => `(tactic| (apply r_law_same; assumption))
local macro_rules | `(tactic| walk_at "fn") => `(tactic| exact r_law_posed)
local macro_rules | `(tactic| walk_at "fn") => `(tactic| (apply r_law_picture; assumption))
local macro_rules | `(tactic| walk_at "fn") => `(tactic| (apply r_law_figures; walk_at "sd"; walk_at "sd"; walk_at "sd"))
local macro_rules | `(tactic| walk_at "fn") => `(tactic| (apply r_law_way; assumption; assumption; assumption))
local macro_rules | `(tactic| walk_at "fn") => `(tactic| (apply r_law_carried; assumption; assumption; walk_at "sd"))
local macro_rules | `(tactic| walk_at "fn") => `(tactic| (apply r_law_begun; assumption; assumption))
section
variable {P : Program} {w : World} {K : PySem.W.Frag} {mg : Str → Option Value} {base : Heap}
/-! ### the law's own: names are right -/
def PreNames : Ct → List D → Prop := fun c ds => ∃ (p : Pot) (B : Book), c = potC p ∧ PotOk p ∧ ds = [dBook B] ∧ BookOk B
theorem okT_names {B : Book} {d n k : Nat} (hd : d ≤ 2000) {l : List Nat} (hl : l.length = d + 1) : okT (k + 3) (.list [dCell (cellAt B 0 d n), .tuple (dNats l)]) = true :=
  okT_list (show 2 ≤ 1000000 by decide) (all2 okT_cell (okT_nats (by omega)))
theorem ok_law_names_right (c : Cn K mg base) : Has P w K mg base "_law_names_right" 10 ps_law_names_right (spN K PreNames PostTrue) := by
  refine mk_law_names_right c fun fd F => fn_N F sc_law_names_right (fun c ds h => by obtain ⟨_, _, _, _, rfl, _⟩ := h; rfl) fun cdv A outer s H E hr => ?_
  refine ⟨_, (pss_cons (ps_asg (pe_tup (pa_cons (pe_has (ok_law_renamed c) hr (pa_cons (pv 0) (pa_cons (pv 1) pa_nil))) (pa_cons (pe_op op_add pe_int (pe_has (ok_law_draw c) hr (pa_cons (pv 0) (pa_cons pe_int pa_nil)))) pa_nil))) (pgT K rfl (n := 2) rfl (pgs_cons (pgL K rfl (n := 2) rfl (pgs_cons (pg_name (i := 8) sc_law_names_right.nd rfl (by first | exact Or.inl rfl | exact Or.inr rfl)) (pgs_cons (pg_name (i := 9) sc_law_names_right.nd rfl (by first | exact Or.inl rfl | exact Or.inr rfl)) pgs_nil))) (pgs_cons (pg_name (i := 5) sc_law_names_right.nd rfl (by first | exact Or.inl rfl | exact Or.inr rfl)) pgs_nil))))
    (pss_cons (ps_set (i := 2) sc_law_names_right.nd rfl (by first | exact Or.inl rfl | exact Or.inr rfl) (pe_has (ok_law_draw c) hr (pa_cons (pv 0) (pa_cons (pe_has (ok_law_power c) hr (pa_cons (pe_op op_mul (pe_ix (ixT K rfl) (pv 1) pe_int (fun _ _ => rfl)) (pe_ix (ixT K rfl) (pv 1) pe_int (fun _ _ => rfl))) (pa_cons (pv 5) pa_nil))) pa_nil))))
    (pss_cons (ps_asg (pe_has (ok_law_way c) hr (pa_cons (pv 1) (pa_cons (pv 5) (pa_cons (pv 2) pa_nil)))) (pgL K rfl (n := 2) rfl (pgs_cons (pg_name (i := 6) sc_law_names_right.nd rfl (by first | exact Or.inl rfl | exact Or.inr rfl)) (pgs_cons (pg_name (i := 7) sc_law_names_right.nd rfl (by first | exact Or.inl rfl | exact Or.inr rfl)) pgs_nil))))
    (pss_cons (ps_set (i := 3) sc_law_names_right.nd rfl (by first | exact Or.inl rfl | exact Or.inr rfl) (pe_lst (pa_cons (pe_has (ok_cell_of c) hr (pa_cons (pv 8) (pa_cons (pv 5) (pa_cons (pv 2) pa_nil)))) (pa_cons (pe_has (ok_kinds_on c) hr (pa_cons (pv 8) (pa_cons (pv 5) (pa_cons (pv 2) pa_nil)))) pa_nil))))
    (pss_cons (ps_if (pt_not (pt_val (pe_has (ok_law_same c 8) hr (pa_cons (pv 3) (pa_cons (pe_lst (pa_cons (pv 6) (pa_cons (pe_callTy (cTup K rfl) (by rfl) c.f_tuple b_tuple (pa_cons (pe_lc (own := [("kind", 10)]) rfl sc_law_names_right.nd (piT K rfl (pv 7)) (blkOk_by rfl) (fun _ _ _ _ _ => (pg_name (i := 10) sc_law_names_right.nd rfl (by first | exact Or.inl rfl | exact Or.inr rfl))) (fun _ _ _ _ _ => pts_nil) (fun _ _ _ _ _ => (pe_ix (ixL K rfl) (pv 9) (pv 10) (fun _ _ => rfl)))) pa_nil)) pa_nil))) pa_nil))))) (pss_one (ps_ret pe_bl)) pss_nil)
    (pss_cons (ps_if (pt_cmpR op_gt (pe_callB (cLen K rfl) (by rfl) c.f_len b_len (pa_cons (pe_ix (ixT K rfl) (pv 1) pe_int (fun _ _ => rfl)) pa_nil)) pe_int (nomark _)) (pss_one (ps_ret pe_bl)) pss_nil)
    (pss_cons (ps_set (i := 4) sc_law_names_right.nd rfl (by first | exact Or.inl rfl | exact Or.inr rfl) (pe_has (ok_law_doubled c) hr (pa_cons (pv 0) (pa_cons (pv 1) pa_nil))))
    (pss_cons (ps_set (i := 3) sc_law_names_right.nd rfl (by first | exact Or.inl rfl | exact Or.inr rfl) (pe_lst (pa_cons (pe_has (ok_cell_of c) hr (pa_cons (pv 4) (pa_cons (pv 5) (pa_cons (pv 2) pa_nil)))) (pa_cons (pe_has (ok_number_of c) hr (pa_cons (pv 4) (pa_cons (pv 5) (pa_cons (pv 6) pa_nil)))) (pa_cons (pe_lc (own := [("kind", 10)]) rfl sc_law_names_right.nd (piT K rfl (pe_has (ok_kinds_on c) hr (pa_cons (pv 4) (pa_cons (pv 5) (pa_cons (pv 2) pa_nil))))) (blkOk_by rfl) (fun _ _ _ _ _ => (pg_name (i := 10) sc_law_names_right.nd rfl (by first | exact Or.inl rfl | exact Or.inr rfl))) (fun _ _ _ _ _ => pts_nil) (fun _ _ _ _ _ => (pe_op op_fdivW (pv 10) pe_int))) pa_nil)))))
    (pss_one (ps_ret (pe_has (ok_law_same c 8) hr (pa_cons (pv 3) (pa_cons (pe_lst (pa_cons (pv 6) (pa_cons (pv 2) (pa_cons (pe_callTy (cList K rfl) (by rfl) c.f_list b_list (pa_cons (pv 7) pa_nil)) pa_nil)))) pa_nil))))))))))))), ?_⟩
  rintro c ds ⟨p, B, rfl, hp, rfl, ho⟩
  show SD K _ [.o true (potC p), .d (.tuple [.int (B.b : Nat), .tuple (B.kinds.map dRow)]), .any, .any, .any, .any, .any, .any, .any, .any, .any] _
  have hb := ho.b2
  have h9 := bb9 ho
  have h0 := kind0 ho
  have hf := ho.few
  -- (other, names), d
  apply sd_seq; apply sd_asgG; apply ed_tup2
  apply ed_callN (ds := [dBook B]) rfl (ea_consP (ee_var rfl) ea_nil) rfl
  · exact ⟨p, B, rfl, hp, rfl, ho⟩
  intro c' dd h
  obtain ⟨p, π, ks, rfl, hp, hren, rfl⟩ := h B rfl
  have d1 := drawV_lt (p := p) (many := 40) (by decide)
  have o1 := drawP_ok (many := 40) hp
  refine ⟨[.o true (potC (drawP p 40)), .d (.tuple [.int (B.b : Nat), .tuple (B.kinds.map dRow)]), .any, .any, .any, .any, .any, .any, .any, .any, .any], .int ((1 + drawV p 40 : Nat) : Int), ?_, ?_⟩
  · refine EE.is (ee_op ee_int (ee_draw (many := 40) rfl ee_int hp (by decide) (small_lt (by decide))) rr_i) ?_
    push_cast; rfl
  generalize hdd : 1 + drawV p 40 = d
  have hd2 : d ≤ 2000 := by omega
  generalize drawP p 40 = q at o1 ⊢
  refine ⟨_, _, gg_tup (ds := [.list [dBook ⟨B.b, ks⟩, .list (dNats π)], .int (d : Nat)]) (ggs_cons (gg_lst (ds := [dBook ⟨B.b, ks⟩, .list (dNats π)]) (ggs_cons (gg_name rfl rfl) (ggs_cons (gg_name rfl rfl) ggs_nil)) rfl) (ggs_cons (gg_name rfl rfl) ggs_nil)) rfl, ?_⟩
  have hcp := cells_pos ho d
  have hcd := cells_draw ho hd2
  -- number
  apply sd_seq; apply sd_asg; apply ed_of
  · exact ee_draw (many := cells B d) rfl (ee_callP (d := .int (cells B d : Nat)) (ds := [.int ((B.b * B.b : Nat) : Int), .int (d : Nat)]) (ea_consP (ee_bb (B := B) rfl hb.2) (ea_consP (ee_var rfl) ea_nil)) (r_power (by omega))) o1 hcp hcd
  refine ⟨⟨_, rfl, rfl⟩, ?_⟩
  have hn := drawV_lt (p := q) hcp
  have o2 := drawP_ok (many := cells B d) o1
  generalize drawV q (cells B d) = n at hn ⊢
  generalize drawP q (cells B d) = q at o2 ⊢
  -- cell, kinds
  apply sd_seq; apply sd_of
  · apply ss_asgG (d := dWay B d n)
    · exact ee_callP (ds := [dBook B, .int (d : Nat), .int (n : Nat)]) (ea_consP (ee_var rfl) (ea_consP (ee_var rfl) (ea_consP (ee_var rfl) ea_nil))) (r_law_way ho hd2 hn)
    · exact gg_lst (ds := [dCell (cellAt B 0 d n), .tuple (dNats (kindsAt B 0 d n))]) (ggs_cons (gg_name rfl rfl) (ggs_cons (gg_name rfl rfl) ggs_nil)) rfl
  -- told
  have hO := hren.ok ho
  have hat := hren.at ho d 0 n h0 hn
  have hpi0 : π.getD 0 0 = 0 := hren.zero
  rw [hpi0] at hat
  apply sd_seq; apply sd_of
  · apply ss_asgN
    · apply en_lst (ds := [dCell (cellAt B 0 d n), .tuple (dNats ((kindsAt B 0 d n).map fun m => π.getD m 0))])
      · refine ea_consP ?_ (ea_consP ?_ ea_nil)
        · rw [← hat.1]
          exact ee_callP (ds := [dBook ⟨B.b, ks⟩, .int (d : Nat), .int (n : Nat)]) (ea_consP (ee_var rfl) (ea_consP (ee_var rfl) (ea_consP (ee_var rfl) ea_nil))) (r_cell_of hO hd2 hn)
        · rw [← hat.2]
          exact ee_callP (ds := [dBook ⟨B.b, ks⟩, .int (d : Nat), .int (n : Nat)]) (ea_consP (ee_var rfl) (ea_consP (ee_var rfl) (ea_consP (ee_var rfl) ea_nil))) (r_kinds_on hO hd2 hn)
      · exact (show 2 ≤ 1000000 by decide)
    · rfl
    · rfl
  refine sd_pre (sub_freeze (i := 3) rfl) ?_
  have hkin := kindsAt_in ho d 0 n h0 hn
  apply sd_seq; apply sd_ifF
  · apply et_not; apply et_B
    refine ee_callP (ds := [.list [dCell (cellAt B 0 d n), .tuple (dNats ((kindsAt B 0 d n).map fun m => π.getD m 0))], .list [dCell (cellAt B 0 d n), .tuple (dNats ((kindsAt B 0 d n).map fun m => π.getD m 0))]]) (ea_consP (ee_var rfl) (ea_consP (EN.tree (en_lst (ea_consP (ee_var rfl) (ea_consP (ee_cb (ea_consP (x := .list (dNats ((kindsAt B 0 d n).map fun m => π.getD m 0))) (EN.tree ?_) ea_nil) (rc_tuple rfl)) ea_nil)) (show 2 ≤ 1000000 by decide))) ea_nil)) (r_law_same (okT_names hd2 (by rw [List.length_map, kindsAt_len])))
    apply en_lcF
    · exact ei_tup (ds := dNats (kindsAt B 0 d n)) (ee_var rfl)
    · simp [dNats]
    · unfold dNats; rw [List.length_map, kindsAt_len]; omega
    · rfl
    · intro i x y hx hy
      unfold dNats at hx hy
      rw [List.getElem?_map] at hx hy
      rw [List.getElem?_map] at hy
      obtain ⟨m, hm, rfl⟩ := Option.map_eq_some_iff.mp hx
      rw [hm] at hy
      cases hy
      have hml := hkin m (List.mem_of_getElem? hm)
      have hma : atI (dNats π) (m : Nat) = some (.int (π.getD m 0 : Nat)) := Bk.atI_nat (by unfold dNats; rw [List.getElem?_map, (hren.get hml).1]; rfl)
      exact ⟨_, _, gg_name rfl rfl, et_yes, ee_opP (ee_var rfl) (ee_var rfl) (rr_ixL hma), rfl, rfl⟩
  · rfl
  apply sd_next
  -- few kinds
  apply sd_seq
  apply sd_if; apply td_of
  · apply et_test
    exact ee_opP (ee_cb (ea_consP (ee_opP (ee_var rfl) ee_int (rr_ixT rfl)) ea_nil) (rc_len rfl)) ee_int rr_b
  by_cases h4 : B.kinds.length > 4
  · rw [if_pos (decide_eq_true (by rw [List.length_map]; omega))]
    apply sd_ret; apply ed_of ee_bl
    exact ⟨potC q, rfl, q, rfl, o2, rfl⟩
  rw [if_neg (by rw [List.length_map, decide_eq_false (by omega)]; exact Bool.false_ne_true)]
  apply sd_next
  -- twin
  apply sd_seq; apply sd_asg
  apply ed_callN (ds := [dBook B]) rfl (ea_consP (ee_var rfl) ea_nil) rfl
  · exact ⟨q, B, rfl, o2, rfl, ho, by omega⟩
  intro c' dd h
  obtain ⟨p2, ks2, rfl, hp2, hdb, rfl⟩ := h B rfl
  refine ⟨⟨_, rfl, rfl⟩, ?_⟩
  have hO2 := hdb.ok ho (by omega)
  have hat2 := hdb.at ho d 0 n (by omega) hn
  have e02 : 0 / 2 = 0 := rfl
  rw [e02] at hat2
  apply sd_seq; apply sd_of
  · apply ss_asgN
    · apply en_lst (ds := [dCell (cellAt B 0 d n), .int (n : Nat), .list (dNats (kindsAt B 0 d n))])
      · refine ea_consP ?_ (ea_consP ?_ (ea_consP ?_ ea_nil))
        · rw [← hat2.1]
          exact ee_callP (ds := [dBook ⟨B.b, ks2⟩, .int (d : Nat), .int (n : Nat)]) (ea_consP (ee_var rfl) (ea_consP (ee_var rfl) (ea_consP (ee_var rfl) ea_nil))) (r_cell_of hO2 hd2 hn)
        · refine ee_callP (ds := [dBook ⟨B.b, ks2⟩, .int (d : Nat), dCell (cellAt ⟨B.b, ks2⟩ 0 d n)]) (ea_consP (ee_var rfl) (ea_consP (ee_var rfl) (ea_consP ?_ ea_nil))) (r_number_of hO2 hd2 hn)
          rw [hat2.1]
          exact ee_var rfl
        · apply EN.tree
          apply en_lcF
          · exact ei_tup (ds := dNats (kindsAt ⟨B.b, ks2⟩ 0 d n)) (ee_callP (ds := [dBook ⟨B.b, ks2⟩, .int (d : Nat), .int (n : Nat)]) (ea_consP (ee_var rfl) (ea_consP (ee_var rfl) (ea_consP (ee_var rfl) ea_nil))) (r_kinds_on hO2 hd2 hn))
          · rw [← hat2.2]; simp [dNats]
          · unfold dNats; rw [List.length_map, kindsAt_len]; omega
          · rfl
          · intro i x y hx hy
            rw [← hat2.2] at hy
            unfold dNats at hx hy
            rw [List.getElem?_map] at hx hy
            rw [List.getElem?_map] at hy
            obtain ⟨m, hm, rfl⟩ := Option.map_eq_some_iff.mp hx
            rw [hm] at hy
            cases hy
            refine ⟨_, _, gg_name rfl rfl, et_yes, EE.is (ee_opP (ee_var rfl) ee_int (rr_ic (divC (n := 2) (by decide) (by decide)))) ?_, rfl, rfl⟩
            exact congrArg PyData.int (cast_div m 2)
      · exact (show 3 ≤ 1000000 by decide)
    · rfl
    · rfl
  refine sd_pre (sub_freeze (i := 3) rfl) ?_
  apply sd_ret; apply ed_of
  · refine ee_callP (ds := [.list [dCell (cellAt B 0 d n), .int (n : Nat), .list (dNats (kindsAt B 0 d n))], .list [dCell (cellAt B 0 d n), .int (n : Nat), .list (dNats (kindsAt B 0 d n))]]) (ea_consP (ee_var rfl) (ea_consP (EN.tree (en_lst (ea_consP (ee_var rfl) (ea_consP (ee_var rfl) (ea_consP (EN.tree (en_cb (ea_consP (ee_var rfl) ea_nil) (rcn_list rfl))) ea_nil))) (show 3 ≤ 1000000 by decide))) ea_nil)) (r_law_same (okT_list (show 3 ≤ 1000000 by decide) (all3 okT_cell okT_int (okT_natsL (by rw [kindsAt_len]; omega)))))
  · exact ⟨potC p2, rfl, p2, rfl, hp2, rfl⟩
end
end K20
set_option autoImplicit false
set_option Elab.async false
set_option linter.all false
set_option maxRecDepth 100000
set_option maxHeartbeats 4000000
namespace K20
open PySem PySem.Spec PyProof.Rows L2 Fl Bk
local macro_rules | `(tactic| walk_at "sd") => `(tactic| first | assumption | rfl | omega | exact Nat.le_of_ble_eq_true rfl | (constructor <;> omega) | decide | (left; constructor <;> omega) | (right; constructor <;> omega))
local macro_rules | `(tactic| walk_at "fn") => `(tactic| fail "fn")
local macro_rules | `(tactic| walk_at "rc") => `(tactic| first | exact rc_len rfl | exact rc_tuple rfl | exact rc_all | exact rc_any | exact rc_sum | exact rc_int1 | exact rc_min2 | exact rc_max2)
local macro_rules | `(tactic| walk_at "rcn") => `(tactic| first | exact rcn_list rfl)
local macro_rules | `(tactic| walk_at "rr") => `(tactic| first | exact rr_i | exact rr_b | exact rr_eqI | exact rr_neI | exact rr_eqB | exact rr_neB | exact rr_eqS | exact rr_neS | (apply rr_ixT; first | rfl | assumption) | (apply rr_ixL; first | rfl | assumption) | (apply rr_ic; walk_at "sd") | (apply rr_catT; first | (exact List.cons_ne_nil _ _) | assumption; walk_at "sd"))
local macro_rules | `(tactic| walk_at "ea") => `(tactic| first | exact ea_nil | (apply ea_cons; walk_at "ee"; walk_at "ea"))
local macro_rules | `(tactic| walk_at "et") => `(tactic| first | (apply et_test; walk_at "ee") | (apply et_B; walk_at "ee") | (apply et_not; walk_at "et") | exact et_yes | (apply et_andP; walk_at "et"; walk_at "et") | (apply et_orP; walk_at "et"; walk_at "et"))
local macro_rules | `(tactic| walk_at "en") => `(tactic| first | (apply en_lst; walk_at "ea"; walk_at "sd") | (apply en_cb; walk_at "ea"; walk_at "rcn") | (apply en_revO; rfl) | (apply en_revL; walk_at "ee"))
local macro_rules | `(tactic| walk_at "ex") => `(tactic| first | exact ex_nil | (apply ex_n; walk_at "en"; (intro _ z; cases z); walk_at "ex") | (apply ex_t; walk_at "ee"; walk_at "ex"))
local macro_rules | `(tactic| walk_at "eo") => `(tactic| first | exact eo_no | (apply eo_part; walk_at "ee"))
local macro_rules | `(tactic| walk_at "gg") => `(tactic| first | exact gg_name rfl rfl | exact gg_name rfl (by assumption) | (apply gg_tup; walk_at "ggs"; rfl) | (apply gg_lst; walk_at "ggs"; rfl))
local macro_rules | `(tactic| walk_at "ggs") => `(tactic| first | exact ggs_nil | (apply ggs_cons; walk_at "gg"; walk_at "ggs"))
local macro_rules | `(tactic| walk_at "ei") => `(tactic| first | (apply ei_rangeL1; walk_at "ea") | (apply ei_rangeL2; walk_at "ea") | (apply ei_tup; walk_at "ee") | (apply ei_list; walk_at "ee"))
local macro_rules | `(tactic| walk_at "ee") => `(tactic| first
  | exact ee_var rfl
  | exact ee_int
  | exact ee_bl
  | exact ee_non
  | exact ee_str
  | (apply ee_ixO rfl; walk_at "ee"; rfl; first | rfl | assumption)
  | (apply ee_op; walk_at "ee"; walk_at "ee"; walk_at "rr")
  | (apply ee_tup; walk_at "ea"; walk_at "sd")
  | (apply ee_call; walk_at "ea"; walk_at "fn")
  | (apply ee_isi; walk_at "ee"; rfl; rfl)
  | exact ee_lenO rfl
  | exact ee_tupleO rfl
  | (apply ee_cb; walk_at "ea"; walk_at "rc")
  | (apply ee_andP; walk_at "ee"; walk_at "ee")
  | (apply ee_orP; walk_at "ee"; walk_at "ee")
  | (apply ee_notV; walk_at "ee")
  | (apply ee_neg; walk_at "ee")
  | (apply ee_revT; walk_at "ee")
  | (apply ee_slT; walk_at "ee"; walk_at "eo"; walk_at "eo"; walk_at "sd")
  | (apply EN.tree; walk_at "en"))
local macro_rules | `(tactic| walk_at "asg") => `(tactic| (apply sd_seq; apply sd_asg; apply ed_of; walk_at "ee"; refine ⟨⟨_, rfl, rfl⟩, ?_⟩))
local macro_rules | `(tactic| walk_at "asgN") => `(tactic| (apply sd_seq; apply sd_of; apply ss_asgN; walk_at "en"; rfl; rfl))
local macro_rules | `(tactic| walk_at "asgG") => `(tactic| (apply sd_seq; apply sd_of; apply ss_asgG; walk_at "ee"; walk_at "gg"))
local macro_rules | `(tactic| walk_at "par") => `(tactic| (apply sd_seq; apply sd_of; apply ss_parX; walk_at "ex"; decide; rfl; rfl; rfl; rfl))
local macro_rules | `(tactic| walk_at "par3") => `(tactic| (apply sd_seq; apply sd_of; apply ss_par3X; walk_at "ex"; decide; decide; decide; rfl; rfl; rfl; rfl; rfl; rfl))
local macro_rules | `(tactic| walk_at "ret") => `(tactic| (apply sd_ret; apply ed_of; walk_at "ee"))
local macro_rules | `(tactic| walk_at "no") => `(tactic| (apply sd_seq; apply sd_if; apply td_of; walk_at "et"))
local macro_rules | `(tactic| walk_at "drop") => `(tactic| (apply sd_seq; apply sd_drop; apply ed_of; walk_at "ee"))
local macro_rules | `(tactic| walk_at "fn") => `(tactic| exact r_is_integer)
local macro_rules | `(tactic| walk_at "fn") => `(tactic| exact r_is_natural)
local macro_rules | `(tactic| walk_at "fn") => `(tactic| exact r_is_below)
local macro_rules | `(tactic| walk_at "fn") => `(tactic| exact r_is_pair)
local macro_rules | `(tactic| walk_at "fn") => `(tactic| (apply r_power; walk_at "sd"))
local macro_rules | `(tactic| walk_at "fn") => `(tactic| (apply r_is_cell_below; walk_at "sd"))
local macro_rules | `(tactic| walk_at "fn") => `(tactic| (apply r_is_posture; walk_at "sd"; walk_at "sd"))
local macro_rules | `(tactic| walk_at "fn") => `(tactic| exact r_posed)
local macro_rules | `(tactic| walk_at "fn") => `(tactic| (apply r_is_part; assumption))
local macro_rules | `(tactic| walk_at "fn") => `(tactic| (apply r_is_kind_of; assumption; assumption))
local macro_rules | `(tactic| walk_at "fn") => `(tactic| (apply r_is_book; assumption))
local macro_rules | `(tactic| walk_at "fn") => `(tactic| (apply r_check_book; assumption))
local macro_rules | `(tactic| walk_at "fn") => `(tactic| (apply r_check_kind; assumption))
local macro_rules | `(tactic| walk_at "fn") => `(tactic| (apply r_turned_of; assumption))
local macro_rules | `(tactic| walk_at "fn") => `(tactic| (apply r_check_posture; assumption; assumption))
local macro_rules | `(tactic| walk_at "fn") => `(tactic| (apply r_turned; assumption; assumption; assumption))
local macro_rules | `(tactic| walk_at "fn") => `(tactic| (apply r_backward_of; assumption))
local macro_rules | `(tactic| walk_at "fn") => `(tactic| (apply r_backward; assumption))
local macro_rules | `(tactic| walk_at "fn") => `(tactic| exact r_check_depth)
local macro_rules | `(tactic| walk_at "fn") => `(tactic| exact r_check_many)
local macro_rules | `(tactic| walk_at "fn") => `(tactic| (apply r_cells_each_way; assumption))
local macro_rules | `(tactic| walk_at "fn") => `(tactic| (apply r_how_many_cells; assumption))
local macro_rules | `(tactic| walk_at "fn") => `(tactic| (apply r_check_cell; assumption; assumption))
local macro_rules | `(tactic| walk_at "fn") => `(tactic| (apply r_check_number; assumption; walk_at "sd"))
local macro_rules | `(tactic| walk_at "fn") => `(tactic| (apply r_way_to; assumption; assumption; assumption; assumption))
local macro_rules | `(tactic| walk_at "fn") => `(tactic| (apply r_number_in; assumption; assumption; assumption; assumption))
local macro_rules | `(tactic| walk_at "fn") => `(tactic| (apply r_number_of; assumption; assumption; assumption))
local macro_rules | `(tactic| walk_at "fn") => `(tactic| (apply r_cell_in; assumption; assumption; assumption; assumption))
local macro_rules | `(tactic| walk_at "fn") => `(tactic| (apply r_cell_of; assumption; assumption; assumption))
local macro_rules | `(tactic| walk_at "fn") => `(tactic| (apply r_kinds_on; assumption; assumption; assumption))
local macro_rules | `(tactic| walk_at "fn") => `(tactic| (apply r_thread_of; assumption; assumption; assumption; assumption))
local macro_rules | `(tactic| walk_at "fn") => `(tactic| (apply r_thread; assumption; assumption; assumption; assumption))
local macro_rules | `(tactic| walk_at "fn") => `(tactic| (apply r_first_cell; assumption; assumption))
local macro_rules | `(tactic| walk_at "fn") => `(tactic| (apply r_last_cell; assumption; assumption))
local macro_rules | `(tactic| walk_at "fn") => `(tactic| (apply r_whole; assumption; assumption; assumption))
local macro_rules | `(tactic| walk_at "fn") => `(tactic| (apply r_numbered; assumption; assumption))
local macro_rules | `(tactic| walk_at "fn") => `(tactic| (apply r_begun_of; assumption; assumption))
local macro_rules | `(tactic| walk_at "fn") => `(tactic| (apply r_begun_at; assumption; assumption))
local macro_rules | `(tactic| walk_at "fn") => `(tactic| (apply r_law_same; assumption))
local macro_rules | `(tactic| walk_at "fn") => `(tactic| exact r_law_posed)
local macro_rules | `(tactic| walk_at "fn") => `(tactic| (apply r_law_picture; assumption))
local macro_rules | `(tactic| walk_at "fn") => `(tactic| (apply r_law_figures; walk_at "sd"; walk_at "sd"; walk_at "sd"))
local macro_rules | `(tactic| walk_at "fn") => `(tactic| (apply r_law_way; assumption; assumption; assumption))
local macro_rules | `(tactic| walk_at "fn") => `(tactic| (apply r_law_carried; assumption; assumption; walk_at "sd"))
local macro_rules | `(tactic| walk_at "fn") => `(tactic| (apply r_law_begun; assumption; assumption))
section
variable {P : Program} {w : World} {K : PySem.W.Frag} {mg : Str → Option Value} {base : Heap}
/-! ### the law -/
theorem turned_zero {B : Book} : Bk.turned B 0 0 = B := by
  unfold Bk.turned
  have e : posePart B.b 0 0 = id := by
    funext p
    rfl
  have e2 : (fun row : Bk.Row => row.map (posePart B.b 0 0)) = id := by
    funext row
    rw [e, List.map_id]; rfl
  rw [e2, List.map_id]
theorem pict_zero {B : Book} {r m : Nat} : pict B r m 0 = Bk.turned B r m := rfl
theorem pict_back {B : Book} : pict B 0 0 1 = Bk.backward B := by
  show Bk.backward (Bk.turned B 0 0) = _
  rw [turned_zero]
theorem sml_book {B : Book} (ho : BookOk B) : ∃ m, Sml 4 m (dBook B) ∧ m ≤ 1048576 := by
  have hb := ho.b2
  have h1 : ∀ r ∈ B.kinds, Sml 2 (9 * (3 * (10 + 1) + 1)) (dRow r) := fun r hr => by
    have hro := ho.rows r hr
    refine sml_tuple (n := 1) (m := 3 * (10 + 1)) (l := 9) (fun x hx => ?_) (by rw [List.length_map]; exact RowOk.few hro hb.2)
    obtain ⟨p, hp, rfl⟩ := List.mem_map.mp hx
    obtain ⟨g1, g2, g3, g4, g5⟩ := hro.inn p hp
    have hf := ho.few
    exact sml_tuple (n := 0) (m := 10) (l := 3) (all3 (sml_int g1 (by omega)) (sml_int g3 (by omega)) (sml_int (by omega) (by omega))) (Nat.le_refl _)
  have h2 : Sml 3 (100 * (9 * (3 * (10 + 1) + 1) + 1)) (.tuple (B.kinds.map dRow)) := sml_tuple (n := 2) (l := 100) (fun x hx => by
    obtain ⟨r, hr, rfl⟩ := List.mem_map.mp hx
    exact h1 r hr) (by rw [List.length_map]; exact ho.few)
  refine ⟨2 * (100 * (9 * (3 * (10 + 1) + 1) + 1) + 1), sml_tuple (n := 3) (l := 2) (all2 ((sml_int (by omega) (by omega)).mono (by decide) (by decide)) h2) (Nat.le_refl _), by decide⟩
theorem ed_draw_ok {p : Pot} (hp : PotOk p) {many : Nat} (h : 0 < many) : PotOk (drawP p many) ∧ drawV p many < many := ⟨drawP_ok hp, drawV_lt h⟩
theorem run_law (c : Cn K mg base) {fd : FuncData} (F : FnP K "law" s_law (He.ga K "law") fd) : FlL.RunG P w K mg base 12 (He.ga K "law") fd ps_law (spL K) := by
  refine FlL.run_of F sc_law (fun vs H Q E h => by obtain ⟨_, _, rfl, _⟩ := h; rfl) fun cdv A outer s H vs Q E hg hr h => ?_
  refine ⟨_, PSs.nox ((pss_cons (ps_set (i := 1) sc_law.nd rfl (by first | exact Or.inl rfl | exact Or.inr rfl) (pe_has (ok_law_pot c) hr (pa_cons (pv 0) pa_nil)))
    (pss_cons (ps_for PassesOwn.never rfl (FlRange.pi_rangeL1 (by rfl) c.f_range (pa_cons pe_int pa_nil)) (pg_name (i := 2) sc_law.nd rfl (by first | exact Or.inl rfl | exact Or.inr rfl)) (pss_cons (ps_set (i := 3) sc_law.nd rfl (by first | exact Or.inl rfl | exact Or.inr rfl) (pe_has (ok_law_drawn_book c) hr (pa_cons (pv 1) (pa_cons pe_int pa_nil))))
    (pss_cons (ps_par (i := 7) (j := 8) rfl sc_law.nd rfl rfl (by decide) rfl rfl (pa_cons (pe_tup (pa_cons (pe_has (ok_law_draw c) hr (pa_cons (pv 1) (pa_cons pe_int pa_nil))) (pa_cons (pe_has (ok_law_draw c) hr (pa_cons (pv 1) (pa_cons pe_int pa_nil))) (pa_cons (pe_has (ok_law_draw c) hr (pa_cons (pv 1) (pa_cons pe_int pa_nil))) pa_nil)))) (pa_cons (pe_callB (cRepr K hg (hu65 hr) rfl) (by rfl) c.f_repr b_repr (pa_cons (pv 3) pa_nil)) pa_nil)) rfl)
    (pss_cons (ps_par (i := 9) (j := 10) rfl sc_law.nd rfl rfl (by decide) rfl rfl (pa_cons (pe_has (ok_law_picture c) hr (pa_cons (pv 3) (pa_cons (pe_ix (ixT K rfl) (pv 7) pe_int (fun _ _ => rfl)) (pa_cons (pe_ix (ixT K rfl) (pv 7) pe_int (fun _ _ => rfl)) (pa_cons pe_int pa_nil))))) (pa_cons (pe_has (ok_law_picture c) hr (pa_cons (pv 3) (pa_cons pe_int (pa_cons pe_int (pa_cons pe_int pa_nil))))) pa_nil)) rfl)
    (pss_cons (ps_set (i := 4) sc_law.nd rfl (by first | exact Or.inl rfl | exact Or.inr rfl) (pe_has (ok_law_picture c) hr (pa_cons (pv 3) (pa_cons (pe_ix (ixT K rfl) (pv 7) pe_int (fun _ _ => rfl)) (pa_cons (pe_ix (ixT K rfl) (pv 7) pe_int (fun _ _ => rfl)) (pa_cons (pe_ix (ixT K rfl) (pv 7) pe_int (fun _ _ => rfl)) pa_nil))))))
    (pss_cons (ps_if (pt_not (pt_val (pe_has (ok_law_same c 8) hr (pa_cons (pe_lst (pa_cons (pe_has (ok_turned c) hr (pa_cons (pv 3) (pa_cons (pe_slice (slT K rfl) (pv 7) po_none (po_some pe_int)) pa_nil))) (pa_cons (pe_has (ok_backward c) hr (pa_cons (pv 3) pa_nil)) (pa_cons (pe_hasK (okK_turned c) hr (pk_cons (pe_slice (slT K rfl) (pv 7) po_none (po_some pe_int)) (pk_cons (pv 3) pk_nil))) pa_nil)))) (pa_cons (pe_lst (pa_cons (pv 9) (pa_cons (pv 10) (pa_cons (pv 9) pa_nil)))) pa_nil))))) (pss_one (ps_ret pe_bl)) pss_nil)
    (pss_cons (ps_if (pt_not (pt_val (pe_has (ok_law_same c 8) hr (pa_cons (pe_lst (pa_cons (pe_ifExp (pt_cmpR op_eq (pe_ix (ixT K rfl) (pv 7) pe_int (fun _ _ => rfl)) pe_int (nomark _)) (pe_has (ok_backward c) hr (pa_cons (pv 9) pa_nil)) (pv 9)) (pa_cons (pe_has (ok_is_book c) hr (pa_cons (pv 4) pa_nil)) pa_nil))) (pa_cons (pe_lst (pa_cons (pv 4) (pa_cons pe_bl pa_nil))) pa_nil))))) (pss_one (ps_ret pe_bl)) pss_nil)
    (pss_cons (ps_if (pw_or (pt_not (pt_val (pe_has (ok_law_numbers_right c) hr (pa_cons (pv 1) (pa_cons (pv 3) (pa_cons (pv 4) (pa_cons (pv 7) pa_nil))))))) (pw_or1 (pt_not (pt_val (pe_has (ok_law_whole_right c) hr (pa_cons (pv 1) (pa_cons (pv 3) (pa_cons (pv 4) (pa_cons (pv 7) pa_nil))))))))).pt (pss_one (ps_ret pe_bl)) pss_nil)
    (pss_cons (ps_set (i := 5) sc_law.nd rfl (by first | exact Or.inl rfl | exact Or.inr rfl) (pe_has (ok_law_draw c) hr (pa_cons (pv 1) (pa_cons (pe_callB (cLen K rfl) (by rfl) c.f_len b_len (pa_cons (pe_ix (ixT K rfl) (pv 3) pe_int (fun _ _ => rfl)) pa_nil)) pa_nil))))
    (pss_cons (ps_set (i := 6) sc_law.nd rfl (by first | exact Or.inl rfl | exact Or.inr rfl) (pe_has (ok_law_begun c) hr (pa_cons (pv 3) (pa_cons (pv 5) pa_nil))))
    (pss_cons (ps_if (pw_and (pt_cmpR op_eq (pe_ix (ixT K rfl) (pv 7) pe_int (fun _ _ => rfl)) pe_int (nomark _)) (pw_and1 (pt_not (pt_val (pe_has (ok_law_same c 8) hr (pa_cons (pe_has (ok_begun_at c) hr (pa_cons (pv 4) (pa_cons (pv 5) pa_nil))) (pa_cons (pe_has (ok_law_picture c) hr (pa_cons (pv 6) (pa_cons (pe_ix (ixT K rfl) (pv 7) pe_int (fun _ _ => rfl)) (pa_cons (pe_ix (ixT K rfl) (pv 7) pe_int (fun _ _ => rfl)) (pa_cons pe_int pa_nil))))) pa_nil))))))).pt (pss_one (ps_ret pe_bl)) pss_nil)
    (pss_cons (ps_if (pw_or (pt_not (pt_val (pe_has (ok_law_same c 8) hr (pa_cons (pe_hasK (okK_begun_at c) hr (pk_cons (pv 5) (pk_cons (pv 4) pk_nil))) (pa_cons (pe_has (ok_law_begun c) hr (pa_cons (pv 4) (pa_cons (pv 5) pa_nil))) pa_nil))))) (pw_or1 (pt_not (pt_val (pe_has (ok_law_names_right c) hr (pa_cons (pv 1) (pa_cons (pv 3) pa_nil))))))).pt (pss_one (ps_ret pe_bl)) pss_nil)
    (pss_one (ps_if (pt_cmpR op_ne (pe_callB (cRepr K hg (hu65 hr) rfl) (by rfl) c.f_repr b_repr (pa_cons (pv 3) pa_nil)) (pv 8) (nomark _)) (pss_one (ps_ret pe_bl)) pss_nil))))))))))))))
    (pss_one (ps_ret pe_bl))))), ?_⟩
  refine law_body (n := 10) rfl (fun ns => ?_) H vs Q E h
  show SD K _ [.d (.list (ns.map PyData.int)), .any, .any, .any, .any, .any, .any, .any, .any, .any, .any] _
  apply sd_seq; apply sd_of
  · apply ss_asgN
    · exact en_callW (f := f_law_pot) (ea_consP (ee_var rfl) ea_nil) ⟨ns, rfl, rfl⟩
    · rfl
    · rfl
  apply sd_seq
  refine sd_for (ds := rangeD 0 6) (e0 := [.d (.list (ns.map PyData.int)), .o false (potC (pot0 ns)), .any, .any, .any, .any, .any, .any, .any, .any, .any]) (ei_rangeL1 (n := 6) (ea_consP ee_int ea_nil))
    (fun i e => ∃ (p : Pot) (v2 v3 v4 v5 v6 v7 v8 v9 v10 : S), PotOk p ∧ S.isPm v2 = false ∧ S.isPm v3 = false ∧ S.isPm v4 = false ∧ S.isPm v5 = false ∧ S.isPm v6 = false ∧ S.isPm v7 = false ∧ S.isPm v8 = false ∧ S.isPm v9 = false ∧ S.isPm v10 = false ∧
      e = [.d (.list (ns.map PyData.int)), .o false (potC p), v2, v3, v4, v5, v6, v7, v8, v9, v10]) ⟨pot0 ns, .any, .any, .any, .any, .any, .any, .any, .any, .any, ⟨Int.le_refl _, show (0 : Int) ≤ 17 by decide, show (17 : Int) < 4294967291 by decide⟩, rfl, rfl, rfl, rfl, rfl, rfl, rfl, rfl, rfl, rfl⟩ ?_ ?_
  · rintro i dd e hdd ⟨p, v2, v3, v4, v5, v6, v7, v8, v9, v10, hp, h2, h3, h4, h5, h6, h7, h8, h9, h10, rfl⟩
    refine ⟨_, _, gg_name rfl h2, ?_⟩
    -- book
    apply sd_seq; apply sd_asg
    apply ed_callN (ds := [.int 8]) rfl (ea_consP ee_int ea_nil) rfl
    · exact ⟨p, rfl, hp, rfl⟩
    rintro c' bd ⟨p, B, rfl, hp, rfl, ho, h8k⟩
    refine ⟨⟨v3, rfl, h3⟩, ?_⟩
    obtain ⟨wm, hsm, hwm⟩ := sml_book ho
    have h0 := kind0 ho
    have hslim := slim_of ho
    -- way, kept
    obtain ⟨o1, d1⟩ := ed_draw_ok hp (many := 4) (by decide)
    obtain ⟨o2, d2⟩ := ed_draw_ok o1 (many := 2) (by decide)
    obtain ⟨o3, d3⟩ := ed_draw_ok o2 (many := 2) (by decide)
    apply sd_seq; apply sd_of
    · apply ss_parX (s := v7) (s' := v8)
      · apply ex_t
        · exact ee_tup (ds := [.int (drawV p 4 : Nat), .int (drawV (drawP p 4) 2 : Nat), .int (drawV (drawP (drawP p 4) 2) 2 : Nat)]) (ea_cons (ee_draw (many := 4) rfl ee_int hp (by decide) (small_lt (by decide))) (ea_cons (ee_draw (many := 2) rfl ee_int o1 (by decide) (small_lt (by decide))) (ea_cons (ee_draw (many := 2) rfl ee_int o2 (by decide) (small_lt (by decide))) ea_nil))) (show 3 ≤ 1000000 by decide)
        apply ex_t
        · exact ee_repr (ds := [.int (B.b : Nat), .tuple (B.kinds.map dRow)]) (ee_var rfl) hsm (by decide) hwm
        exact ex_nil
      · decide
      · rfl
      · exact h7
      · rfl
      · exact h8
    generalize drawV p 4 = r at d1 ⊢
    generalize drawV (drawP p 4) 2 = m at d2 ⊢
    generalize drawV (drawP (drawP p 4) 2) 2 = bk at d3 ⊢
    generalize drawP (drawP (drawP p 4) 2) 2 = q at o3 ⊢
    have hT := pict_ok ho r m bk
    have hTl : (pict B r m bk).kinds.length = B.kinds.length := pict_len
    -- posed_v, back
    apply sd_seq; apply sd_of
    · apply ss_parX (s := v9) (s' := v10)
      · apply ex_t
        · exact ee_callP (ds := [dBook B, .int (r : Nat), .int (m : Nat), .int ((0 : Nat) : Int)]) (ea_consP (ee_var rfl) (ea_consP (ee_opP (x := .tuple [.int (r : Nat), .int (m : Nat), .int (bk : Nat)]) (ee_var rfl) ee_int (rr_ixT rfl)) (ea_consP (ee_opP (x := .tuple [.int (r : Nat), .int (m : Nat), .int (bk : Nat)]) (ee_var rfl) ee_int (rr_ixT rfl)) (ea_consP ee_int ea_nil)))) (r_law_picture hslim)
        apply ex_t
        · exact ee_callP (ds := [dBook B, .int ((0 : Nat) : Int), .int ((0 : Nat) : Int), .int ((1 : Nat) : Int)]) (ea_consP (ee_var rfl) (ea_consP ee_int (ea_consP ee_int (ea_consP ee_int ea_nil)))) (r_law_picture hslim)
        exact ex_nil
      · decide
      · rfl
      · exact h9
      · rfl
      · exact h10
    -- there
    apply sd_seq; apply sd_asg; apply ed_of
    · exact ee_callP (ds := [dBook B, .int (r : Nat), .int (m : Nat), .int (bk : Nat)]) (ea_consP (ee_var rfl) (ea_consP (ee_opP (x := .tuple [.int (r : Nat), .int (m : Nat), .int (bk : Nat)]) (ee_var rfl) ee_int (rr_ixT rfl)) (ea_consP (ee_opP (x := .tuple [.int (r : Nat), .int (m : Nat), .int (bk : Nat)]) (ee_var rfl) ee_int (rr_ixT rfl)) (ea_consP (ee_opP (x := .tuple [.int (r : Nat), .int (m : Nat), .int (bk : Nat)]) (ee_var rfl) ee_int (rr_ixT rfl)) ea_nil)))) (r_law_picture hslim)
    refine ⟨⟨v4, rfl, h4⟩, ?_⟩
    rw [pict_zero, pict_back]
    show SD K _ [.d (.list (ns.map PyData.int)), .o false (potC q), .d dd, .d (dBook B), .d (dBook (pict B r m bk)), v5, v6, .d (dTri r m bk), .d (.str (dBook B).shown), .d (dBook (Bk.turned B r m)), .d (dBook (Bk.backward B))] _
    have hTu := ho.turned r m
    have hBa := ho.backward
    have hslT := slim_of hTu
    have hslB := slim_of hBa
    have hslTT := slim_of hT
    have hpos : EE K (tSl (rSlT K) (tVar 7) tNoPart (tPart (tC (.int 2)))) [.d (.list (ns.map PyData.int)), .o false (potC q), .d dd, .d (dBook B), .d (dBook (pict B r m bk)), v5, v6, .d (dTri r m bk), .d (.str (dBook B).shown), .d (dBook (Bk.turned B r m)), .d (dBook (Bk.backward B))] [.d (.list (ns.map PyData.int)), .o false (potC q), .d dd, .d (dBook B), .d (dBook (pict B r m bk)), v5, v6, .d (dTri r m bk), .d (.str (dBook B).shown), .d (dBook (Bk.turned B r m)), .d (dBook (Bk.backward B))] (dPos r m) :=
      ee_slT (ds := [.int (r : Nat), .int (m : Nat), .int (bk : Nat)]) (lo := none) (hi := some 2) (ee_var rfl) eo_no (eo_part ee_int) (fun h => absurd (show (2 : Nat) = 3 from h.2) (by decide))
    -- turned, backward
    apply sd_seq; apply sd_ifF
    · apply et_not; apply et_B
      refine ee_callP (ds := [.list [dBook (Bk.turned B r m), dBook (Bk.backward B), dBook (Bk.turned B r m)], .list [dBook (Bk.turned B r m), dBook (Bk.backward B), dBook (Bk.turned B r m)]]) (ea_consP (EN.tree (en_lst (ea_consP ?_ (ea_consP ?_ (ea_consP ?_ ea_nil))) (show 3 ≤ 1000000 by decide))) (ea_consP (EN.tree (en_lst (ea_consP (ee_var rfl) (ea_consP (ee_var rfl) (ea_consP (ee_var rfl) ea_nil))) (show 3 ≤ 1000000 by decide))) ea_nil)) (r_law_same (okT_list (show 3 ≤ 1000000 by decide) (all3 (okT_book (n := 2) hslT) (okT_book (n := 2) hslB) (okT_book (n := 2) hslT))))
      · exact ee_callP (ds := [dBook B, dPos r m]) (ea_consP (ee_var rfl) (ea_consP hpos ea_nil)) (r_turned ho d1 d2)
      · exact ee_callP (ds := [dBook B]) (ea_consP (ee_var rfl) ea_nil) (r_backward ho)
      · exact ee_callW (ds := [dPos r m, dBook B]) (ea_consP hpos (ea_consP (ee_var rfl) ea_nil)) rfl (fun i hi => show i < 2 by simp at hi; omega) (r_turned ho d1 d2)
    · rfl
    apply sd_next
    -- the picture, a book
    apply sd_seq; apply sd_ifF
    · apply et_not; apply et_B
      refine ee_callP (ds := [.list [dBook (pict B r m bk), .bool true], .list [dBook (pict B r m bk), .bool true]]) (ea_consP (EN.tree (en_lst (ea_consP ?_ (ea_consP ?_ ea_nil)) (show 2 ≤ 1000000 by decide))) (ea_consP (EN.tree (en_lst (ea_consP (ee_var rfl) (ea_consP ee_bl ea_nil)) (show 2 ≤ 1000000 by decide))) ea_nil)) (r_law_same (okT_list (show 2 ≤ 1000000 by decide) (all2 (okT_book (n := 2) hslTT) okT_bool)))
      · refine ee_ifP (b := decide ((bk : Int) = 1)) (et_test (ee_opP (ee_opP (x := .tuple [.int (r : Nat), .int (m : Nat), .int (bk : Nat)]) (ee_var rfl) ee_int (rr_ixT rfl)) ee_int rr_eqI)) (fun z => ?_) (fun z => ?_)
        · have e1 : bk = 1 := by have := of_decide_eq_true z; omega
          refine EE.is (ee_callP (ds := [dBook (Bk.turned B r m)]) (ea_consP (ee_var rfl) ea_nil) (r_backward hTu)) ?_
          unfold pict
          rw [if_pos e1]
        · have e1 : ¬ bk = 1 := fun e => by have := of_decide_eq_false z; omega
          refine EE.is (ee_var rfl) ?_
          unfold pict
          rw [if_neg e1]
      · exact ee_callP (ds := [dBook (pict B r m bk)]) (ea_consP (ee_var rfl) ea_nil) (r_is_book hT)
    · rfl
    apply sd_next
    -- numbers, the whole
    apply sd_seq
    apply sd_if
    apply td_or; apply td_not; apply td_B
    apply ed_callN (ds := [dBook B, dBook (pict B r m bk), dTri r m bk]) rfl (ea_consP (ee_var rfl) (ea_consP (ee_var rfl) (ea_consP (ee_var rfl) ea_nil))) rfl
    · exact ⟨q, B, r, m, bk, rfl, o3, rfl, ho⟩
    rintro c' bd ⟨q, rfl, o3, rfl⟩
    refine ⟨true, rfl, ?_⟩
    show TD K _ _ _
    apply td_not; apply td_B
    apply ed_callN (ds := [dBook B, dBook (pict B r m bk), dTri r m bk]) rfl (ea_consP (ee_var rfl) (ea_consP (ee_var rfl) (ea_consP (ee_var rfl) ea_nil))) rfl
    · exact ⟨q, B, r, m, bk, rfl, o3, rfl, ho⟩
    rintro c' bd ⟨q, rfl, o3, rfl⟩
    refine ⟨true, rfl, ?_⟩
    show SD K _ _ _
    apply sd_next
    -- kind
    have hkl := drawV_lt (p := q) h0
    have o4 := drawP_ok (many := B.kinds.length) o3
    have hf := ho.few
    apply sd_seq; apply sd_asg; apply ed_of
    · refine ee_draw (many := B.kinds.length) rfl (EE.is (ee_cb (ea_consP (ee_opP (x := .tuple [.int (B.b : Nat), .tuple (B.kinds.map dRow)]) (ee_var rfl) ee_int (rr_ixT rfl)) ea_nil) (rc_len rfl)) ?_) o3 h0 (small_lt (by omega))
      rw [List.length_map]
    refine ⟨⟨v5, rfl, h5⟩, ?_⟩
    generalize drawV q B.kinds.length = k at hkl ⊢
    generalize drawP q B.kinds.length = q at o4 ⊢
    have hkT : k < (pict B r m bk).kinds.length := by rw [hTl]; exact hkl
    have hslb := slim_begun ho hkl
    have hslbT := slim_begun hT hkT
    -- begun
    apply sd_seq; apply sd_asg; apply ed_of
    · exact ee_callP (ds := [dBook B, .int (k : Nat)]) (ea_consP (ee_var rfl) (ea_consP (ee_var rfl) ea_nil)) (r_law_begun ho hkl)
    refine ⟨⟨v6, rfl, h6⟩, ?_⟩
    apply sd_seq; apply sd_ifF
    · refine et_andQ (a := decide ((bk : Int) = 0)) (b := !true) (et_test (ee_opP (ee_opP (x := .tuple [.int (r : Nat), .int (m : Nat), .int (bk : Nat)]) (ee_var rfl) ee_int (rr_ixT rfl)) ee_int rr_eqI)) (fun z => ?_)
      have hb0 : bk = 0 := by have := of_decide_eq_true z; omega
      have eb : begun (pict B r m bk) k = pict (begun B k) r m 0 := by
        rw [hb0]
        exact begun_turned
      refine et_not (et_B (ee_callP (ds := [dBook (begun (pict B r m bk) k), dBook (begun (pict B r m bk) k)]) (ea_consP ?_ (ea_consP ?_ ea_nil)) (r_law_same (okT_book (n := 3) hslbT))))
      · exact ee_callP (ds := [dBook (pict B r m bk), .int (k : Nat)]) (ea_consP (ee_var rfl) (ea_consP (ee_var rfl) ea_nil)) (r_begun_at hT hkT)
      · rw [eb]
        exact ee_callP (ds := [dBook (begun B k), .int (r : Nat), .int (m : Nat), .int ((0 : Nat) : Int)]) (ea_consP (ee_var rfl) (ea_consP (ee_opP (x := .tuple [.int (r : Nat), .int (m : Nat), .int (bk : Nat)]) (ee_var rfl) ee_int (rr_ixT rfl)) (ea_consP (ee_opP (x := .tuple [.int (r : Nat), .int (m : Nat), .int (bk : Nat)]) (ee_var rfl) ee_int (rr_ixT rfl)) (ea_consP ee_int ea_nil)))) (r_law_picture hslb)
    · rw [Bool.not_true, Bool.and_false]
    apply sd_next
    -- begun there, names
    apply sd_seq
    apply sd_if
    apply td_or; apply td_not; apply td_B
    apply ed_of
    · refine ee_callP (ds := [dBook (begun (pict B r m bk) k), dBook (begun (pict B r m bk) k)]) (ea_consP ?_ (ea_consP ?_ ea_nil)) (r_law_same (okT_book (n := 3) hslbT))
      · exact ee_callW (ds := [.int (k : Nat), dBook (pict B r m bk)]) (ea_consP (ee_var rfl) (ea_consP (ee_var rfl) ea_nil)) rfl (fun i hi => show i < 2 by simp at hi; omega) (r_begun_at hT hkT)
      · exact ee_callP (ds := [dBook (pict B r m bk), .int (k : Nat)]) (ea_consP (ee_var rfl) (ea_consP (ee_var rfl) ea_nil)) (r_law_begun hT hkT)
    refine ⟨true, rfl, ?_⟩
    show TD K _ _ _
    apply td_not; apply td_B
    apply ed_callN (ds := [dBook B]) rfl (ea_consP (ee_var rfl) ea_nil) rfl
    · exact ⟨q, B, rfl, o4, rfl, ho⟩
    rintro c' bd ⟨q, rfl, o4, rfl⟩
    refine ⟨true, rfl, ?_⟩
    show SD K _ _ _
    apply sd_next
    -- the book is as it was
    apply sd_ifF
    · apply et_test
      exact ee_opP (ee_repr (ds := [.int (B.b : Nat), .tuple (B.kinds.map dRow)]) (ee_var rfl) hsm (by decide) hwm) (ee_var rfl) rr_neS
    · show (!decide ((dBook B).shown = (dBook B).shown)) = false
      rw [decide_eq_true rfl]; rfl
    apply sd_next
    exact ⟨q, .d dd, .d (dBook B), .d (dBook (pict B r m bk)), .d (.int (k : Nat)), .d (dBook (begun B k)), .d (dTri r m bk), .d (.str (dBook B).shown), .d (dBook (Bk.turned B r m)), .d (dBook (Bk.backward B)), o4, rfl, rfl, rfl, rfl, rfl, rfl, rfl, rfl, rfl, rfl⟩
  · rintro e ⟨p, v2, v3, v4, v5, v6, v7, v8, v9, v10, hp, h2, h3, h4, h5, h6, h7, h8, h9, h10, rfl⟩
    apply sd_ret; apply ed_of ee_bl
    rfl
end
end K20
set_option autoImplicit false
set_option Elab.async false
set_option linter.all false
set_option maxRecDepth 100000
set_option maxHeartbeats 0
open PySem PySem.W PySem.Calls PyProof.Rows
theorem PySem.Challenge.cw_wholeamounts_k20_whole_threads_of_pictur_holds : PySem.Challenge.rw_wholeamounts_k20_whole_threads_of_pictur.Holds := by
  w_on; o_law
  refine HandSHeadRun.head_any (r := OpenLaw.row PySem.Challenge.rw_wholeamounts_k20_whole_threads_of_pictur) (q := view (OpenLaw.row PySem.Challenge.rw_wholeamounts_k20_whole_threads_of_pictur).prog [70]) (H := K20.hk) (ob := K20.ob) (M := 4000) (loose := K20.loose)
    (d := HandSHeadRun.topDef (OpenLaw.row PySem.Challenge.rw_wholeamounts_k20_whole_threads_of_pictur).prog 70) (kwd := []) K20.ob_eq (by kernel_rfl) (fun s => by kernel_rfl) K20.run (by kernel_rfl) (by kernel_rfl) (by kernel_rfl) (by rfl) (by first | assumption | decide +kernel) (by decide +kernel)
    ⟨rfl, rfl, rfl, rfl, rfl, by decide +kernel⟩ ?hw ?hc
  case hw => w_witness2
  case hc =>
    refine FlL.walk_ofG (l := PySem.Challenge.rw_wholeamounts_k20_whole_threads_of_pictur) (n := 63) (k := 12) (x := "script") rfl (by decide) (by kernel_rfl) ⟨rfl, by decide, by decide⟩ ?F
    intro w mg fa h Y G hmg0
    obtain ⟨K, KX, c⟩ := Y
    have hmg : mg ("law" : PySem.Str) = some (.ref fa) := by
      have e : (HandSHeadRun.topDef (OpenLaw.row PySem.Challenge.rw_wholeamounts_k20_whole_threads_of_pictur).prog 70).name = ("law" : PySem.Str) := by kernel_rfl
      rw [← e]
      exact hmg0
    have cc : K20.Cn K mg h := ⟨c, KX, G⟩
    obtain ⟨fd, F⟩ := cc.d_law
    have e := hmg.symm.trans cc.g_law
    cases e
    have b := L2.FunD.bindsA (ps := ["script"]) F fun _ _ _ _ _ _ us hl => match us, hl with | [_], _ => rfl
    exact ⟨K, fd, Fl.spL K, KX, fun s v => b s [v] rfl, fun H a ns _ hS => ⟨a, ns, rfl, hS, fun _ => rfl⟩, fun base kin hns => K20.run_law ⟨c, kin, hns⟩ F⟩
