import PyProof.Rows.All
import Wide.All
import OpenK.AllK
import Wide.FinOn
import HandS.ForMost
import HandS.Evl
import HandS.TupAny
import HandS.Style
import HandS.Deep
import HandS.SortOrd
import HandS.SortRule
import KE.DataMinMax
import KE.SortData
import KE.DataCmp
import HandS.Conv
import HandS.IsInst
import PyProof.DictUpdate
import HandS.SetKeys
import HandS.Strs
import HandS.More
import HandS.Iter
import HandS.Text
import KE.KIsAll
import KE.KExcIs
import HandS.Exc
import HandS.ExcOwn
import HandS.ExcInit
import HandS.ExcIs
import HandS.WordsExc
import HandS.TryOnly
import HandS.Codes
import HandS.SetFor
import PySem.Challenge.RW_chartertold_k15_seals_that_wear
set_option Elab.async false
set_option linter.all false
set_option maxRecDepth 100000
set_option maxHeartbeats 4000000

namespace VL
open PySem PySem.Spec PyProof.Rows L2
open Evl (Ex)

/-! ### plain data -/
inductive D where
  | non | bl (b : Bool) | int (i : Int) | str (s : Str)
  | tup (xs : List D) | lst (xs : List D) | fl (xs : List D) | ft (xs : List D)
  | dk (es : List (Key × D)) | dt (es : List (List Key × D))
  deriving Inhabited

variable {K : PySem.W.Frag}
mutual
inductive Rp (K : PySem.W.Frag) (G : Hp) : V → D → Prop
  | non : Rp K G .non .non
  | bl (b : Bool) : Rp K G (.bl b) (.bl b)
  | int (i : Int) : Rp K G (.int i) (.int i)
  | str (x : Str) : Rp K G (.str x) (.str x)
  | lst {a : Addr} {vs : List V} {ds : List D} : G a = some (.lst vs) → RpL K G vs ds → Rp K G (.ref a) (.lst ds)
  | fl {a : Addr} {vs : List V} {ds : List D} : SqL K G a vs → RpL K G vs ds → Rp K G (.ref a) (.fl ds)
  | tup {a : Addr} {vs : List V} {ds : List D} : G a = some (.tup vs) → RpL K G vs ds → Rp K G (.ref a) (.tup ds)
  | ft {a : Addr} {vs : List V} {ds : List D} : SqT K G a vs → RpL K G vs ds → Rp K G (.ref a) (.ft ds)
  | dk {a : Addr} {kvs : List (Key × V)} {es : List (Key × D)} : Rd G a (.dK kvs) → RpK K G kvs es → Rp K G (.ref a) (.dk es)
  | dt {a : Addr} {kvs : List (List Key × V)} {es : List (List Key × D)} : G a = some (.dT kvs) → RpT K G kvs es → Rp K G (.ref a) (.dt es)
inductive RpL (K : PySem.W.Frag) (G : Hp) : List V → List D → Prop
  | nil : RpL K G [] []
  | cons {v : V} {d : D} {vs : List V} {ds : List D} : Rp K G v d → RpL K G vs ds → RpL K G (v :: vs) (d :: ds)
inductive RpK (K : PySem.W.Frag) (G : Hp) : List (Key × V) → List (Key × D) → Prop
  | nil : RpK K G [] []
  | cons {k : Key} {v : V} {d : D} {vs : List (Key × V)} {ds : List (Key × D)} : Rp K G v d → RpK K G vs ds → RpK K G ((k, v) :: vs) ((k, d) :: ds)
inductive RpT (K : PySem.W.Frag) (G : Hp) : List (List Key × V) → List (List Key × D) → Prop
  | nil : RpT K G [] []
  | cons {k : List Key} {v : V} {d : D} {vs : List (List Key × V)} {ds : List (List Key × D)} : Rp K G v d → RpT K G vs ds → RpT K G ((k, v) :: vs) ((k, d) :: ds)
end

theorem rd_mono {G H : Hp} (e : Ex G H) {a : Addr} {u : HO} (h : Rd G a u) : Rd H a u := by
  rcases h with h | ⟨o, h⟩
  · exact .inl (e _ _ h)
  · exact .inr ⟨o, e _ _ h⟩
mutual
theorem Rp.mono {G G' : Hp} (e : Ex G G') : ∀ {v : V} {d : D}, Rp K G v d → Rp K G' v d
  | _, _, .non => .non
  | _, _, .bl b => .bl b
  | _, _, .int i => .int i
  | _, _, .str x => .str x
  | _, _, .lst h r => .lst (e _ _ h) (RpL.mono e r)
  | _, _, .fl h r => .fl (Evl.ex_l e h) (RpL.mono e r)
  | _, _, .tup h r => .tup (e _ _ h) (RpL.mono e r)
  | _, _, .ft h r => .ft (Evl.ex_t e h) (RpL.mono e r)
  | _, _, .dk h r => .dk (rd_mono e h) (RpK.mono e r)
  | _, _, .dt h r => .dt (e _ _ h) (RpT.mono e r)
theorem RpL.mono {G G' : Hp} (e : Ex G G') : ∀ {v : List V} {d : List D}, RpL K G v d → RpL K G' v d
  | _, _, .nil => .nil
  | _, _, .cons h r => .cons (Rp.mono e h) (RpL.mono e r)
theorem RpK.mono {G G' : Hp} (e : Ex G G') : ∀ {v : List (Key × V)} {d : List (Key × D)}, RpK K G v d → RpK K G' v d
  | _, _, .nil => .nil
  | _, _, .cons h r => .cons (Rp.mono e h) (RpK.mono e r)
theorem RpT.mono {G G' : Hp} (e : Ex G G') : ∀ {v : List (List Key × V)} {d : List (List Key × D)}, RpT K G v d → RpT K G' v d
  | _, _, .nil => .nil
  | _, _, .cons h r => .cons (Rp.mono e h) (RpT.mono e r)
end
theorem RpL.length {G : Hp} : ∀ {vs : List V} {ds : List D}, RpL K G vs ds → vs.length = ds.length
  | _, _, .nil => rfl
  | _, _, .cons _ r => by rw [List.length_cons, List.length_cons, RpL.length r]
theorem RpL.append {G : Hp} : ∀ {vs us : List V} {ds es : List D}, RpL K G vs ds → RpL K G us es → RpL K G (vs ++ us) (ds ++ es)
  | _, _, _, _, .nil, h => h
  | _, _, _, _, .cons a r, h => .cons a (RpL.append r h)
theorem RpL.get {G : Hp} : ∀ {vs : List V} {ds : List D} {i : Nat} {d : D}, RpL K G vs ds → ds[i]? = some d → ∃ v, vs[i]? = some v ∧ Rp K G v d
  | _, _, _, _, .nil, h => by simp at h
  | _, _, 0, _, .cons a r, h => by simp at h; subst h; exact ⟨_, rfl, a⟩
  | _, _, i + 1, _, .cons a r, h => by
    obtain ⟨v, h1, h2⟩ := RpL.get r (by simpa using h)
    exact ⟨v, by simpa using h1, h2⟩
theorem RpL.set {G : Hp} {v : V} {d : D} (h : Rp K G v d) : ∀ {vs : List V} {ds : List D} (i : Nat), RpL K G vs ds → RpL K G (vs.set i v) (ds.set i d)
  | _, _, _, .nil => .nil
  | _, _, 0, .cons _ r => .cons h r
  | _, _, i + 1, .cons a r => .cons a (RpL.set h i r)
theorem RpL.drop {G : Hp} : ∀ {vs : List V} {ds : List D} (n : Nat), RpL K G vs ds → RpL K G (vs.drop n) (ds.drop n)
  | _, _, 0, h => h
  | _, _, _ + 1, .nil => .nil
  | _, _, n + 1, .cons _ r => RpL.drop n r
theorem RpL.take {G : Hp} : ∀ {vs : List V} {ds : List D} (n : Nat), RpL K G vs ds → RpL K G (vs.take n) (ds.take n)
  | _, _, 0, _ => .nil
  | _, _, _ + 1, .nil => .nil
  | _, _, n + 1, .cons a r => .cons a (RpL.take n r)
theorem RpL.getV {G : Hp} : ∀ {vs : List V} {ds : List D} {i : Nat} {v : V}, RpL K G vs ds → vs[i]? = some v → ∃ d, ds[i]? = some d ∧ Rp K G v d
  | _, _, _, _, .nil, h => by simp at h
  | _, _, 0, _, .cons a r, h => by simp at h; subst h; exact ⟨_, rfl, a⟩
  | _, _, i + 1, _, .cons a r, h => by
    obtain ⟨v, h1, h2⟩ := RpL.getV r (by simpa using h)
    exact ⟨v, by simpa using h1, h2⟩

theorem exT {G H : Hp} {a : Addr} {vs : List V} (e : Ex G H) (h : G a = some (.tup vs)) : SqT K H a vs := .inl (.inl (e _ _ h))

/-! ### the draws' dict hidden -/
def hd (aw : Option Addr) (H : Hp) : Hp := fun a => if aw = some a then none else H a
theorem hd_ne {aw : Option Addr} {H : Hp} {a : Addr} (h : aw ≠ some a) : hd aw H a = H a := if_neg h
theorem hd_some {aw : Option Addr} {H : Hp} {a : Addr} {o : HO} (h : hd aw H a = some o) : aw ≠ some a ∧ H a = some o := by
  unfold hd at h
  split at h
  · cases h
  · exact ⟨by assumption, h⟩
theorem hd_le {aw : Option Addr} {H : Hp} : Ex (hd aw H) H := fun _ _ h => (hd_some h).2
theorem hd_new {aw : Option Addr} {H : Hp} {p : Addr} {o : HO} (h : H p = none) : Ex (hd aw H) (hd aw (upd H p o)) := fun a u e => by
  obtain ⟨h1, h2⟩ := hd_some e
  rw [hd_ne h1, upd_ne (ne_of_none h2 h)]
  exact h2

structure Bs where
  aw : Option Addr
  G0 : Hp
  B0 : Hp

inductive Slot where
  | un | fz (d : D) | ow (d : D) | w
  deriving Inhabited
abbrev Rho := List Slot

/-- the object at a is d (a changeable one) -/
def Ob (K : PySem.W.Frag) (G H : Hp) (a : Addr) : D → Prop
  | .lst ds => ∃ vs, H a = some (.lst vs) ∧ RpL K G vs ds
  | .dk es => ∃ kvs, H a = some (.dK kvs) ∧ RpK K G kvs es
  | .dt es => ∃ kvs, H a = some (.dT kvs) ∧ RpT K G kvs es
  | _ => False
theorem Ob.there {G H : Hp} {a : Addr} {d : D} (h : Ob K G H a d) : ∃ o, H a = some o ∧ ∀ G', Ex G G' → G' a = some o → Rp K G' (.ref a) d := by
  cases d with
  | lst ds => obtain ⟨vs, e, r⟩ := h; exact ⟨_, e, fun G' x y => .lst y (r.mono x)⟩
  | dk es => obtain ⟨vs, e, r⟩ := h; exact ⟨_, e, fun G' x y => .dk (.inl y) (r.mono x)⟩
  | dt es => obtain ⟨vs, e, r⟩ := h; exact ⟨_, e, fun G' x y => .dt y (r.mono x)⟩
  | _ => exact h.elim
theorem Ob.mono {G H G' H' : Hp} {a : Addr} {d : D} (h : Ob K G H a d) (e : Ex G G') (k : ∀ o, H a = some o → H' a = some o) : Ob K G' H' a d := by
  cases d with
  | lst ds => obtain ⟨vs, e1, r⟩ := h; exact ⟨_, k _ e1, r.mono e⟩
  | dk es => obtain ⟨vs, e1, r⟩ := h; exact ⟨_, k _ e1, r.mono e⟩
  | dt es => obtain ⟨vs, e1, r⟩ := h; exact ⟨_, k _ e1, r.mono e⟩
  | _ => exact h.elim
/-- an operand: its top object in B, what lies in it in G -/
def Ov (K : PySem.W.Frag) (G B : Hp) (v : V) : D → Prop
  | .lst ds => ∃ a vs, v = .ref a ∧ B a = some (.lst vs) ∧ RpL K G vs ds
  | .dk es => ∃ a kvs, v = .ref a ∧ Rd B a (.dK kvs) ∧ RpK K G kvs es
  | .dt es => ∃ a kvs, v = .ref a ∧ B a = some (.dT kvs) ∧ RpT K G kvs es
  | d => Rp K G v d
theorem Ov.mono {G B G' B' : Hp} {v : V} {d : D} (h : Ov K G B v d) (e : Ex G G') (k : Ex B B') : Ov K G' B' v d := by
  cases d with
  | lst ds => obtain ⟨a, vs, r1, r2, r3⟩ := h; exact ⟨a, vs, r1, k _ _ r2, r3.mono e⟩
  | dk ds => obtain ⟨a, vs, r1, r2, r3⟩ := h; exact ⟨a, vs, r1, rd_mono k r2, r3.mono e⟩
  | dt ds => obtain ⟨a, vs, r1, r2, r3⟩ := h; exact ⟨a, vs, r1, k _ _ r2, r3.mono e⟩
  | _ => exact Rp.mono e h
theorem Ov.rp {G B : Hp} {v : V} {d : D} (h : Ov K G B v d) (e : Ex G B) : Rp K B v d := by
  cases d with
  | lst ds => obtain ⟨a, vs, rfl, r2, r3⟩ := h; exact .lst r2 (r3.mono e)
  | dk ds => obtain ⟨a, vs, rfl, r2, r3⟩ := h; exact .dk r2 (r3.mono e)
  | dt ds => obtain ⟨a, vs, rfl, r2, r3⟩ := h; exact .dt r2 (r3.mono e)
  | _ => exact Rp.mono e h
theorem Rp.ov {G B : Hp} {v : V} {d : D} (h : Rp K G v d) (e : Ex G B) : Ov K G B v d := by
  cases h with
  | lst a r => exact ⟨_, _, rfl, e _ _ a, r⟩
  | fl a r => exact .fl a r
  | dk a r => exact ⟨_, _, rfl, rd_mono e a, r⟩
  | dt a r => exact ⟨_, _, rfl, e _ _ a, r⟩
  | tup a r => exact .tup a r
  | ft a r => exact .ft a r
  | non => exact .non
  | bl b => exact .bl b
  | int b => exact .int b
  | str b => exact .str b
theorem Ob.ov {G H B : Hp} {a : Addr} {d : D} (h : Ob K G H a d) (e : ∀ o, H a = some o → B a = some o) : Ov K G B (.ref a) d := by
  cases d with
  | lst ds => obtain ⟨vs, e1, r⟩ := h; exact ⟨a, vs, rfl, e _ e1, r⟩
  | dk es => obtain ⟨vs, e1, r⟩ := h; exact ⟨a, vs, rfl, .inl (e _ e1), r⟩
  | dt es => obtain ⟨vs, e1, r⟩ := h; exact ⟨a, vs, rfl, e _ e1, r⟩
  | _ => exact h.elim

/-- the dict that the draws stand in -/
def WOk (K : PySem.W.Frag) (G H : Hp) (a : Addr) : Prop :=
  ∃ (ad : Addr) (at_ : Int) (ns : List Int), H a = some (.dK [(.inr "draws", .ref ad), (.inr "at", .int at_)]) ∧ 0 ≤ at_ ∧ SqL K G ad (ns.map V.int) ∧ ∀ x ∈ ns, 0 ≤ x
theorem WOk.mono {G G' H H' : Hp} {a : Addr} (h : WOk K G H a) (e : Ex G G') (k : H' a = H a) : WOk K G' H' a := by
  obtain ⟨ad, t, ns, h1, h2, h3, h4⟩ := h
  exact ⟨ad, t, ns, by rw [k]; exact h1, h2, Evl.ex_l e h3, h4⟩

structure Sim (K : PySem.W.Frag) (b : Bs) (G : Hp) (ρ : Rho) (σ : L2.St) (H : Hp) : Prop where
  len : ρ.length = σ.length
  sub : Ex G (hd b.aw H)
  g0 : Ex b.G0 G
  b0 : Ex b.B0 (hd b.aw H)
  new : ∀ a o, b.B0 a = some o → b.G0 a = none → G a = none
  fz : ∀ (i : Nat) (d : D), ρ[i]? = some (.fz d) → ∃ v, σ[i]? = some (some v) ∧ Rp K G v d
  ow : ∀ (i : Nat) (d : D), ρ[i]? = some (.ow d) → ∃ a, σ[i]? = some (some (.ref a)) ∧ b.aw ≠ some a ∧ b.B0 a = none ∧ G a = none ∧ Ob K G H a d
  dj : ∀ (i j : Nat) (d e : D) (v : Option V), i ≠ j → ρ[i]? = some (.ow d) → ρ[j]? = some (.ow e) → σ[i]? = some v → σ[j]? = some v → False
  ws : ∀ (i : Nat), ρ[i]? = some .w → ∃ a, b.aw = some a ∧ σ[i]? = some (some (.ref a))
  wk : ∀ a, b.aw = some a → WOk K G H a
section
variable {b : Bs} {G H : Hp} {ρ : Rho} {σ : L2.St}
theorem Sim.le (s : Sim K b G ρ σ H) : Ex G H := s.sub.trans hd_le
theorem Sim.aw_ne (s : Sim K b G ρ σ H) {p : Addr} (h : H p = none) : b.aw ≠ some p := fun e => by
  obtain ⟨_, _, _, h1, _⟩ := s.wk p e
  rw [h] at h1; cases h1
theorem Sim.fresh (s : Sim K b G ρ σ H) {p : Addr} (h : H p = none) : G p = none := Evl.fresh_back s.le h
theorem Sim.fresh0 (s : Sim K b G ρ σ H) {p : Addr} (h : H p = none) : b.B0 p = none := Evl.fresh_back (s.b0.trans hd_le) h
/-- a new object, not (yet) frozen -/
theorem Sim.laid (s : Sim K b G ρ σ H) {p : Addr} {o : HO} (h : H p = none) : Sim K b G ρ σ (upd H p o) where
  len := s.len
  sub := s.sub.trans (hd_new h)
  g0 := s.g0
  b0 := s.b0.trans (hd_new h)
  new := s.new
  fz := s.fz
  ow := fun i d e => by
    obtain ⟨a, h1, h2, h3, h4, h5⟩ := s.ow i d e
    exact ⟨a, h1, h2, h3, h4, h5.mono (Ex.refl _) fun u hu => by rw [upd_ne (ne_of_none hu h)]; exact hu⟩
  dj := s.dj
  ws := s.ws
  wk := fun a e => (s.wk a e).mono (Ex.refl _) (upd_ne fun z => s.aw_ne h (z ▸ e))
theorem ex_upd {G : Hp} {p : Addr} {o : HO} (h : G p = none) : Ex G (upd G p o) := Ex.new h
/-- an object that is not frozen, no slot owns it, is frozen -/
theorem Sim.freeze (s : Sim K b G ρ σ H) {p : Addr} {o : HO} (ho : H p = some o) (hw : b.aw ≠ some p) (h0 : b.B0 p = none) (hg : G p = none) (no : ∀ (i : Nat) (d : D), ρ[i]? = some (.ow d) → σ[i]? ≠ some (some (.ref p))) : Sim K b (upd G p o) ρ σ H where
  len := s.len
  sub := fun a u e => by
    by_cases ha : a = p
    · subst ha; rw [upd_same] at e; cases e; rw [hd_ne hw]; exact ho
    · rw [upd_ne ha] at e; exact s.sub a u e
  g0 := s.g0.trans (ex_upd hg)
  b0 := s.b0
  new := fun a u e1 e2 => by
    have : a ≠ p := fun z => by subst z; rw [h0] at e1; cases e1
    rw [upd_ne this]; exact s.new a u e1 e2
  fz := fun i d e => by
    obtain ⟨v, h1, h2⟩ := s.fz i d e
    exact ⟨v, h1, h2.mono (ex_upd hg)⟩
  ow := fun i d e => by
    obtain ⟨a, h1, h2, h3, h4, h5⟩ := s.ow i d e
    have : a ≠ p := fun z => by subst z; exact no i d e h1
    exact ⟨a, h1, h2, h3, by rw [upd_ne this]; exact h4, h5.mono (ex_upd hg) fun u hu => hu⟩
  dj := s.dj
  ws := s.ws
  wk := fun a e => (s.wk a e).mono (ex_upd hg) rfl
/-- a slot is set to frozen data -/
theorem Sim.setF (s : Sim K b G ρ σ H) (i : Nat) {v : V} {d : D} (r : Rp K G v d) : Sim K b G (ρ.set i (.fz d)) (σ.set i (some v)) H := by
  have key : ∀ (j : Nat) (x : Slot), (ρ.set i (.fz d))[j]? = some x → (j = i ∧ x = .fz d ∧ i < ρ.length) ∨ (j ≠ i ∧ ρ[j]? = some x) := fun j x e => by
    by_cases hj : j = i
    · subst hj
      by_cases hl : j < ρ.length
      · rw [List.getElem?_set_self hl] at e; cases e; exact .inl ⟨rfl, rfl, hl⟩
      · rw [List.getElem?_eq_none (by simpa using hl)] at e; cases e
    · rw [List.getElem?_set_ne (Ne.symm hj)] at e; exact .inr ⟨hj, e⟩
  refine ⟨by simp [s.len], s.sub, s.g0, s.b0, s.new, fun j x e => ?_, fun j x e => ?_, fun j k x y v' hne e1 e2 e3 e4 => ?_, fun j e => ?_, s.wk⟩
  · rcases key j _ e with ⟨rfl, h, hl⟩ | ⟨hj, h⟩
    · cases h
      exact ⟨v, by rw [List.getElem?_set_self (by rw [← s.len]; exact hl)], r⟩
    · obtain ⟨v', h1, h2⟩ := s.fz j x h
      exact ⟨v', by rw [List.getElem?_set_ne (Ne.symm hj)]; exact h1, h2⟩
  · rcases key j _ e with ⟨rfl, h, hl⟩ | ⟨hj, h⟩
    · cases h
    · obtain ⟨a, h1, h2⟩ := s.ow j x h
      exact ⟨a, by rw [List.getElem?_set_ne (Ne.symm hj)]; exact h1, h2⟩
  · rcases key j _ e1 with ⟨rfl, h, hl⟩ | ⟨hj, h⟩
    · cases h
    · rcases key k _ e2 with ⟨rfl, h', hl⟩ | ⟨hk, h'⟩
      · cases h'
      · rw [List.getElem?_set_ne (Ne.symm hj)] at e3
        rw [List.getElem?_set_ne (Ne.symm hk)] at e4
        exact s.dj j k x y v' hne h h' e3 e4
  · rcases key j _ e with ⟨rfl, h, hl⟩ | ⟨hj, h⟩
    · cases h
    · obtain ⟨a, h1, h2⟩ := s.ws j h
      exact ⟨a, h1, by rw [List.getElem?_set_ne (Ne.symm hj)]; exact h2⟩
/-- a slot is set to an owned object that no slot has -/
theorem Sim.setO (s : Sim K b G ρ σ H) (i : Nat) {p : Addr} {d : D} (hw : b.aw ≠ some p) (h0 : b.B0 p = none) (hg : G p = none) (o : Ob K G H p d) (no : ∀ (j : Nat) (d : D), ρ[j]? = some (.ow d) → σ[j]? ≠ some (some (.ref p))) :
    Sim K b G (ρ.set i (.ow d)) (σ.set i (some (.ref p))) H := by
  have key : ∀ (j : Nat) (x : Slot), (ρ.set i (.ow d))[j]? = some x → (j = i ∧ x = .ow d ∧ i < ρ.length) ∨ (j ≠ i ∧ ρ[j]? = some x) := fun j x e => by
    by_cases hj : j = i
    · subst hj
      by_cases hl : j < ρ.length
      · rw [List.getElem?_set_self hl] at e; cases e; exact .inl ⟨rfl, rfl, hl⟩
      · rw [List.getElem?_eq_none (by simpa using hl)] at e; cases e
    · rw [List.getElem?_set_ne (Ne.symm hj)] at e; exact .inr ⟨hj, e⟩
  refine ⟨by simp [s.len], s.sub, s.g0, s.b0, s.new, fun j x e => ?_, fun j x e => ?_, fun j k x y v' hne e1 e2 e3 e4 => ?_, fun j e => ?_, s.wk⟩
  · rcases key j _ e with ⟨rfl, h, hl⟩ | ⟨hj, h⟩
    · cases h
    · obtain ⟨v', h1, h2⟩ := s.fz j x h
      exact ⟨v', by rw [List.getElem?_set_ne (Ne.symm hj)]; exact h1, h2⟩
  · rcases key j _ e with ⟨rfl, h, hl⟩ | ⟨hj, h⟩
    · cases h
      exact ⟨p, by rw [List.getElem?_set_self (by rw [← s.len]; exact hl)], hw, h0, hg, o⟩
    · obtain ⟨a, h1, h2⟩ := s.ow j x h
      exact ⟨a, by rw [List.getElem?_set_ne (Ne.symm hj)]; exact h1, h2⟩
  · rcases key j _ e1 with ⟨rfl, h, hl⟩ | ⟨hj, h⟩
    · rcases key k _ e2 with ⟨rfl, h', hl'⟩ | ⟨hk, h'⟩
      · exact hne rfl
      · rw [List.getElem?_set_self (by rw [← s.len]; exact hl)] at e3
        cases e3
        rw [List.getElem?_set_ne (Ne.symm hk)] at e4
        exact no k y h' e4
    · rcases key k _ e2 with ⟨rfl, h', hl'⟩ | ⟨hk, h'⟩
      · rw [List.getElem?_set_self (by rw [← s.len]; exact hl')] at e4
        cases e4
        rw [List.getElem?_set_ne (Ne.symm hj)] at e3
        exact no j x h e3
      · rw [List.getElem?_set_ne (Ne.symm hj)] at e3
        rw [List.getElem?_set_ne (Ne.symm hk)] at e4
        exact s.dj j k x y v' hne h h' e3 e4
  · rcases key j _ e with ⟨rfl, h, hl⟩ | ⟨hj, h⟩
    · cases h
    · obtain ⟨a, h1, h2⟩ := s.ws j h
      exact ⟨a, h1, by rw [List.getElem?_set_ne (Ne.symm hj)]; exact h2⟩
/-- the owned object of slot i freezes, where it stands -/
theorem Sim.frz (s : Sim K b G ρ σ H) {i : Nat} {d : D} {v : V} (e : ρ[i]? = some (.ow d)) (ev : σ[i]? = some (some v)) :
    ∃ p o, v = .ref p ∧ H p = some o ∧ G p = none ∧ b.aw ≠ some p ∧ b.B0 p = none ∧ Rp K (upd G p o) v d ∧ Sim K b (upd G p o) (ρ.set i (.fz d)) σ H := by
  obtain ⟨p, h1, h2, h3, h4, h5⟩ := s.ow i d e
  rw [ev] at h1; cases h1
  obtain ⟨o, ho, hr⟩ := h5.there
  have rr : Rp K (upd G p o) (.ref p) d := hr _ (ex_upd h4) upd_same
  refine ⟨p, o, rfl, ho, h4, h2, h3, rr, ?_⟩
  have hl : i < σ.length := (List.getElem?_eq_some_iff.mp ev).1
  have es : σ.set i (some (.ref p)) = σ := by
    apply List.ext_getElem?
    intro j
    by_cases hj : j = i
    · subst hj; rw [List.getElem?_set_self hl, ev]
    · rw [List.getElem?_set_ne (Ne.symm hj)]
  have s0 : Sim K b G (ρ.set i .un) σ H := by
    have key : ∀ (j : Nat) (x : Slot), (ρ.set i .un)[j]? = some x → x ≠ .un → (j ≠ i ∧ ρ[j]? = some x) := fun j x e' ne => by
      by_cases hj : j = i
      · subst hj
        rw [List.getElem?_set_self (by rw [s.len]; exact hl)] at e'; cases e'; exact absurd rfl ne
      · rw [List.getElem?_set_ne (Ne.symm hj)] at e'; exact ⟨hj, e'⟩
    exact ⟨by simp [s.len], s.sub, s.g0, s.b0, s.new, fun j x e' => s.fz j x (key j _ e' (by simp)).2, fun j x e' => s.ow j x (key j _ e' (by simp)).2,
      fun j k x y v' hne e1 e2 => s.dj j k x y v' hne (key j _ e1 (by simp)).2 (key k _ e2 (by simp)).2, fun j e' => s.ws j (key j _ e' (by simp)).2, s.wk⟩
  have s1 := s0.freeze ho h2 h3 h4 (fun j x e' z => by
    by_cases hj : j = i
    · subst hj
      rw [List.getElem?_set_self (by rw [s.len]; exact hl)] at e'; cases e'
    · rw [List.getElem?_set_ne (Ne.symm hj)] at e'
      exact s.dj j i x d _ hj e' e z ev)
  have s2 := s1.setF i rr
  rw [List.set_set, es] at s2
  exact s2
end

inductive Kd where
  | fz | nw | br (i : Nat)

def Own (ρ : Rho) (σ : L2.St) (a : Addr) : Prop := ∃ (i : Nat) (d : D), ρ[i]? = some (.ow d) ∧ σ[i]? = some (some (.ref a))
/-- what an expression leaves as it was -/
structure Xt (b : Bs) (ρ : Rho) (σ : L2.St) (G H : Hp) (ρ' : Rho) (G' H' : Hp) : Prop where
  g : Ex G G'
  h : Ex (hd b.aw H) (hd b.aw H')
  new : ∀ a o, hd b.aw H a = some o → G a = none → ¬ Own ρ σ a → G' a = none
  own : ∀ (i : Nat) (d : D), ρ'[i]? = some (.ow d) → ρ[i]? = some (.ow d)
section
variable {b : Bs} {ρ ρ' ρ2 : Rho} {σ : L2.St} {G H G' H' G2 H2 : Hp}
theorem Xt.refl : Xt b ρ σ G H ρ G H := ⟨Ex.refl _, Ex.refl _, fun _ _ _ h _ => h, fun _ _ h => h⟩
theorem Xt.trans (x : Xt b ρ σ G H ρ' G' H') (y : Xt b ρ' σ G' H' ρ2 G2 H2) : Xt b ρ σ G H ρ2 G2 H2 :=
  ⟨x.g.trans y.g, x.h.trans y.h, fun a o e n no => y.new a o (x.h a o e) (x.new a o e n no) fun ⟨i, d, e1, e2⟩ => no ⟨i, d, x.own i d e1, e2⟩, fun i d e => x.own i d (y.own i d e)⟩
theorem Xt.laid {p : Addr} {o : HO} (h : H p = none) : Xt b ρ σ G H ρ G (upd H p o) := ⟨Ex.refl _, hd_new h, fun _ _ _ h _ => h, fun _ _ h => h⟩
theorem Xt.laidF {p : Addr} {o : HO} (h : H p = none) (hg : G p = none) : Xt b ρ σ G H ρ (upd G p o) (upd H p o) :=
  ⟨ex_upd hg, hd_new h, fun a u e n _ => by
    rw [upd_ne fun z => by subst z; rw [(hd_some e).2] at h; cases h]
    exact n, fun _ _ h => h⟩
end
/-- an expression's value -/
def Rv (K : PySem.W.Frag) (b : Bs) (H G' H' : Hp) (ρ' : Rho) (σ : L2.St) : Kd → V → D → Prop
  | .fz, v, d => Rp K G' v d
  | .nw, v, d => ∃ a, v = .ref a ∧ hd b.aw H a = none ∧ b.aw ≠ some a ∧ G' a = none ∧ Ob K G' H' a d
  | .br i, v, d => ρ'[i]? = some (.ow d) ∧ σ[i]? = some (some v)
section
variable {b : Bs} {ρ ρ' ρ2 : Rho} {σ : L2.St} {G H G' H' G2 H2 : Hp} {k : Kd} {v : V} {d : D}
theorem Rv.ov (r : Rv K b H G' H' ρ' σ k v d) (s : Sim K b G' ρ' σ H') : Ov K G' (hd b.aw H') v d := by
  cases k with
  | fz => exact Rp.ov r s.sub
  | nw =>
    obtain ⟨a, rfl, h1, h2, h3, h4⟩ := r
    exact h4.ov fun o e => by rw [hd_ne h2]; exact e
  | br i =>
    obtain ⟨h1, h2⟩ := r
    obtain ⟨a, e1, e2, e3, e4, e5⟩ := s.ow i d h1
    rw [h2] at e1; cases e1
    exact e5.ov fun o e => by rw [hd_ne e2]; exact e
theorem Rv.back (r : Rv K b H G2 H2 ρ2 σ k v d) (e : Ex (hd b.aw G) (hd b.aw H)) : Rv K b G G2 H2 ρ2 σ k v d := by
  cases k with
  | fz => exact r
  | nw => obtain ⟨a, h0, h1, h2⟩ := r; exact ⟨a, h0, Evl.fresh_back e h1, h2⟩
  | br i => exact r
end

abbrev WE := Rho → (D → Kd → Rho → Prop) → Prop
abbrev WT := Rho → (Bool → Rho → Prop) → Prop
abbrev WA := Rho → (List D → Rho → Prop) → Prop
def SndE (K : PySem.W.Frag) (te : TE) (t : WE) : Prop := ∀ (b : Bs) (G : Hp) (ρ : Rho) (σ : L2.St) (H : Hp) (Q : D → Kd → Rho → Prop) (R : VK), Sim K b G ρ σ H → t ρ Q →
  (∀ d k ρ' v G' H', Q d k ρ' → Xt b ρ σ G H ρ' G' H' → Sim K b G' ρ' σ H' → Rv K b H G' H' ρ' σ k v d → R v H') → te σ H R
def SndT (K : PySem.W.Frag) (tt : TT) (t : WT) : Prop := ∀ (b : Bs) (G : Hp) (ρ : Rho) (σ : L2.St) (H : Hp) (Q : Bool → Rho → Prop) (R : Bool → Hp → Prop), Sim K b G ρ σ H → t ρ Q →
  (∀ c ρ' G' H', Q c ρ' → Xt b ρ σ G H ρ' G' H' → Sim K b G' ρ' σ H' → R c H') → tt σ H R
/-- arguments as operands -/
def SndO (K : PySem.W.Frag) (ta : TA) (t : WA) : Prop := ∀ (b : Bs) (G : Hp) (ρ : Rho) (σ : L2.St) (H : Hp) (Q : List D → Rho → Prop) (R : List V → Hp → Prop), Sim K b G ρ σ H → t ρ Q →
  (∀ ds ρ' vs G' H', Q ds ρ' → Xt b ρ σ G H ρ' G' H' → Sim K b G' ρ' σ H' → Paired (Ov K G' (hd b.aw H')) vs ds → R vs H') → ta σ H R
/-- arguments as frozen values -/
def SndA (K : PySem.W.Frag) (ta : TA) (t : WA) : Prop := ∀ (b : Bs) (G : Hp) (ρ : Rho) (σ : L2.St) (H : Hp) (Q : List D → Rho → Prop) (R : List V → Hp → Prop), Sim K b G ρ σ H → t ρ Q →
  (∀ ds ρ' vs G' H', Q ds ρ' → Xt b ρ σ G H ρ' G' H' → Sim K b G' ρ' σ H' → RpL K G' vs ds → R vs H') → ta σ H R
structure SE (X : Cx) (e : Expr) (te : TE) (t : WE) : Prop where
  pe : PE X e te
  snd : SndE X.K te t
structure ST (X : Cx) (e : Expr) (te : TT) (t : WT) : Prop where
  pt : PT X e te
  snd : SndT X.K te t
structure SO (X : Cx) (es : List Expr) (ta : TA) (t : WA) : Prop where
  pa : PA X es ta
  snd : SndO X.K ta t
structure SA (X : Cx) (es : List Expr) (ta : TA) (t : WA) : Prop where
  pa : PA X es ta
  snd : SndA X.K ta t

/-! ### the value as frozen data -/
def toF (Q : D → Rho → Prop) : D → Kd → Rho → Prop := fun d k ρ' => match k with
  | .br i => Q d (ρ'.set i (.fz d))
  | _ => Q d ρ'
/-- from what an expression hands on to frozen data -/
theorem frozen1 {b : Bs} {ρ ρ' : Rho} {σ : L2.St} {G H G' H' : Hp} {k : Kd} {v : V} {d : D} {Q : D → Rho → Prop} {R : V → Hp → Prop} (q : toF Q d k ρ') (x : Xt b ρ σ G H ρ' G' H') (s0 : Sim K b G ρ σ H) (s : Sim K b G' ρ' σ H') (r : Rv K b H G' H' ρ' σ k v d)
    (h : ∀ ρ2 G2, Q d ρ2 → Xt b ρ σ G H ρ2 G2 H' → Sim K b G2 ρ2 σ H' → Rp K G2 v d → R v H') : R v H' := by
  cases k with
  | fz => exact h ρ' G' q x s r
  | nw =>
    obtain ⟨a, rfl, h1, h2, h3, h4⟩ := r
    obtain ⟨o, ho, hr⟩ := h4.there
    have no : ∀ (i : Nat) (d : D), ρ'[i]? = some (.ow d) → σ[i]? ≠ some (some (.ref a)) := fun i d' e z => by
      obtain ⟨a', e1, e2, e3, e4, e5⟩ := s0.ow i d' (x.own i d' e)
      rw [z] at e1; cases e1
      obtain ⟨o', ho', _⟩ := e5.there
      rw [hd_ne e2, ho'] at h1; cases h1
    have h0 : b.B0 a = none := Evl.fresh_back s0.b0 h1
    refine h ρ' (upd G' a o) q ⟨x.g.trans (ex_upd h3), x.h, fun c u e n no' => ?_, x.own⟩ (s.freeze ho h2 h0 h3 no) (hr _ (ex_upd h3) upd_same)
    rw [upd_ne fun z => by subst z; rw [h1] at e; cases e]
    exact x.new c u e n no'
  | br i =>
    obtain ⟨h1, h2⟩ := r
    obtain ⟨p, o, rfl, ho, hg, hw, h0, rr, s2⟩ := s.frz h1 h2
    refine h _ (upd G' p o) q (x.trans ⟨ex_upd hg, Ex.refl _, fun c u e n no => ?_, fun j d' e => ?_⟩) s2 rr
    · by_cases hc : c = p
      · subst hc; exact absurd ⟨i, d, h1, h2⟩ no
      · rw [upd_ne hc]; exact n
    · by_cases hj : j = i
      · subst hj
        by_cases hl : j < ρ'.length
        · rw [List.getElem?_set_self hl] at e; cases e
        · rw [List.getElem?_eq_none (by simpa using hl)] at e; cases e
      · rw [List.getElem?_set_ne (Ne.symm hj)] at e; exact e
theorem frozen {b : Bs} {ρ ρ' : Rho} {σ : L2.St} {G H G' H' : Hp} {k : Kd} {v : V} {d : D} {Q : D → Rho → Prop} {R : V → Hp → Prop} (q : toF Q d k ρ') (x : Xt b ρ σ G H ρ' G' H') (s0 : Sim K b G ρ σ H) (s : Sim K b G' ρ' σ H') (r : Rv K b H G' H' ρ' σ k v d)
    (h : ∀ d ρ2 v G2, Q d ρ2 → Xt b ρ σ G H ρ2 G2 H' → Sim K b G2 ρ2 σ H' → Rp K G2 v d → R v H') : R v H' := frozen1 q x s0 s r fun ρ2 G2 => h d ρ2 v G2
end VL

namespace VL
open PySem PySem.Spec PyProof.Rows L2
open Evl (Ex)
variable {K : PySem.W.Frag}

def LIM : Nat := 100000
theorem lim_le {n : Nat} (h : n ≤ LIM) : n ≤ sizeLine := Evl.sz_of h
theorem lim_lt {n : Nat} (h : n < LIM) : n < sizeLine := Evl.sz_lt h
theorem lim_lt' {n : Nat} (h : n < LIM) : n < 100000 := h

/-! ### results of operations -/
structure Res (K : PySem.W.Frag) (G H : Hp) (z : D) (k : Kd) (R : VK) : Prop where
  val : ∀ v, k = .fz → Rp K G v z → R v H
  tup : ∀ p vs ds, k = .fz → z = .tup ds → H p = none → RpL K G vs ds → R (.ref p) (upd H p (.tup vs))
  new : ∀ p o, k = .nw → H p = none → Ob K G (upd H p o) p z → R (.ref p) (upd H p o)
section
variable {b : Bs} {G H : Hp} {ρ : Rho} {σ : L2.St}
theorem Ob.known {G H : Hp} {a : Addr} {d : D} (h : Ob K G H a d) : H a ≠ none := by
  obtain ⟨o, e, _⟩ := h.there
  rw [e]; simp
theorem Sim.noown (s : Sim K b G ρ σ H) {p : Addr} (h : H p = none) : ∀ (i : Nat) (d : D), ρ[i]? = some (.ow d) → σ[i]? ≠ some (some (.ref p)) := fun i d e z => by
  obtain ⟨a, h1, _, _, _, h5⟩ := s.ow i d e
  rw [z] at h1; cases h1
  exact h5.known h
theorem Sim.laidF (s : Sim K b G ρ σ H) {p : Addr} {o : HO} (h : H p = none) : Sim K b (upd G p o) ρ σ (upd H p o) :=
  (s.laid (o := o) h).freeze upd_same (s.aw_ne h) (s.fresh0 h) (s.fresh h) (s.noown h)
theorem hd_none {aw : Option Addr} {H : Hp} {p : Addr} (h : H p = none) : hd aw H p = none := by
  unfold hd; split <;> first | rfl | exact h
theorem res_of {Q : D → Kd → Rho → Prop} {R : VK} {z : D} {k : Kd} (s : Sim K b G ρ σ H) (hk : ∀ d k ρ' v G' H', Q d k ρ' → Xt b ρ σ G H ρ' G' H' → Sim K b G' ρ' σ H' → Rv K b H G' H' ρ' σ k v d → R v H') (q : Q z k ρ) : Res K G H z k R where
  val := fun v e r => hk z k ρ v G H q .refl s (by rw [e]; exact r)
  tup := fun p vs ds e ez hp r => hk z k ρ (.ref p) (upd G p (.tup vs)) (upd H p (.tup vs)) q (.laidF hp (s.fresh hp)) (s.laidF hp) (by
    rw [e, ez]
    exact .tup upd_same (r.mono (ex_upd (s.fresh hp))))
  new := fun p o e hp r => hk z k ρ (.ref p) G (upd H p o) q (.laid hp) (s.laid hp) (by
    rw [e]
    exact ⟨p, rfl, hd_none hp, s.aw_ne hp, s.fresh hp, r⟩)
end
abbrev Oz := Option (D × Kd)
def oB (o : Oz) (Q : D → Kd → Prop) : Prop := match o with
  | some (z, k) => Q z k
  | none => False
@[simp] theorem oB_some (z : D) (k : Kd) (Q : D → Kd → Prop) : oB (some (z, k)) Q = Q z k := rfl
@[simp] theorem oB_none (Q : D → Kd → Prop) : oB none Q = False := rfl
theorem oB_ite {c : Prop} [Decidable c] {o : Oz} {Q : D → Kd → Prop} : oB (if c then o else none) Q = (c ∧ oB o Q) := by
  by_cases h : c <;> simp [h]
/-- two operands -/
def OpS (K : PySem.W.Frag) (r : R2) (f : D → D → Oz) : Prop := ∀ (G B H : Hp) (v u : V) (d e z : D) (k : Kd) (R : VK), Ex G B → Ex B H → Ov K G B v d → Ov K G B u e → f d e = some (z, k) → Res K G H z k R → r v u H R
def UnS (K : PySem.W.Frag) (r : V → Hp → VK → Prop) (f : D → Oz) : Prop := ∀ (G B H : Hp) (v : V) (d z : D) (k : Kd) (R : VK), Ex G B → Ex B H → Ov K G B v d → f d = some (z, k) → Res K G H z k R → r v H R
/-- a call of a built-in -/
def ClS (K : PySem.W.Frag) (r : List V → Hp → VK → Prop) (f : List D → Oz) : Prop := ∀ (G B H : Hp) (vs : List V) (ds : List D) (z : D) (k : Kd) (R : VK), Ex G B → Ex B H → Paired (Ov K G B) vs ds → f ds = some (z, k) → Res K G H z k R → r vs H R
/-- a built-in's method -/
def MtS (K : PySem.W.Frag) (T : String) (r : V → List V → Hp → VK → Prop) (f : D → List D → Oz) : Prop := ∀ (G B H : Hp) (v : V) (d : D) (vs : List V) (ds : List D) (z : D) (k : Kd) (R : VK), Ex G B → Ex B H → Ov K G B v d → Paired (Ov K G B) vs ds → f d ds = some (z, k) → Res K G H z k R → tyV K T v B ∧ r v vs H R

/-! ### names, constants -/
def wVar (i : Nat) : WE := fun ρ Q => match ρ[i]? with
  | some (.fz d) => Q d .fz ρ
  | some (.ow d) => Q d (.br i) ρ
  | _ => False
theorem snd_var (i : Nat) : SndE K (tVar i) (wVar i) := by
  intro b G ρ σ H Q R s h k
  unfold wVar at h
  split at h
  · rename_i d e
    obtain ⟨v, e1, r⟩ := s.fz i d e
    exact ⟨v, e1, k _ _ _ v G H h .refl s r⟩
  · rename_i d e
    obtain ⟨a, e1, _⟩ := s.ow i d e
    exact ⟨_, e1, k _ _ _ _ G H h .refl s ⟨e, e1⟩⟩
  · exact h.elim
def wCon (d : D) : WE := fun ρ Q => Q d .fz ρ
theorem snd_con {v : V} {d : D} (h : ∀ G, Rp K G v d) : SndE K (tC v) (wCon d) := fun b G ρ σ H Q R s q k => k _ _ _ v G H q .refl s (h G)

def wBin (f : D → D → Oz) (ta tb : WE) : WE := fun ρ Q => ta ρ fun d _ ρ1 => tb ρ1 fun e _ ρ2 => oB (f d e) fun z k => Q z k ρ2
theorem snd_op {r : R2} {f : D → D → Oz} {ta tb : TE} {wa wb : WE} (ho : OpS K r f) (ha : SndE K ta wa) (hb : SndE K tb wb) : SndE K (tOp r ta tb) (wBin f wa wb) := by
  intro b G ρ σ H Q R s h k
  refine ha b G ρ σ H _ _ s h fun d ka ρ1 v G1 H1 q1 x1 s1 r1 => ?_
  refine hb b G1 ρ1 σ H1 _ _ s1 q1 fun e kb ρ2 u G2 H2 q2 x2 s2 r2 => ?_
  have o1 := (r1.ov s1).mono x2.g x2.h
  have o2 := r2.ov s2
  cases hf : f d e with
  | none => rw [hf] at q2; exact q2.elim
  | some zk =>
    obtain ⟨z, kd⟩ := zk
    rw [hf] at q2
    exact ho G2 (hd b.aw H2) H2 v u d e z kd R s2.sub hd_le o1 o2 hf (res_of s2 (fun d k' ρ' v G' H' q x s r => k d k' ρ' v G' H' q ((x1.trans x2).trans x) s (r.back (x1.trans x2).h)) q2)
def wUn (f : D → Oz) (ta : WE) : WE := fun ρ Q => ta ρ fun d _ ρ1 => oB (f d) fun z k => Q z k ρ1
theorem snd_un {r : V → Hp → VK → Prop} {f : D → Oz} {ta : TE} {wa : WE} (ho : UnS K r f) (ha : SndE K ta wa) : SndE K (tUn r ta) (wUn f wa) := by
  intro b G ρ σ H Q R s h k
  refine ha b G ρ σ H _ _ s h fun d ka ρ1 v G1 H1 q1 x1 s1 r1 => ?_
  cases hf : f d with
  | none => rw [hf] at q1; exact q1.elim
  | some zk =>
    obtain ⟨z, kd⟩ := zk
    rw [hf] at q1
    exact ho G1 (hd b.aw H1) H1 v d z kd R s1.sub hd_le (r1.ov s1) hf (res_of s1 (fun d k' ρ' v G' H' q x s r => k d k' ρ' v G' H' q (x1.trans x) s (r.back x1.h)) q1)

/-! ### argument lists -/
def wNil : WA := fun ρ Q => Q [] ρ
/-- as operands -/
def wCons (t : WE) (u : WA) : WA := fun ρ Q => t ρ fun d _ ρ1 => u ρ1 fun ds ρ2 => Q (d :: ds) ρ2
/-- frozen -/
def wConsF (t : WE) (u : WA) : WA := fun ρ Q => t ρ (toF fun d ρ1 => u ρ1 fun ds ρ2 => Q (d :: ds) ρ2)
theorem sndO_nil : SndO K tNil wNil := fun b G ρ σ H Q R s q k => k _ _ _ G H q .refl s .nil
theorem paired_mono {G B G' B' : Hp} (e : Ex G G') (k : Ex B B') {vs : List V} {ds : List D} (h : Paired (Ov K G B) vs ds) : Paired (Ov K G' B') vs ds := Paired.mapP h fun _ _ r => r.mono e k
theorem sndO_cons {te : TE} {ta : TA} {t : WE} {u : WA} (ha : SndE K te t) (hb : SndO K ta u) : SndO K (tCons te ta) (wCons t u) := by
  intro b G ρ σ H Q R s h k
  refine ha b G ρ σ H _ _ s h fun d ka ρ1 v G1 H1 q1 x1 s1 r1 => ?_
  refine hb b G1 ρ1 σ H1 _ _ s1 q1 fun ds ρ2 vs G2 H2 q2 x2 s2 r2 => ?_
  exact k _ _ _ G2 H2 q2 (x1.trans x2) s2 (.cons ((r1.ov s1).mono x2.g x2.h) r2)
theorem sndA_nil : SndA K tNil wNil := fun b G ρ σ H Q R s q k => k _ _ _ G H q .refl s .nil
theorem sndA_cons {te : TE} {ta : TA} {t : WE} {u : WA} (ha : SndE K te t) (hb : SndA K ta u) : SndA K (tCons te ta) (wConsF t u) := by
  intro b G ρ σ H Q R s h k
  refine ha b G ρ σ H _ _ s h fun d ka ρ1 v G1 H1 q1 x1 s1 r1 => ?_
  refine frozen (R := fun v H' => ta σ H' fun xs H2 => R (v :: xs) H2) q1 x1 s s1 r1 fun d ρ1 v G1 q1 x1 s1 r1 => ?_
  refine hb b G1 ρ1 σ H1 _ _ s1 q1 fun ds ρ2 vs G2 H2 q2 x2 s2 r2 => ?_
  exact k _ _ _ G2 H2 q2 (x1.trans x2) s2 (.cons (r1.mono x2.g) r2)

/-! ### displays -/
def wTup (t : WA) : WE := fun ρ Q => t ρ fun ds ρ1 => ds.length ≤ LIM ∧ Q (.tup ds) .fz ρ1
def wLst (t : WA) : WE := fun ρ Q => t ρ fun ds ρ1 => ds.length ≤ LIM ∧ Q (.lst ds) .nw ρ1
theorem snd_tup {ta : TA} {t : WA} (h : SndA K ta t) : SndE K (tTup ta) (wTup t) := by
  intro b G ρ σ H Q R s hq k
  refine h b G ρ σ H _ _ s hq fun ds ρ1 vs G1 H1 ⟨hl, q1⟩ x1 s1 r1 => ⟨by rw [r1.length]; exact lim_le hl, fun p hp => ?_⟩
  exact (res_of s1 (fun d k' ρ' v G' H' q x s r => k d k' ρ' v G' H' q (x1.trans x) s (r.back x1.h)) q1).tup p vs ds rfl rfl hp r1
theorem snd_lst {ta : TA} {t : WA} (h : SndA K ta t) : SndE K (tLst ta) (wLst t) := by
  intro b G ρ σ H Q R s hq k
  refine h b G ρ σ H _ _ s hq fun ds ρ1 vs G1 H1 ⟨hl, q1⟩ x1 s1 r1 => ⟨by rw [r1.length]; exact lim_le hl, fun p hp => ?_⟩
  exact (res_of s1 (fun d k' ρ' v G' H' q x s r => k d k' ρ' v G' H' q (x1.trans x) s (r.back x1.h)) q1).new p _ rfl hp ⟨vs, upd_same, r1⟩

/-! ### calls of built-ins, methods -/
def wCl (f : List D → Oz) (t : WA) : WE := fun ρ Q => t ρ fun ds ρ1 => oB (f ds) fun z k => Q z k ρ1
theorem snd_cl {r : List V → Hp → VK → Prop} {f : List D → Oz} {ta : TA} {t : WA} (hr : ClS K r f) (h : SndO K ta t) : SndE K (tCB r ta) (wCl f t) := by
  intro b G ρ σ H Q R s hq k
  refine h b G ρ σ H _ _ s hq fun ds ρ1 vs G1 H1 q1 x1 s1 r1 => ?_
  cases hf : f ds with
  | none => rw [hf] at q1; exact q1.elim
  | some zk =>
    obtain ⟨z, kd⟩ := zk
    rw [hf] at q1
    exact hr G1 (hd b.aw H1) H1 vs ds z kd R s1.sub hd_le r1 hf (res_of s1 (fun d k' ρ' v G' H' q x s r => k d k' ρ' v G' H' q (x1.trans x) s (r.back x1.h)) q1)
def wMt (f : D → List D → Oz) (t : WE) (u : WA) : WE := fun ρ Q => t ρ fun d _ ρ1 => u ρ1 fun ds ρ2 => oB (f d ds) fun z k => Q z k ρ2

/-! ### tests -/
def wTest (t : WE) : WT := fun ρ Q => t ρ fun d _ ρ1 => match d with
  | .bl c => Q c ρ1
  | _ => False
theorem snd_test {te : TE} {t : WE} (h : SndE K te t) : SndT K (tTest te) (wTest t) := by
  intro b G ρ σ H Q R s hq k
  refine h b G ρ σ H _ _ s hq fun d ka ρ1 v G1 H1 q1 x1 s1 r1 => ?_
  split at q1
  · rename_i c
    have o := r1.ov s1
    cases (show Rp K G1 v (.bl c) from o)
    exact ⟨c, rfl, k _ _ _ _ q1 x1 s1⟩
  · exact q1.elim
theorem snd_testB {te : TE} {t : WE} (h : SndE K te t) : SndT K (tB te) (wTest t) := snd_test h
def wAnd (t u : WT) : WT := fun ρ Q => t ρ fun c ρ1 => if c = true then u ρ1 Q else Q false ρ1
def wOr (t u : WT) : WT := fun ρ Q => t ρ fun c ρ1 => if c = true then Q true ρ1 else u ρ1 Q
def wNot (t : WT) : WT := fun ρ Q => t ρ fun c ρ1 => Q (!c) ρ1
theorem snd_and {ta tb : TT} {t u : WT} (ha : SndT K ta t) (hb : SndT K tb u) : SndT K (tAnd ta tb) (wAnd t u) := by
  intro b G ρ σ H Q R s hq k
  refine ha b G ρ σ H _ _ s hq fun c ρ1 G1 H1 q1 x1 s1 => ?_
  cases c with
  | true => exact iteT (hb b G1 ρ1 σ H1 Q R s1 q1 fun c ρ2 G2 H2 q2 x2 s2 => k c ρ2 G2 H2 q2 (x1.trans x2) s2)
  | false => exact iteF (k false ρ1 G1 H1 q1 x1 s1)
theorem snd_or {ta tb : TT} {t u : WT} (ha : SndT K ta t) (hb : SndT K tb u) : SndT K (tOr ta tb) (wOr t u) := by
  intro b G ρ σ H Q R s hq k
  refine ha b G ρ σ H _ _ s hq fun c ρ1 G1 H1 q1 x1 s1 => ?_
  cases c with
  | true => exact iteT (k true ρ1 G1 H1 q1 x1 s1)
  | false => exact iteF (hb b G1 ρ1 σ H1 Q R s1 q1 fun c ρ2 G2 H2 q2 x2 s2 => k c ρ2 G2 H2 q2 (x1.trans x2) s2)
theorem snd_not {ta : TT} {t : WT} (ha : SndT K ta t) : SndT K (tNot ta) (wNot t) := by
  intro b G ρ σ H Q R s hq k
  exact ha b G ρ σ H _ _ s hq fun c ρ1 G1 H1 q1 x1 s1 => k (!c) ρ1 G1 H1 q1 x1 s1
/-- as values -/
def wBl (t : WE) (f : Bool → Rho → Prop) (ρ : Rho) : Prop := t ρ fun d _ ρ1 => match d with
  | .bl c => f c ρ1
  | _ => False
def wAndV (t u : WE) : WE := fun ρ Q => wBl t (fun c ρ1 => if c = true then u ρ1 Q else Q (.bl false) .fz ρ1) ρ
def wOrV (t u : WE) : WE := fun ρ Q => wBl t (fun c ρ1 => if c = true then Q (.bl true) .fz ρ1 else u ρ1 Q) ρ
def wNotV (t : WE) : WE := fun ρ Q => wBl t (fun c ρ1 => Q (.bl (!c)) .fz ρ1) ρ
section
variable {ta tb : TE} {t u : WE}
theorem bl_of {te : TE} {t : WE} (h : SndE K te t) {b : Bs} {G : Hp} {ρ : Rho} {σ : L2.St} {H : Hp} {f : Bool → Rho → Prop} {R : VK} (s : Sim K b G ρ σ H) (q : wBl t f ρ) (k : ∀ c ρ' G' H', f c ρ' → Xt b ρ σ G H ρ' G' H' → Sim K b G' ρ' σ H' → R (.bl c) H') : te σ H R := by
  refine h b G ρ σ H _ _ s q fun d ka ρ1 v G1 H1 q1 x1 s1 r1 => ?_
  split at q1
  · rename_i c
    have o := r1.ov s1
    cases (show Rp K G1 v (.bl c) from o)
    exact k _ _ _ _ q1 x1 s1
  · exact q1.elim
theorem snd_andV (ha : SndE K ta t) (hb : SndE K tb u) : SndE K (tAndV ta tb) (wAndV t u) := by
  intro b G ρ σ H Q R s hq k
  refine bl_of ha s hq fun c ρ1 G1 H1 q1 x1 s1 => ⟨c, rfl, ?_⟩
  cases c with
  | true => exact iteT (hb b G1 ρ1 σ H1 Q R s1 q1 fun d k' ρ2 v G2 H2 q2 x2 s2 r2 => k d k' ρ2 v G2 H2 q2 (x1.trans x2) s2 (r2.back x1.h))
  | false => exact iteF (k _ _ ρ1 _ G1 H1 q1 x1 s1 (.bl _))
theorem snd_orV (ha : SndE K ta t) (hb : SndE K tb u) : SndE K (tOrV ta tb) (wOrV t u) := by
  intro b G ρ σ H Q R s hq k
  refine bl_of ha s hq fun c ρ1 G1 H1 q1 x1 s1 => ⟨c, rfl, ?_⟩
  cases c with
  | true => exact iteT (k _ _ ρ1 _ G1 H1 q1 x1 s1 (.bl _))
  | false => exact iteF (hb b G1 ρ1 σ H1 Q R s1 q1 fun d k' ρ2 v G2 H2 q2 x2 s2 r2 => k d k' ρ2 v G2 H2 q2 (x1.trans x2) s2 (r2.back x1.h))
theorem snd_notV (ha : SndE K ta t) : SndE K (tNotV ta) (wNotV t) := by
  intro b G ρ σ H Q R s hq k
  exact bl_of ha s hq fun c ρ1 G1 H1 q1 x1 s1 => ⟨c, rfl, k _ _ ρ1 _ G1 H1 q1 x1 s1 (.bl _)⟩
def wIfE (c : WT) (t u : WE) : WE := fun ρ Q => c ρ fun b ρ1 => if b = true then t ρ1 Q else u ρ1 Q
theorem snd_ifE {tc : TT} {c : WT} (hc : SndT K tc c) (ha : SndE K ta t) (hb : SndE K tb u) : SndE K (tIf tc ta tb) (wIfE c t u) := by
  intro b G ρ σ H Q R s hq k
  refine hc b G ρ σ H _ _ s hq fun c ρ1 G1 H1 q1 x1 s1 => ?_
  cases c with
  | true => exact iteT (ha b G1 ρ1 σ H1 Q R s1 q1 fun d k' ρ2 v G2 H2 q2 x2 s2 r2 => k d k' ρ2 v G2 H2 q2 (x1.trans x2) s2 (r2.back x1.h))
  | false => exact iteF (hb b G1 ρ1 σ H1 Q R s1 q1 fun d k' ρ2 v G2 H2 q2 x2 s2 r2 => k d k' ρ2 v G2 H2 q2 (x1.trans x2) s2 (r2.back x1.h))
/-- a op b op' c -/
def wChain (f g : D → D → Oz) (ta tb tc : WE) : WE := fun ρ Q => ta ρ fun d _ ρ1 => tb ρ1 fun e _ ρ2 => match f d e with
  | some (.bl true, .fz) => tc ρ2 fun h _ ρ3 => oB (g e h) fun z k => Q z k ρ3
  | some (.bl false, .fz) => Q (.bl false) .fz ρ2
  | _ => False
theorem snd_chain {r r' : R2} {f g : D → D → Oz} {tc : TE} {w : WE} (hf : OpS K r f) (hg : OpS K r' g) (ha : SndE K ta t) (hb : SndE K tb u) (hc : SndE K tc w) : SndE K (tChain r r' ta tb tc) (wChain f g t u w) := by
  intro b G ρ σ H Q R s h k
  refine ha b G ρ σ H _ _ s h fun d ka ρ1 v G1 H1 q1 x1 s1 r1 => ?_
  refine hb b G1 ρ1 σ H1 _ _ s1 q1 fun e kb ρ2 u G2 H2 q2 x2 s2 r2 => ?_
  have o1 := (r1.ov s1).mono x2.g x2.h
  have o2 := r2.ov s2
  split at q2
  · rename_i e1
    refine hf G2 (hd b.aw H2) H2 v _ d e (.bl true) .fz _ s2.sub hd_le o1 o2 e1 ⟨fun v' _ rv => ?_, fun _ _ _ _ e => (by cases e), fun _ _ e => (by cases e)⟩
    cases rv
    refine ⟨true, rfl, iteT ?_⟩
    refine hc b G2 ρ2 σ H2 _ _ s2 q2 fun h kc ρ3 y G3 H3 q3 x3 s3 r3 => ?_
    cases hz : g e h with
    | none => rw [hz] at q3; exact q3.elim
    | some zk =>
      obtain ⟨z, kd⟩ := zk
      rw [hz] at q3
      exact hg G3 (hd b.aw H3) H3 _ y e h z kd R s3.sub hd_le (o2.mono x3.g x3.h) (r3.ov s3) hz (res_of s3 (fun d k' ρ' v G' H' q x s r => k d k' ρ' v G' H' q (((x1.trans x2).trans x3).trans x) s (r.back ((x1.trans x2).trans x3).h)) q3)
  · rename_i e1
    refine hf G2 (hd b.aw H2) H2 v _ d e (.bl false) .fz _ s2.sub hd_le o1 o2 e1 ⟨fun v' _ rv => ?_, fun _ _ _ _ e => (by cases e), fun _ _ e => (by cases e)⟩
    cases rv
    exact ⟨false, rfl, iteF (k _ _ ρ2 _ G2 H2 q2 (x1.trans x2) s2 (.bl _))⟩
  · exact q2.elim
end

/-! ### calls of own defs -/
inductive A where
  | d (x : D) | w
abbrev FS := List A → (D → Kd → Prop) → Prop
abbrev WX := Rho → (List A → Rho → Prop) → Prop
def xNil : WX := fun ρ Q => Q [] ρ
def xCons (t : WE) (u : WX) : WX := fun ρ Q => t ρ (toF fun d ρ1 => u ρ1 fun ds ρ2 => Q (.d d :: ds) ρ2)
def xW (i : Nat) (u : WX) : WX := fun ρ Q => ρ[i]? = some .w ∧ u ρ fun ds ρ2 => Q (.w :: ds) ρ2
/-- arguments -/
def RpA (K : PySem.W.Frag) (b : Bs) (G : Hp) : V → A → Prop
  | v, .d d => Rp K G v d
  | v, .w => ∃ a, b.aw = some a ∧ v = .ref a
def SndX (K : PySem.W.Frag) (ta : TA) (t : WX) : Prop := ∀ (b : Bs) (G : Hp) (ρ : Rho) (σ : L2.St) (H : Hp) (Q : List A → Rho → Prop) (R : List V → Hp → Prop), Sim K b G ρ σ H → t ρ Q →
  (∀ as ρ' vs G' H', Q as ρ' → Xt b ρ σ G H ρ' G' H' → Sim K b G' ρ' σ H' → Paired (RpA K b G') vs as → R vs H') → ta σ H R
theorem rpA_mono {b : Bs} {G G' : Hp} (e : Ex G G') {v : V} {a : A} (h : RpA K b G v a) : RpA K b G' v a := by
  cases a with
  | d d => exact Rp.mono e h
  | w => exact h
theorem sndX_nil : SndX K tNil xNil := fun b G ρ σ H Q R s q k => k _ _ _ G H q .refl s .nil
theorem sndX_cons {te : TE} {ta : TA} {t : WE} {u : WX} (ha : SndE K te t) (hb : SndX K ta u) : SndX K (tCons te ta) (xCons t u) := by
  intro b G ρ σ H Q R s h k
  refine ha b G ρ σ H _ _ s h fun d ka ρ1 v G1 H1 q1 x1 s1 r1 => ?_
  refine frozen (R := fun v H' => ta σ H' fun xs H2 => R (v :: xs) H2) q1 x1 s s1 r1 fun d ρ1 v G1 q1 x1 s1 r1 => ?_
  refine hb b G1 ρ1 σ H1 _ _ s1 q1 fun ds ρ2 vs G2 H2 q2 x2 s2 r2 => ?_
  exact k _ _ _ G2 H2 q2 (x1.trans x2) s2 (.cons (show RpA K b G2 v (.d d) from r1.mono x2.g) r2)
theorem sndX_w {ta : TA} {i : Nat} {u : WX} (hb : SndX K ta u) : SndX K (tCons (tVar i) ta) (xW i u) := by
  intro b G ρ σ H Q R s h k
  obtain ⟨e, h⟩ := h
  obtain ⟨a, e1, e2⟩ := s.ws i e
  refine ⟨_, e2, ?_⟩
  refine hb b G ρ σ H _ _ s h fun ds ρ2 vs G2 H2 q2 x2 s2 r2 => ?_
  exact k _ _ _ G2 H2 q2 x2 s2 (.cons (show RpA K b G2 _ .w from ⟨a, e1, rfl⟩) r2)
/-- what stands for a result between caller and callee -/
def Rr (K : PySem.W.Frag) (b : Bs) (G' H' : Hp) : Kd → V → D → Prop
  | .fz, v, d => Rp K G' v d
  | .nw, v, d => ∃ a, v = .ref a ∧ b.B0 a = none ∧ b.aw ≠ some a ∧ G' a = none ∧ Ob K G' H' a d
  | .br _, _, _ => False
/-- a promise over data, as a promise of the layer -/
def toSp (K : PySem.W.Frag) (sp : FS) : Sp := fun vs H R _ => ∃ (aw : Option Addr) (G : Hp) (as : List A) (q : D → Kd → Prop), Ex G (hd aw H) ∧ (∀ a, aw = some a → WOk K G H a) ∧ Paired (RpA K ⟨aw, G, hd aw H⟩ G) vs as ∧ sp as q ∧
  ∀ d k v G' H', q d k → Ex G G' → Ex G' (hd aw H') → Ex (hd aw H) (hd aw H') → (∀ a o, hd aw H a = some o → G a = none → G' a = none) → (∀ a, aw = some a → WOk K G' H' a) → Rr K ⟨aw, G, hd aw H⟩ G' H' k v d → R v H'
def wCall (sp : FS) (t : WX) : WE := fun ρ Q => t ρ fun as ρ1 => sp as fun d k => Q d k ρ1
theorem snd_call {sp : FS} {ta : TA} {t : WX} {E : XK} (h : SndX K ta t) : SndE K (tCall (toSp K sp) [] E ta) (wCall sp t) := by
  intro b G ρ σ H Q R s hq k
  refine h b G ρ σ H _ _ s hq fun as ρ1 vs G1 H1 q1 x1 s1 r1 => ?_
  rw [List.append_nil]
  refine ⟨b.aw, G1, as, _, s1.sub, s1.wk, Paired.mapP r1 (fun v a r => by cases a with | d d => exact r | w => exact r), q1, fun d kd v G2 H2 q2 g sub hh new wk rr => ?_⟩
  have s2 : Sim K b G2 ρ1 σ H2 := by
    refine ⟨s1.len, sub, s1.g0.trans g, s1.b0.trans hh, fun a o e n => ?_, fun i d e => ?_, fun i d e => ?_, s1.dj, s1.ws, wk⟩
    · exact new a o (s1.b0 a o e) (s1.new a o e n)
    · obtain ⟨v, e1, r⟩ := s1.fz i d e
      exact ⟨v, e1, r.mono g⟩
    · obtain ⟨a, e1, e2, e3, e4, e5⟩ := s1.ow i d e
      obtain ⟨o, ho, _⟩ := e5.there
      have ho' : hd b.aw H1 a = some o := by rw [hd_ne e2]; exact ho
      exact ⟨a, e1, e2, e3, new a o ho' e4, e5.mono g fun u hu => by
        have : hd b.aw H1 a = some u := by rw [hd_ne e2]; exact hu
        exact (hd_some (hh a u this)).2⟩
  have x2 : Xt b ρ1 σ G1 H1 ρ1 G2 H2 := ⟨g, hh, fun a o e n _ => new a o e n, fun _ _ e => e⟩
  refine k d kd ρ1 v G2 H2 q2 (x1.trans x2) s2 ?_
  cases kd with
  | fz => exact rr
  | nw =>
    obtain ⟨a, e0, e1, e2, e3, e4⟩ := rr
    exact ⟨a, e0, Evl.fresh_back x1.h e1, e2, e3, e4⟩
  | br i => exact rr.elim
end VL

namespace VL
open PySem PySem.Spec PyProof.Rows L2
open Evl (Ex)
variable {K : PySem.W.Frag}

/-! ### statements -/
structure PEnds where
  nx : Rho → Prop
  rt : D → Kd → Prop
  bk : Rho → Prop
  ct : Rho → Prop
abbrev WS := PEnds → Rho → Prop
structure EOk (K : PySem.W.Frag) (b : Bs) (P : PEnds) (E : Ends) : Prop where
  nx : ∀ ρ σ G H, P.nx ρ → Sim K b G ρ σ H → E.nx σ H
  rt : ∀ d k v ρ σ G H, P.rt d k → Sim K b G ρ σ H → Rr K b G H k v d → E.rt v H
  bk : ∀ ρ σ G H, P.bk ρ → Sim K b G ρ σ H → E.bk σ H
  ct : ∀ ρ σ G H, P.ct ρ → Sim K b G ρ σ H → E.ct σ H
def SndS (K : PySem.W.Frag) (ts : TS) (t : WS) : Prop := ∀ (b : Bs) (P : PEnds) (E : Ends) (G : Hp) (ρ : Rho) (σ : L2.St) (H : Hp), EOk K b P E → Sim K b G ρ σ H → t P ρ → ts E σ H
section
variable {ts us : TS} {t u : WS} {te : TE} {w : WE}
def wNext : WS := fun P ρ => P.nx ρ
theorem snd_next : SndS K tNext wNext := fun b P E G ρ σ H e s h => e.nx ρ σ G H h s
def wSeq (t u : WS) : WS := fun P ρ => t { P with nx := u P } ρ
theorem snd_seq (ha : SndS K ts t) (hb : SndS K us u) : SndS K (tSeq ts us) (wSeq t u) := fun b P E G ρ σ H e s h =>
  ha b { P with nx := u P } { E with nx := us E } G ρ σ H ⟨fun ρ σ G H h s => hb b P E G ρ σ H e s h, e.rt, e.bk, e.ct⟩ s h
def wBreak : WS := fun P ρ => P.bk ρ
def wCont : WS := fun P ρ => P.ct ρ
theorem snd_break : SndS K tBreak wBreak := fun b P E G ρ σ H e s h => e.bk ρ σ G H h s
theorem snd_cont : SndS K tCont wCont := fun b P E G ρ σ H e s h => e.ct ρ σ G H h s
def Kd.ret : Kd → Kd
  | .br _ => .nw
  | k => k
theorem Rv.rr {b : Bs} {G H G' H' : Hp} {ρ ρ' : Rho} {σ : L2.St} {k : Kd} {v : V} {d : D} (r : Rv K b H G' H' ρ' σ k v d) (s0 : Sim K b G ρ σ H) (s : Sim K b G' ρ' σ H') : Rr K b G' H' k.ret v d := by
  cases k with
  | fz => exact r
  | nw =>
    obtain ⟨a, h0, h1, h2, h3, h4⟩ := r
    exact ⟨a, h0, Evl.fresh_back s0.b0 h1, h2, h3, h4⟩
  | br i =>
    obtain ⟨h1, h2⟩ := r
    obtain ⟨a, e1, e2, e3, e4, e5⟩ := s.ow i d h1
    rw [h2] at e1; cases e1
    exact ⟨a, rfl, e3, e2, e4, e5⟩
def wRet (w : WE) : WS := fun P ρ => w ρ fun d k _ => P.rt d k.ret
theorem snd_ret (h : SndE K te w) : SndS K (tRet te) (wRet w) := fun b P E G ρ σ H e s hq =>
  h b G ρ σ H _ _ s hq fun d k ρ' v G' H' q x s' r => e.rt d _ v ρ' σ G' H' q s' (r.rr s s')
def wRetN : WS := fun P ρ => P.rt .non .fz
theorem snd_retN : SndS K tRetN wRetN := fun b P E G ρ σ H e s h => e.rt .non .fz .non ρ σ G H h s .non
def wIf (c : WT) (t u : WS) : WS := fun P ρ => c ρ fun b ρ1 => if b = true then t P ρ1 else u P ρ1
theorem snd_if {tc : TT} {c : WT} (hc : SndT K tc c) (ha : SndS K ts t) (hb : SndS K us u) : SndS K (tIfS tc ts us) (wIf c t u) := fun b P E G ρ σ H e s h =>
  hc b G ρ σ H _ _ s h fun c ρ1 G1 H1 q1 x1 s1 => by
    cases c with
    | true => exact iteT (ha b P E G1 ρ1 σ H1 e s1 q1)
    | false => exact iteF (hb b P E G1 ρ1 σ H1 e s1 q1)
def wDrop (w : WE) : WS := fun P ρ => w ρ fun _ _ ρ1 => P.nx ρ1
theorem snd_drop (h : SndE K te w) : SndS K (tDrop te) (wDrop w) := fun b P E G ρ σ H e s hq =>
  h b G ρ σ H _ _ s hq fun d k ρ' v G' H' q x s' r => e.nx ρ' σ G' H' q s'
end

/-! ### a value to a name -/
def wgN (i : Nat) (d : D) (k : Kd) (ρ : Rho) (Q : Rho → Prop) : Prop := match k with
  | .fz => Q (ρ.set i (.fz d))
  | .nw => Q (ρ.set i (.ow d))
  | .br j => Q ((ρ.set j (.fz d)).set i (.fz d))
def wAsg (i : Nat) (w : WE) : WS := fun P ρ => w ρ fun d k ρ1 => wgN i d k ρ1 P.nx
section
variable {b : Bs} {G H G' H' : Hp} {ρ ρ' : Rho} {σ : L2.St} {k : Kd} {v : V} {d : D}
theorem Rv.free (r : Rv K b H G' H' ρ' σ .nw v d) (s0 : Sim K b G ρ σ H) (x : Xt b ρ σ G H ρ' G' H') : ∃ a, v = .ref a ∧ b.B0 a = none ∧ b.aw ≠ some a ∧ G' a = none ∧ Ob K G' H' a d ∧ ∀ (j : Nat) (e : D), ρ'[j]? = some (.ow e) → σ[j]? ≠ some (some (.ref a)) := by
  obtain ⟨a, h0, h1, h2, h3, h4⟩ := r
  refine ⟨a, h0, Evl.fresh_back s0.b0 h1, h2, h3, h4, fun j e he z => ?_⟩
  obtain ⟨a', e1, e2, e3, e4, e5⟩ := s0.ow j e (x.own j e he)
  rw [z] at e1; cases e1
  obtain ⟨o', ho', _⟩ := e5.there
  rw [hd_ne e2, ho'] at h1; cases h1
theorem name_ok {i : Nat} {Q : Rho → Prop} {R : L2.St → Hp → Prop} (r : Rv K b H G' H' ρ' σ k v d) (s0 : Sim K b G ρ σ H) (x : Xt b ρ σ G H ρ' G' H') (s : Sim K b G' ρ' σ H') (q : wgN i d k ρ' Q)
    (h : ∀ ρ2 G2, Q ρ2 → Sim K b G2 ρ2 (σ.set i (some v)) H' → R (σ.set i (some v)) H') : R (σ.set i (some v)) H' := by
  cases k with
  | fz => exact h _ _ q (s.setF i r)
  | nw =>
    obtain ⟨a, rfl, h1, h2, h3, h4, no⟩ := r.free s0 x
    exact h _ _ q (s.setO i h2 h1 h3 h4 no)
  | br j =>
    obtain ⟨h1, h2⟩ := r
    obtain ⟨p, o, rfl, ho, hg, hw, h0, rr, s2⟩ := s.frz h1 h2
    exact h _ _ q (s2.setF i rr)
end
theorem snd_asg {i : Nat} {te : TE} {w : WE} (h : SndE K te w) : SndS K (tAsg te (gName i)) (wAsg i w) := fun b P E G ρ σ H e s hq =>
  h b G ρ σ H _ _ s hq fun d k ρ' v G' H' q x s' r => name_ok (R := E.nx) r s x s' q fun ρ2 G2 q2 s2 => e.nx ρ2 _ G2 H' q2 s2

/-! ### frozen data to a target of names -/
abbrev WG := D → Rho → (Rho → Prop) → Prop
abbrev WGs := List D → Rho → (Rho → Prop) → Prop
def GPost (K : PySem.W.Frag) (b : Bs) (G H : Hp) (ρ : Rho) (σ : L2.St) (ρ' : Rho) (σ' : L2.St) : Prop :=
  Sim K b G ρ' σ' H ∧ ∀ (i : Nat) (d : D), ρ'[i]? = some (.ow d) → ρ[i]? = some (.ow d) ∧ σ'[i]? = σ[i]?
def SndG (K : PySem.W.Frag) (tg : TG) (g : WG) : Prop := ∀ (b : Bs) (G : Hp) (ρ : Rho) (σ : L2.St) (H : Hp) (v : V) (d : D) (Q : Rho → Prop) (R : L2.St → Hp → Prop), Sim K b G ρ σ H → Rp K G v d → g d ρ Q →
  (∀ ρ' σ', Q ρ' → GPost K b G H ρ σ ρ' σ' → R σ' H) → tg v σ H R
def SndGs (K : PySem.W.Frag) (tg : TGs) (g : WGs) : Prop := ∀ (b : Bs) (G : Hp) (ρ : Rho) (σ : L2.St) (H : Hp) (vs : List V) (ds : List D) (Q : Rho → Prop) (R : L2.St → Hp → Prop), Sim K b G ρ σ H → RpL K G vs ds → g ds ρ Q →
  (∀ ρ' σ', Q ρ' → GPost K b G H ρ σ ρ' σ' → R σ' H) → tg vs σ H R
def wgName (i : Nat) : WG := fun d ρ Q => Q (ρ.set i (.fz d))
def wgNil : WGs := fun ds ρ Q => match ds with
  | [] => Q ρ
  | _ => False
def wgCons (g : WG) (u : WGs) : WGs := fun ds ρ Q => match ds with
  | d :: r => g d ρ fun ρ1 => u r ρ1 Q
  | [] => False
def wgTup (n : Nat) (u : WGs) : WG := fun d ρ Q => match d with
  | .tup ds => ds.length = n ∧ u ds ρ Q
  | _ => False
theorem sndG_name (i : Nat) : SndG K (gName i) (wgName i) := fun b G ρ σ H v d Q R s r q k => k _ _ q ⟨s.setF i r, fun j e he => by
  by_cases hj : j = i
  · subst hj
    by_cases hl : j < ρ.length
    · rw [List.getElem?_set_self hl] at he; cases he
    · rw [List.getElem?_eq_none (by simpa using hl)] at he; cases he
  · rw [List.getElem?_set_ne (Ne.symm hj)] at he ⊢
    exact ⟨he, rfl⟩⟩
theorem sndG_nil : SndGs K gNil wgNil := fun b G ρ σ H vs ds Q R s r q k => by
  unfold wgNil at q
  split at q
  · cases r
    exact ⟨rfl, k ρ σ q ⟨s, fun _ _ e => ⟨e, rfl⟩⟩⟩
  · exact q.elim
theorem sndG_cons {tg : TG} {tu : TGs} {g : WG} {u : WGs} (h1 : SndG K tg g) (h2 : SndGs K tu u) : SndGs K (gCons tg tu) (wgCons g u) := fun b G ρ σ H vs ds Q R s r q k => by
  unfold wgCons at q
  split at q
  · rename_i d r'
    cases r with
    | cons ra rb =>
      refine ⟨_, _, rfl, h1 b G ρ σ H _ d _ _ s ra q fun ρ1 σ1 q1 p1 => ?_⟩
      exact h2 b G ρ1 σ1 H _ _ _ _ p1.1 rb q1 fun ρ2 σ2 q2 p2 => k ρ2 σ2 q2 ⟨p2.1, fun i d e => by
        obtain ⟨e1, e2⟩ := p2.2 i d e
        obtain ⟨e3, e4⟩ := p1.2 i d e1
        exact ⟨e3, e2.trans e4⟩⟩
  · exact q.elim
theorem sndG_tup {n : Nat} {tu : TGs} {u : WGs} (h : SndGs K tu u) : SndG K (gTup K n tu) (wgTup n u) := fun b G ρ σ H v d Q R s r q k => by
  unfold wgTup at q
  split at q
  · rename_i ds
    cases r with
    | @tup a vs _ e rl => exact ⟨a, vs, rfl, exT s.le e, by rw [rl.length]; exact q.1, h b G ρ σ H vs ds Q R s rl q.2 k⟩
  · exact q.elim
def wAsgT (g : WG) (w : WE) : WS := fun P ρ => w ρ (toF fun d ρ1 => g d ρ1 P.nx)
theorem snd_asgT {tg : TG} {g : WG} {te : TE} {w : WE} (hg : SndG K tg g) (h : SndE K te w) : SndS K (tAsg te tg) (wAsgT g w) := fun b P E G ρ σ H e s hq =>
  h b G ρ σ H _ _ s hq fun d k ρ' v G' H' q x s' r => frozen (R := fun v H' => tg v σ H' E.nx) q x s s' r fun d ρ2 v G2 q2 x2 s2 r2 =>
    hg b G2 ρ2 σ H' v d _ _ s2 r2 q2 fun ρ3 σ3 q3 p3 => e.nx ρ3 σ3 G2 H' q3 p3.1

/-! ### an owned object changes -/
section
variable {b : Bs} {G H : Hp} {ρ : Rho} {σ : L2.St}
theorem Sim.put (s : Sim K b G ρ σ H) {j : Nat} {d0 d : D} {a : Addr} {o : HO} (e : ρ[j]? = some (.ow d0)) (ea : σ[j]? = some (some (.ref a))) (ob : Ob K G (upd H a o) a d) : Sim K b G (ρ.set j (.ow d)) σ (upd H a o) := by
  obtain ⟨a', h1, h2, h3, h4, h5⟩ := s.ow j d0 e
  rw [ea] at h1; cases h1
  have hl : j < σ.length := (List.getElem?_eq_some_iff.mp ea).1
  have es : σ.set j (some (.ref a)) = σ := by
    apply List.ext_getElem?
    intro i
    by_cases hi : i = j
    · subst hi; rw [List.getElem?_set_self hl, ea]
    · rw [List.getElem?_set_ne (Ne.symm hi)]
  have key : ∀ (i : Nat) (x : Slot), (ρ.set j .un)[i]? = some x → x ≠ .un → (i ≠ j ∧ ρ[i]? = some x) := fun i x e' ne => by
    by_cases hi : i = j
    · subst hi
      rw [List.getElem?_set_self (by rw [s.len]; exact hl)] at e'; cases e'; exact absurd rfl ne
    · rw [List.getElem?_set_ne (Ne.symm hi)] at e'; exact ⟨hi, e'⟩
  have hdu : hd b.aw (upd H a o) = upd (hd b.aw H) a o := by
    funext c
    unfold hd upd
    by_cases hc : c = a
    · subst hc; rw [if_neg h2, if_pos rfl, if_pos rfl]
    · rw [if_neg hc, if_neg hc]
  have s0 : Sim K b G (ρ.set j .un) σ (upd H a o) := by
    refine ⟨by simp [s.len], fun c u ec => ?_, s.g0, fun c u ec => ?_, s.new, fun i x e' => s.fz i x (key i _ e' (by simp)).2, fun i x e' => ?_,
      fun i k x y v' hne e1 e2 => s.dj i k x y v' hne (key i _ e1 (by simp)).2 (key k _ e2 (by simp)).2, fun i e' => s.ws i (key i _ e' (by simp)).2, fun c ec => ?_⟩
    · rw [hdu, upd_ne (fun z => by subst z; rw [h4] at ec; cases ec)]; exact s.sub c u ec
    · rw [hdu, upd_ne (fun z => by subst z; rw [h3] at ec; cases ec)]; exact s.b0 c u ec
    · obtain ⟨hi, e2⟩ := key i _ e' (by simp)
      obtain ⟨c, c1, c2, c3, c4, c5⟩ := s.ow i x e2
      have hc : c ≠ a := fun z => by subst z; exact s.dj i j x d0 _ hi e2 e c1 ea
      exact ⟨c, c1, c2, c3, c4, c5.mono (Ex.refl _) fun u hu => by rw [upd_ne hc]; exact hu⟩
    · exact (s.wk c ec).mono (Ex.refl _) (upd_ne fun z => h2 (z ▸ ec))
  have s1 := s0.setO j h2 h3 h4 ob (fun i x e' z => by
    obtain ⟨hi, e2⟩ := key i _ e' (by simp)
    exact s.dj i j x d0 _ hi e2 e z ea)
  rw [List.set_set, es] at s1
  exact s1
end
/-- a change of the list in slot j by a value: what it is before is asked twice, ahead of the value and behind it -/
def wMut (j : Nat) (w : WE) (f : D → D → Option D) : WS := fun P ρ => (∃ ds, ρ[j]? = some (.ow (.lst ds))) ∧ w ρ (toF fun d ρ1 => match ρ1[j]? with
  | some (.ow d0) => match f d0 d with
    | some z => P.nx (ρ1.set j (.ow z))
    | none => False
  | _ => False)
def fAppend : D → D → Option D
  | .lst ds, d => if ds.length < LIM then some (.lst (ds ++ [d])) else none
  | _, _ => none
theorem snd_append {j : Nat} {te : TE} {w : WE} (h : SndE K te w) : SndS K (tDrop (tBM K "list" rAppend (tVar j) (tCons te tNil))) (wMut j w fAppend) := fun b P E G ρ σ H e s hq => by
  obtain ⟨⟨ds0, e0⟩, hq⟩ := hq
  obtain ⟨a, h1, h2, h3, h4, vs0, h5, h6⟩ := s.ow j _ e0
  refine ⟨_, h1, .inl ⟨rfl, _, .inl (.inl h5)⟩, ?_⟩
  refine h b G ρ σ H _ _ s hq fun d k ρ' v G' H' q x s' r => ?_
  refine frozen (R := fun v H' => rAppend (.ref a) [v] H' fun _ H1 => E.nx σ H1) q x s s' r fun d ρ2 v G2 q2 x2 s2 r2 => ?_
  split at q2
  · rename_i d0 e2
    split at q2
    · rename_i z ez
      obtain ⟨a', c1, c2, c3, c4, c5⟩ := s2.ow j d0 e2
      rw [h1] at c1; cases c1
      cases d0 with
      | lst ds =>
        obtain ⟨vs, c6, c7⟩ := c5
        simp only [fAppend] at ez
        split at ez
        · rename_i hl
          cases ez
          exact ⟨a, vs, v, rfl, rfl, c6, by rw [c7.length]; exact lim_lt hl, e.nx _ σ G2 _ q2 (s2.put e2 h1 ⟨_, upd_same, c7.append (.cons r2 .nil)⟩)⟩
        · cases ez
      | _ => simp [fAppend] at ez
    · exact q2.elim
  · exact q2.elim
/-- found.extend(list) -/
def wExtend (j : Nat) (w : WE) : WS := fun P ρ => (∃ ds, ρ[j]? = some (.ow (.lst ds))) ∧ w ρ fun d _ ρ1 => match ρ1[j]?, d with
  | some (.ow (.lst ds)), .lst es => ds.length + es.length ≤ LIM ∧ P.nx (ρ1.set j (.ow (.lst (ds ++ es))))
  | _, _ => False
theorem snd_extend {j : Nat} {te : TE} {w : WE} (h : SndE K te w) : SndS K (tDrop (tBM K "list" rExtend (tVar j) (tCons te tNil))) (wExtend j w) := fun b P E G ρ σ H e s hq => by
  obtain ⟨⟨ds0, e0⟩, hq⟩ := hq
  obtain ⟨a, h1, h2, h3, h4, vs0, h5, h6⟩ := s.ow j _ e0
  refine ⟨_, h1, .inl ⟨rfl, _, .inl (.inl h5)⟩, ?_⟩
  refine h b G ρ σ H _ _ s hq fun d k ρ' v G' H' q x s' r => ?_
  split at q
  · rename_i ds es e2
    obtain ⟨a', c1, c2, c3, c4, vs, c6, c7⟩ := s'.ow j _ e2
    rw [h1] at c1; cases c1
    obtain ⟨a2, us, rfl, o2, o3⟩ := r.ov s'
    have o2' := hd_le _ _ o2
    exact ⟨a, a2, vs, us, rfl, rfl, c6, o2', by rw [c7.length, o3.length]; exact lim_le q.1, e.nx _ σ G' _ q.2 (s'.put e2 h1 ⟨_, upd_same, c7.append o3⟩)⟩
  · exact q.elim
/-- name op= value -/
def wAug (i : Nat) (f : D → D → Oz) (w : WE) : WS := fun P ρ => match ρ[i]? with
  | some (.fz d) => w ρ fun e _ ρ1 => oB (f d e) fun z k => wgN i z k ρ1 P.nx
  | _ => False
theorem snd_aug {i : Nat} {r : R2} {f : D → D → Oz} {te : TE} {w : WE} (ho : OpS K r f) (h : SndE K te w) : SndS K (tAug i te r) (wAug i f w) := fun b P E G ρ σ H e s hq => by
  unfold wAug at hq
  split at hq
  · rename_i d ed
    obtain ⟨x, h1, h2⟩ := s.fz i d ed
    refine ⟨x, h1, ?_⟩
    refine h b G ρ σ H _ _ s hq fun d' k ρ' v G' H' q x' s' r' => ?_
    cases hf : f d d' with
    | none => rw [hf] at q; exact q.elim
    | some zk =>
      obtain ⟨z, kd⟩ := zk
      rw [hf] at q
      exact ho G' (hd b.aw H') H' x v d d' z kd _ s'.sub hd_le ((h2.mono x'.g).ov s'.sub) (r'.ov s') hf
        (res_of s' (Q := fun z k ρ1 => wgN i z k ρ1 P.nx) (fun d k' ρ2 v G2 H2 q x2 s2 r2 => name_ok (R := E.nx) r2 s' x2 s2 q fun ρ3 G3 q3 s3 => e.nx ρ3 _ G3 H2 q3 s3) q)
  · exact hq.elim

/-! ### what is walked -/
abbrev WI := Rho → (List D → Rho → Prop) → Prop
def Yl (K : PySem.W.Frag) (G H : Hp) (d : D) (x : V) (H' : Hp) : Prop := (H' = H ∧ Rp K G x d) ∨ ∃ p vs ds, H p = none ∧ x = .ref p ∧ H' = upd H p (.tup vs) ∧ d = .tup ds ∧ RpL K G vs ds
def Walks (K : PySem.W.Frag) (J : It) (xs : List D) (G B : Hp) : Prop := ∀ (G2 H2 : Hp) (i : Nat), Ex G G2 → Ex B H2 → Ex G2 H2 →
  (∀ d, xs[i]? = some d → J.go i H2 ∧ ∀ x H3, J.yld i H2 x H3 → Yl K G2 H2 d x H3) ∧ (xs.length ≤ i → J.stop i H2)
/-- what is walked is frozen ahead (a for); as it stands (a comprehension) -/
def SndIF (K : PySem.W.Frag) (wi : TI) (t : WI) : Prop := ∀ (b : Bs) (G : Hp) (ρ : Rho) (σ : L2.St) (H : Hp) (Q : List D → Rho → Prop) (R : It → Hp → Prop), Sim K b G ρ σ H → t ρ Q →
  (∀ xs ρ' J G' H', Q xs ρ' → Xt b ρ σ G H ρ' G' H' → Sim K b G' ρ' σ H' → Walks K J xs G' G' → R J H') → wi σ H R
def SndIO (K : PySem.W.Frag) (wi : TI) (t : WI) : Prop := ∀ (b : Bs) (G : Hp) (ρ : Rho) (σ : L2.St) (H : Hp) (Q : List D → Rho → Prop) (R : It → Hp → Prop), Sim K b G ρ σ H → t ρ Q →
  (∀ xs ρ' J G' H', Q xs ρ' → Xt b ρ σ G H ρ' G' H' → Sim K b G' ρ' σ H' → Walks K J xs G' (hd b.aw H') → R J H') → wi σ H R
section
variable {G B : Hp} {a : Addr} {vs : List V} {xs : List D}
theorem walks_list (h : SqL K B a vs) (r : RpL K G vs xs) : Walks K (Itl K a) xs G B := fun G2 H2 i e1 e2 e3 => by
  have hq : SqL K H2 a vs := Evl.ex_l e2 h
  refine ⟨fun d hd => ?_, fun hl => ⟨vs, hq, by rw [r.length]; exact hl⟩⟩
  obtain ⟨v, hv, rv⟩ := r.get hd
  refine ⟨⟨vs, v, hq, hv⟩, fun x H3 y => .inl ⟨y.1, ?_⟩⟩
  have := y.2 vs hq
  rw [hv] at this; cases this
  exact rv.mono e1
theorem walks_tup (h : SqT K B a vs) (r : RpL K G vs xs) : Walks K (Itt K a) xs G B := fun G2 H2 i e1 e2 e3 => by
  have hq : SqT K H2 a vs := Evl.ex_t e2 h
  refine ⟨fun d hd => ?_, fun hl => ⟨vs, hq, by rw [r.length]; exact hl⟩⟩
  obtain ⟨v, hv, rv⟩ := r.get hd
  refine ⟨⟨vs, v, hq, hv⟩, fun x H3 y => .inl ⟨y.1, ?_⟩⟩
  have := y.2 vs hq
  rw [hv] at this; cases this
  exact rv.mono e1
end
/-- lo, lo + 1, .. (n of them) -/
def rng (lo : Int) (n : Nat) : List D := (List.range n).map fun (i : Nat) => .int (lo + (i : Int))
theorem walks_rng {G B : Hp} (lo : Int) (n : Nat) : Walks K (Itr lo n) (rng lo n) G B := fun G2 H2 i e1 e2 e3 => by
  refine ⟨fun d hd => ?_, fun hl => by simpa [rng, Itr] using hl⟩
  unfold rng at hd
  rw [List.getElem?_map] at hd
  cases hr : (List.range n)[i]? with
  | none => rw [hr] at hd; cases hd
  | some j =>
    rw [hr] at hd
    obtain ⟨h1, h2⟩ := List.getElem?_eq_some_iff.mp hr
    rw [List.getElem_range] at h2
    subst h2
    cases hd
    refine ⟨by simpa [Itr] using h1, fun x H3 y => .inl ⟨y.1, ?_⟩⟩
    have := y.2
    subst this
    exact .int _
def seqOf : D → Option (List D)
  | .lst xs => some xs
  | .tup xs => some xs
  | .fl xs => some xs
  | .ft xs => some xs
  | _ => none
/-- a list or a tuple -/
def iSeq (K : PySem.W.Frag) (tl : TE) : TI := fun σ H R => tl σ H fun x H1 => ∃ a, x = .ref a ∧ (((∃ xs, SqL K H1 a xs) ∧ R (Itl K a) H1) ∨ ((∃ xs, SqT K H1 a xs) ∧ R (Itt K a) H1))
theorem pi_seq {X : Cx} {tg l : Expr} {tl : TE} (hl : PE X l tl) : PI X tg l (iSeq X.K tl) := by
  refine ⟨fun pins s σ H R I h => ?_⟩
  refine thn (hl.run pins s σ H _ I h) fun v s1 ⟨x, H1, I1, r1, q1⟩ => ?_
  obtain ⟨a, e, q⟩ := q1
  subst e
  cases r1
  rcases q with ⟨⟨xs, hq⟩, q⟩ | ⟨⟨xs, hq⟩, q⟩
  · obtain ⟨its, rv, p, hz⟩ := I1.list hq
    refine wpAny_pyIter_list p.isList ?_
    refine ⟨s1.heap.objs.size, [s1.heap.objs.size], _, _, H1, rfl, I1.kept (t' := s1.toks) fun b o e => Heap.get?_push_of_some _ e, turn_list a _, ⟨_, Heap.get?_push_size _ rfl, rfl, rfl⟩, fun b hb => ?_, q⟩
    have e : b = s1.heap.objs.size := by simpa using hb
    subst e
    exact I1.fpOk (Nat.le_refl _) (I1.hok.fresh (Nat.le_refl _))
  · obtain ⟨its, rv, p, hz⟩ := I1.tuple hq
    refine wpAny_pyIter_tuple (show s1.heap.IsTuple a its.toArray from p) ?_
    refine ⟨s1.heap.objs.size, [s1.heap.objs.size], _, _, H1, rfl, I1.kept (t' := s1.toks) fun b o e => Heap.get?_push_of_some _ e, turn_tuple a _, ⟨_, Heap.get?_push_size _ rfl, rfl, rfl⟩, fun b hb => ?_, q⟩
    have e : b = s1.heap.objs.size := by simpa using hb
    subst e
    exact I1.fpOk (Nat.le_refl _) (I1.hok.fresh (Nat.le_refl _))
def wiF (w : WE) : WI := fun ρ Q => w ρ (toF fun d ρ1 => match seqOf d with
  | some xs => Q xs ρ1
  | none => False)
def wiO (w : WE) : WI := fun ρ Q => w ρ fun d _ ρ1 => match seqOf d with
  | some xs => Q xs ρ1
  | none => False
theorem seq_go {G B H : Hp} {v : V} {d : D} {xs : List D} {R : It → Hp → Prop} (e : Ex G B) (e2 : Ex B H) (o : Ov K G B v d) (hs : seqOf d = some xs) (k : ∀ J, Walks K J xs G B → R J H) :
    ∃ a, v = .ref a ∧ (((∃ xs, SqL K H a xs) ∧ R (Itl K a) H) ∨ ((∃ xs, SqT K H a xs) ∧ R (Itt K a) H)) := by
  cases d with
  | lst ds =>
    cases hs
    obtain ⟨a, vs, rfl, h1, h2⟩ := o
    exact ⟨a, rfl, .inl ⟨⟨vs, .inl (.inl (e2 _ _ h1))⟩, k _ (walks_list (.inl (.inl h1)) h2)⟩⟩
  | tup ds =>
    cases hs
    cases (show Rp K G v (.tup xs) from o) with
    | @tup a vs _ h1 h2 => exact ⟨a, rfl, .inr ⟨⟨vs, exT (e.trans e2) h1⟩, k _ (walks_tup (exT e h1) h2)⟩⟩
  | ft ds =>
    cases hs
    cases (show Rp K G v (.ft xs) from o) with
    | @ft a vs _ h1 h2 => exact ⟨a, rfl, .inr ⟨⟨vs, Evl.ex_t (e.trans e2) h1⟩, k _ (walks_tup (Evl.ex_t e h1) h2)⟩⟩
  | fl ds =>
    cases hs
    cases (show Rp K G v (.fl xs) from o) with
    | @fl a vs _ h1 h2 => exact ⟨a, rfl, .inl ⟨⟨vs, Evl.ex_l (e.trans e2) h1⟩, k _ (walks_list (Evl.ex_l e h1) h2)⟩⟩
  | _ => cases hs
theorem sndIO_seq {te : TE} {w : WE} (h : SndE K te w) : SndIO K (iSeq K te) (wiO w) := fun b G ρ σ H Q R s hq k => by
  refine h b G ρ σ H _ _ s hq fun d kd ρ' v G' H' q x s' r => ?_
  cases hs : seqOf d with
  | none => rw [hs] at q; exact q.elim
  | some xs =>
    rw [hs] at q
    exact seq_go s'.sub hd_le (r.ov s') hs fun J wk => k xs ρ' J G' H' q x s' wk
theorem sndIF_seq {te : TE} {w : WE} (h : SndE K te w) : SndIF K (iSeq K te) (wiF w) := fun b G ρ σ H Q R s hq k => by
  refine h b G ρ σ H _ _ s hq fun d kd ρ' v G' H' q x s' r => ?_
  refine frozen (R := fun v H' => ∃ a, v = .ref a ∧ (((∃ xs, SqL K H' a xs) ∧ R (Itl K a) H') ∨ ((∃ xs, SqT K H' a xs) ∧ R (Itt K a) H'))) q x s s' r fun d ρ2 v G2 q2 x2 s2 r2 => ?_
  cases hs : seqOf d with
  | none => rw [hs] at q2; exact q2.elim
  | some xs =>
    rw [hs] at q2
    exact seq_go (Ex.refl _) s2.le (r2.ov (Ex.refl _)) hs fun J wk => k xs ρ2 J G2 H' q2 x2 s2 wk
def i62 (i : Int) : Prop := -4611686018427387904 ≤ i ∧ i < 4611686018427387904
def wiR1 (t : WA) : WI := fun ρ Q => t ρ fun ds ρ1 => match ds with
  | [.int j] => i62 j ∧ Q (rng 0 j.toNat) ρ1
  | _ => False
def wiR2 (t : WA) : WI := fun ρ Q => t ρ fun ds ρ1 => match ds with
  | [.int i, .int j] => i62 i ∧ i62 j ∧ Q (rng i (j - i).toNat) ρ1
  | _ => False
theorem ov_int {G B : Hp} {v : V} {i : Int} (h : Ov K G B v (.int i)) : v = .int i := by
  cases (show Rp K G v (.int i) from h)
  rfl
theorem ov_bl {G B : Hp} {v : V} {i : Bool} (h : Ov K G B v (.bl i)) : v = .bl i := by
  cases (show Rp K G v (.bl i) from h)
  rfl
theorem ov_str {G B : Hp} {v : V} {i : Str} (h : Ov K G B v (.str i)) : v = .str i := by
  cases (show Rp K G v (.str i) from h)
  rfl
theorem ov_non {G B : Hp} {v : V} (h : Ov K G B v .non) : v = .non := by
  cases (show Rp K G v .non from h)
  rfl
section
variable {ta : TA} {t : WA}
theorem sndIO_r1 (h : SndO K ta t) : SndIO K (iRng1 ta) (wiR1 t) := fun b G ρ σ H Q R s hq k => by
  refine h b G ρ σ H _ _ s hq fun ds ρ' vs G' H' q x s' r => ?_
  split at q
  · cases r with
    | cons r1 r2 =>
      cases r2
      obtain rfl := ov_int r1
      exact ⟨_, rfl, by have := q.1.1; omega, by have := q.1.2; omega, k _ ρ' _ G' H' q.2 x s' (walks_rng _ _)⟩
  · exact q.elim
theorem sndIO_r2 (h : SndO K ta t) : SndIO K (iRng2 ta) (wiR2 t) := fun b G ρ σ H Q R s hq k => by
  refine h b G ρ σ H _ _ s hq fun ds ρ' vs G' H' q x s' r => ?_
  split at q
  · cases r with
    | cons r1 r2 =>
      cases r2 with
      | cons r2 r3 =>
        cases r3
        obtain rfl := ov_int r1
        obtain rfl := ov_int r2
        obtain ⟨⟨a1, a2⟩, ⟨a3, a4⟩, q⟩ := q
        exact ⟨_, _, rfl, ⟨by omega, by omega, by omega, by omega⟩, k _ ρ' _ G' H' q x s' (walks_rng _ _)⟩
  · exact q.elim
theorem sndIF_r1 (h : SndO K ta t) : SndIF K (iRng1 ta) (wiR1 t) := fun b G ρ σ H Q R s hq k => by
  refine h b G ρ σ H _ _ s hq fun ds ρ' vs G' H' q x s' r => ?_
  split at q
  · cases r with
    | cons r1 r2 =>
      cases r2
      obtain rfl := ov_int r1
      exact ⟨_, rfl, by have := q.1.1; omega, by have := q.1.2; omega, k _ ρ' _ G' H' q.2 x s' (walks_rng _ _)⟩
  · exact q.elim
theorem sndIF_r2 (h : SndO K ta t) : SndIF K (iRng2 ta) (wiR2 t) := fun b G ρ σ H Q R s hq k => by
  refine h b G ρ σ H _ _ s hq fun ds ρ' vs G' H' q x s' r => ?_
  split at q
  · cases r with
    | cons r1 r2 =>
      cases r2 with
      | cons r2 r3 =>
        cases r3
        obtain rfl := ov_int r1
        obtain rfl := ov_int r2
        obtain ⟨⟨a1, a2⟩, ⟨a3, a4⟩, q⟩ := q
        exact ⟨_, _, rfl, ⟨by omega, by omega, by omega, by omega⟩, k _ ρ' _ G' H' q x s' (walks_rng _ _)⟩
  · exact q.elim
end

/-! ### for, while -/
def wLoop (g : WG) (tb : WS) (P : PEnds) : List D → Rho → Prop
  | [], ρ => P.nx ρ
  | x :: r, ρ => g x ρ fun ρ1 => tb ⟨wLoop g tb P r, P.rt, P.nx, wLoop g tb P r⟩ ρ1
def wFor (wi : WI) (g : WG) (tb : WS) : WS := fun P ρ => wi ρ fun xs ρ1 => wLoop g tb P xs ρ1
theorem yl_go {b : Bs} {G H H' : Hp} {ρ : Rho} {σ : L2.St} {d : D} {x : V} {C : Prop} (s : Sim K b G ρ σ H) (y : Yl K G H d x H') (k : ∀ G', Ex G G' → Xt b ρ σ G H ρ G' H' → Sim K b G' ρ σ H' → Rp K G' x d → C) : C := by
  rcases y with ⟨rfl, r⟩ | ⟨p, vs, ds, hp, rfl, rfl, rfl, r⟩
  · exact k G (Ex.refl _) .refl s r
  · exact k _ (ex_upd (s.fresh hp)) (.laidF hp (s.fresh hp)) (s.laidF hp) (.tup upd_same (r.mono (ex_upd (s.fresh hp))))
theorem snd_for {wi : TI} {t : WI} {tg : TG} {g : WG} {ts : TS} {tb : WS} (hi : SndIF K wi t) (hg : SndG K tg g) (hb : SndS K ts tb) : SndS K (tFor wi tg ts) (wFor t g tb) := fun b P E G ρ σ H e s hq => by
  refine hi b G ρ σ H _ _ s hq fun xs ρ1 J G1 H1 q1 x1 s1 wk => ?_
  refine ⟨fun i m σ H => m = xs.length - i ∧ i ≤ xs.length ∧ ∃ G2 ρ2, Sim K b G2 ρ2 σ H ∧ Ex G1 G2 ∧ wLoop g tb P (xs.drop i) ρ2, ⟨_, rfl, Nat.zero_le _, G1, ρ1, s1, Ex.refl _, q1⟩, ?_⟩
  rintro i m σ2 H2 ⟨rfl, hi2, G2, ρ2, s2, g2, q2⟩
  obtain ⟨w1, w2⟩ := wk G2 H2 i g2 (g2.trans s2.le) s2.le
  by_cases hlt : i < xs.length
  · obtain ⟨go, yl⟩ := w1 xs[i] (List.getElem?_eq_getElem hlt)
    rw [List.drop_eq_getElem_cons hlt] at q2
    refine .inr ⟨go, fun σ' H' => ∃ G' ρ', Sim K b G' ρ' σ' H' ∧ Ex G1 G' ∧ wLoop g tb P (xs.drop (i + 1)) ρ', fun σ' H' ⟨G', ρ', a1, a2, a3⟩ => ⟨xs.length - (i + 1), by omega, rfl, hlt, G', ρ', a1, a2, a3⟩, fun x H' y => ?_⟩
    refine yl_go s2 (yl x H' y) fun G3 g3 x3 s3 r3 => ?_
    refine hg b G3 ρ2 σ2 H' x _ _ _ s3 r3 q2 fun ρ4 σ4 q4 p4 => ?_
    -- the body, from G3 on: what it leaves frozen stays
    have b' : Sim K ⟨b.aw, G3, b.B0⟩ G3 ρ4 σ4 H' := ⟨p4.1.len, p4.1.sub, Ex.refl _, p4.1.b0, fun a o e1 e2 => e2, p4.1.fz, p4.1.ow, p4.1.dj, p4.1.ws, p4.1.wk⟩
    have back : ∀ {ρ σ G H}, Sim K ⟨b.aw, G3, b.B0⟩ G ρ σ H → Sim K b G ρ σ H ∧ Ex G1 G := fun {ρ σ G H} z =>
      ⟨⟨z.len, z.sub, s3.g0.trans z.g0, z.b0, fun a o e1 e2 => z.new a o e1 (s3.new a o e1 e2), z.fz, z.ow, z.dj, z.ws, z.wk⟩, (g2.trans g3).trans z.g0⟩
    refine hb ⟨b.aw, G3, b.B0⟩ _ _ G3 ρ4 σ4 H' ⟨fun ρ σ G H q z => ?_, fun d k v ρ σ G H q z r => ?_, fun ρ σ G H q z => ?_, fun ρ σ G H q z => ?_⟩ b' q4
    · exact ⟨G, ρ, (back z).1, (back z).2, q⟩
    · exact e.rt d k v ρ σ G H q (back z).1 (by cases k <;> exact r)
    · exact e.nx ρ σ G H q (back z).1
    · exact ⟨G, ρ, (back z).1, (back z).2, q⟩
  · have ei : i = xs.length := by omega
    subst ei
    rw [List.drop_length] at q2
    exact .inl ⟨w2 (Nat.le_refl _), e.nx ρ2 σ2 G2 H2 q2 s2⟩
def wWhile (c : WT) (tb : WS) : WS := fun P ρ => ∃ W : Nat → Rho → Prop, (∃ m, W m ρ) ∧ ∀ m ρ, W m ρ → c ρ fun x ρ1 => if x = true then tb ⟨fun ρ' => ∃ m', m' < m ∧ W m' ρ', P.rt, P.nx, fun ρ' => ∃ m', m' < m ∧ W m' ρ'⟩ ρ1 else P.nx ρ1
theorem snd_while {tc : TT} {c : WT} {ts : TS} {tb : WS} (hc : SndT K tc c) (hb : SndS K ts tb) : SndS K (tWhile tc ts) (wWhile c tb) := fun b P E G ρ σ H e s hq => by
  obtain ⟨W, ⟨m0, w0⟩, turn⟩ := hq
  refine ⟨fun m σ H => ∃ G ρ, Sim K b G ρ σ H ∧ W m ρ, ⟨m0, G, ρ, s, w0⟩, ?_⟩
  rintro m σ1 H1 ⟨G1, ρ1, s1, w1⟩
  refine hc b G1 ρ1 σ1 H1 _ _ s1 (turn m ρ1 w1) fun c ρ2 G2 H2 q2 x2 s2 => ?_
  cases c with
  | true =>
    refine iteT ⟨fun σ' H' => ∃ m', m' < m ∧ ∃ G ρ, Sim K b G ρ σ' H' ∧ W m' ρ, fun σ' H' z => z, ?_⟩
    refine hb b ⟨fun ρ' => ∃ m', m' < m ∧ W m' ρ', P.rt, P.nx, fun ρ' => ∃ m', m' < m ∧ W m' ρ'⟩ _ G2 ρ2 σ1 H2 ⟨fun ρ σ G H q z => ?_, e.rt, fun ρ σ G H q z => e.nx ρ σ G H q z, fun ρ σ G H q z => ?_⟩ s2 q2
    · obtain ⟨m', h1, h2⟩ := q; exact ⟨m', h1, G, ρ, z, h2⟩
    · obtain ⟨m', h1, h2⟩ := q; exact ⟨m', h1, G, ρ, z, h2⟩
  | false => exact iteF (e.nx ρ2 σ1 G2 H2 q2 s2)
end VL

namespace VL
open PySem PySem.Spec PyProof.Rows L2
open Evl (Ex)
variable {K : PySem.W.Frag}

/-! ### comprehensions -/
def wipeR (ρ : Rho) : List Nat → Rho
  | [] => ρ
  | v :: vs => (wipeR ρ vs).set v .un
/-- behind it: the slots vs as they were ahead -/
def restR (ρ ρ' : Rho) : List Nat → Rho
  | [] => ρ'
  | v :: vs => (restR ρ ρ' vs).set v (ρ.getD v .un)
theorem wipeR_len (ρ : Rho) : ∀ vs : List Nat, (wipeR ρ vs).length = ρ.length
  | [] => rfl
  | v :: vs => by unfold wipeR; rw [List.length_set, wipeR_len ρ vs]
theorem wipeR_get (ρ : Rho) (i : Nat) : ∀ vs : List Nat, (wipeR ρ vs)[i]? = if i ∈ vs ∧ i < ρ.length then some .un else ρ[i]?
  | [] => by rw [if_neg (by simp)]; rfl
  | v :: vs => by
    unfold wipeR
    by_cases hv : v = i
    · subst hv
      by_cases hl : v < ρ.length
      · rw [List.getElem?_set_self (by rw [wipeR_len]; exact hl), if_pos ⟨by simp, hl⟩]
      · rw [List.getElem?_eq_none (by simp [wipeR_len]; omega), if_neg (by omega), List.getElem?_eq_none (by omega)]
    · rw [List.getElem?_set_ne hv, wipeR_get ρ i vs]
      have : (i ∈ v :: vs) ↔ i ∈ vs := by simp [Ne.symm hv]
      simp only [this]
theorem restR_len (ρ ρ' : Rho) : ∀ vs : List Nat, (restR ρ ρ' vs).length = ρ'.length
  | [] => rfl
  | v :: vs => by unfold restR; rw [List.length_set, restR_len ρ ρ' vs]
theorem restR_get (ρ ρ' : Rho) (hl : ρ.length = ρ'.length) (i : Nat) : ∀ vs : List Nat, (restR ρ ρ' vs)[i]? = if i ∈ vs then ρ[i]? else ρ'[i]?
  | [] => by rw [if_neg (by simp)]; rfl
  | v :: vs => by
    unfold restR
    by_cases hv : v = i
    · subst hv
      rw [if_pos (by simp)]
      by_cases hv : v < ρ.length
      · rw [List.getElem?_set_self (by rw [restR_len, ← hl]; exact hv), List.getD_eq_getElem?_getD, List.getElem?_eq_getElem hv]; rfl
      · rw [List.getElem?_eq_none (by rw [List.length_set, restR_len, ← hl]; omega), List.getElem?_eq_none (by omega)]
    · rw [List.getElem?_set_ne hv, restR_get ρ ρ' hl i vs]
      have : (i ∈ v :: vs) ↔ i ∈ vs := by simp [Ne.symm hv]
      simp only [this]
theorem wipe_get (σ : L2.St) (i : Nat) : ∀ vs : List Nat, (wipe σ vs)[i]? = if i ∈ vs ∧ i < σ.length then some none else σ[i]?
  | [] => by rw [if_neg (by simp)]; rfl
  | v :: vs => by
    unfold wipe
    by_cases hv : v = i
    · subst hv
      by_cases hl : v < σ.length
      · rw [List.getElem?_set_self (by rw [wipe_length]; exact hl), if_pos ⟨by simp, hl⟩]
      · rw [List.getElem?_eq_none (by simp [wipe_length]; omega), if_neg (by omega), List.getElem?_eq_none (by omega)]
    · rw [List.getElem?_set_ne hv, wipe_get σ i vs]
      have : (i ∈ v :: vs) ↔ i ∈ vs := by simp [Ne.symm hv]
      simp only [this]
section
variable {b : Bs} {G H : Hp} {ρ : Rho} {σ : L2.St}
theorem Sim.wipe (s : Sim K b G ρ σ H) (vs : List Nat) : Sim K b G (wipeR ρ vs) (L2.wipe σ vs) H := by
  have key : ∀ (i : Nat) (x : Slot), (wipeR ρ vs)[i]? = some x → x ≠ .un → i ∉ vs ∧ ρ[i]? = some x ∧ (L2.wipe σ vs)[i]? = σ[i]? := fun i x e ne => by
    rw [wipeR_get] at e
    split at e
    · cases e; exact absurd rfl ne
    · rename_i h
      have hl : i < ρ.length := (List.getElem?_eq_some_iff.mp e).1
      have hn : i ∉ vs := fun z => h ⟨z, hl⟩
      exact ⟨hn, e, by rw [wipe_get, if_neg (fun z => hn z.1)]⟩
  refine ⟨by rw [wipeR_len, L2.wipe_length, s.len], s.sub, s.g0, s.b0, s.new, fun i d e => ?_, fun i d e => ?_, fun i j d e v hne e1 e2 e3 e4 => ?_, fun i e => ?_, s.wk⟩
  · obtain ⟨_, h2, h3⟩ := key i _ e (by simp)
    rw [h3]; exact s.fz i d h2
  · obtain ⟨_, h2, h3⟩ := key i _ e (by simp)
    rw [h3]; exact s.ow i d h2
  · obtain ⟨_, h2, h3⟩ := key i _ e1 (by simp)
    obtain ⟨_, h5, h6⟩ := key j _ e2 (by simp)
    rw [h3] at e3; rw [h6] at e4
    exact s.dj i j d e v hne h2 h5 e3 e4
  · obtain ⟨_, h2, h3⟩ := key i _ e (by simp)
    rw [h3]; exact s.ws i h2
theorem own_wipe {ρ : Rho} {σ : L2.St} {vs : List Nat} {a : Addr} (h : Own (wipeR ρ vs) (L2.wipe σ vs) a) : Own ρ σ a := by
  obtain ⟨i, d, e1, e2⟩ := h
  rw [wipeR_get] at e1
  split at e1
  · cases e1
  · rename_i h
    have hl : i < ρ.length := (List.getElem?_eq_some_iff.mp e1).1
    have hn : i ∉ vs := fun z => h ⟨z, hl⟩
    rw [wipe_get, if_neg (fun z => hn z.1)] at e2
    exact ⟨i, d, e1, e2⟩
end
theorem wipe_set {σ : L2.St} {i : Nat} {x : Option V} {vs : List Nat} (h : i ∈ vs) : wipe (σ.set i x) vs = wipe σ vs := by
  apply List.ext_getElem?
  intro j
  rw [wipe_get, wipe_get, List.length_set]
  by_cases hj : j ∈ vs ∧ j < σ.length
  · rw [if_pos hj, if_pos hj]
  · rw [if_neg hj, if_neg hj]
    by_cases hij : i = j
    · subst hij
      have hl : σ.length ≤ i := by
        apply Nat.le_of_not_lt
        intro z; exact hj ⟨h, z⟩
      rw [List.getElem?_eq_none (by simpa using hl), List.getElem?_eq_none hl]
    · rw [List.getElem?_set_ne hij]
theorem hd_upd {aw : Option Addr} {H : Hp} {a : Addr} {o : HO} (h : aw ≠ some a) : hd aw (upd H a o) = upd (hd aw H) a o := by
  funext c
  unfold hd upd
  by_cases hc : c = a
  · subst hc; rw [if_neg h, if_pos rfl, if_pos rfl]
  · rw [if_neg hc, if_neg hc]
/-- an object that nobody knows of changes -/
theorem Sim.poke {b : Bs} {G H : Hp} {ρ : Rho} {σ : L2.St} (s : Sim K b G ρ σ H) {p : Addr} {o : HO} (hw : b.aw ≠ some p) (h0 : b.B0 p = none) (hg : G p = none) (no : ∀ (i : Nat) (d : D), ρ[i]? = some (.ow d) → σ[i]? ≠ some (some (.ref p))) : Sim K b G ρ σ (upd H p o) := by
  refine ⟨s.len, fun c u e => ?_, s.g0, fun c u e => ?_, s.new, s.fz, fun i d e => ?_, s.dj, s.ws, fun c e => ?_⟩
  · rw [hd_upd hw, upd_ne fun z => by subst z; rw [hg] at e; cases e]; exact s.sub c u e
  · rw [hd_upd hw, upd_ne fun z => by subst z; rw [h0] at e; cases e]; exact s.b0 c u e
  · obtain ⟨a, h1, h2, h3, h4, h5⟩ := s.ow i d e
    have : a ≠ p := fun z => by subst z; exact no i d e h1
    exact ⟨a, h1, h2, h3, h4, h5.mono (Ex.refl _) fun u hu => by rw [upd_ne this]; exact hu⟩
  · exact (s.wk c e).mono (Ex.refl _) (upd_ne fun z => hw (z ▸ e))
/-- a target keeps to the slots vs -/
def TgIn (tg : TG) (vs : List Nat) : Prop := ∀ (v : V) (σ σ0 : L2.St) (H : Hp) (R R' : L2.St → Hp → Prop), wipe σ vs = σ0 → (∀ σ' H', wipe σ' vs = σ0 → R σ' H' → R' σ' H') → tg v σ H R → tg v σ H R'
def TgsIn (tg : TGs) (vs : List Nat) : Prop := ∀ (v : List V) (σ σ0 : L2.St) (H : Hp) (R R' : L2.St → Hp → Prop), wipe σ vs = σ0 → (∀ σ' H', wipe σ' vs = σ0 → R σ' H' → R' σ' H') → tg v σ H R → tg v σ H R'
theorem tgIn_name {i : Nat} {vs : List Nat} (h : i ∈ vs) : TgIn (gName i) vs := fun v σ σ0 H R R' e k q => k _ _ ((wipe_set h).trans e) q
theorem tgIn_nil {vs : List Nat} : TgsIn gNil vs := fun v σ σ0 H R R' e k q => ⟨q.1, k _ _ e q.2⟩
theorem tgIn_cons {g : TG} {u : TGs} {vs : List Nat} (h1 : TgIn g vs) (h2 : TgsIn u vs) : TgsIn (gCons g u) vs := fun v σ σ0 H R R' e k q => by
  obtain ⟨x, r, rfl, q⟩ := q
  exact ⟨x, r, rfl, h1 x σ σ0 H _ _ e (fun σ' H' e' q' => h2 r σ' σ0 H' R R' e' k q') q⟩
theorem tgIn_tup {n : Nat} {u : TGs} {vs : List Nat} (h : TgsIn u vs) : TgIn (gTup K n u) vs := fun v σ σ0 H R R' e k q => by
  obtain ⟨a, xs, rfl, h1, h2, q⟩ := q
  exact ⟨a, xs, rfl, h1, h2, h xs σ σ0 H R R' e k q⟩
def wCompL (g : WG) (tt : WT) (t : WE) (vs : List Nat) : List D → List D → Rho → (List D → Rho → Prop) → Prop
  | [], acc, ρ, Q => Q acc ρ
  | x :: r, acc, ρ, Q => g x ρ fun ρ1 => tt ρ1 fun c ρ2 => if c = true then t ρ2 (toF fun d ρ3 => acc.length < LIM ∧ wCompL g tt t vs r (acc ++ [d]) (wipeR ρ3 vs) Q) else wCompL g tt t vs r acc (wipeR ρ2 vs) Q
def wComp (wi : WI) (g : WG) (tt : WT) (t : WE) (vs : List Nat) : WE := fun ρ Q => wi ρ fun xs ρ1 => wCompL g tt t vs xs [] (wipeR ρ1 vs) fun ds ρ2 => Q (.lst ds) .nw (restR ρ1 ρ2 vs)
def wYes : WT := fun ρ Q => Q true ρ
theorem snd_yes : SndT K tYes wYes := fun b G ρ σ H Q R s q k => k true ρ G H q .refl s
theorem snd_comp {wi : TI} {t : WI} {tg : TG} {g : WG} {tt : TT} {c : WT} {te : TE} {w : WE} {vs : List Nat} (hi : SndIO K wi t) (hg : SndG K tg g) (hin : TgIn tg vs) (hc : SndT K tt c) (he : SndE K te w) : SndE K (tLc wi tg tt te vs) (wComp t g c w vs) := by
  intro b G ρ σ H Q R s hq k
  refine hi b G ρ σ H _ _ s hq fun xs ρ1 J G1 H1 q1 x1 s1 wk Dl hD => ?_
  have hwD := s1.aw_ne hD
  have h0D := s1.fresh0 hD
  have hfD : hd b.aw H1 Dl = none := hd_none hD
  let Qc : List D → Rho → Prop := fun ds ρ2 => Q (.lst ds) .nw (restR ρ1 ρ2 vs)
  refine ⟨fun i m H => m = xs.length - i ∧ i ≤ xs.length ∧ ∃ G2 ρ2 va acc, Sim K b G2 ρ2 (L2.wipe σ vs) H ∧ Xt b (wipeR ρ1 vs) (L2.wipe σ vs) G1 H1 ρ2 G2 H ∧ H Dl = some (.lst va) ∧ RpL K G2 va acc ∧ G2 Dl = none ∧ wCompL g c w vs (xs.drop i) acc ρ2 Qc,
    ⟨_, rfl, Nat.zero_le _, G1, wipeR ρ1 vs, [], [], (s1.wipe vs).laid hD, .laid hD, upd_same, .nil, s1.fresh hD, q1⟩, ?_⟩
  rintro i m H2 ⟨rfl, hi2, G2, ρ2, va, acc, s2, x2, hDl, ra, gD, q2⟩
  have e12 : Ex (hd b.aw H1) H2 := x2.h.trans hd_le
  obtain ⟨w1, w2⟩ := wk G2 H2 i x2.g e12 s2.le
  have noD : ∀ {ρ' G' H'}, Xt b (wipeR ρ1 vs) (L2.wipe σ vs) G1 H1 ρ' G' H' → ∀ (j : Nat) (d : D), ρ'[j]? = some (.ow d) → (L2.wipe σ vs)[j]? ≠ some (some (.ref Dl)) := fun {ρ' G' H'} x j d e z => by
    obtain ⟨a, e1, e2, e3, e4, e5⟩ := (s1.wipe vs).ow j d (x.own j d e)
    rw [z] at e1; cases e1
    exact e5.known hD
  by_cases hlt : i < xs.length
  · obtain ⟨go, yl⟩ := w1 xs[i] (List.getElem?_eq_getElem hlt)
    rw [List.drop_eq_getElem_cons hlt] at q2
    refine .inr ⟨go, fun H' => ∃ G' ρ' va acc, Sim K b G' ρ' (L2.wipe σ vs) H' ∧ Xt b (wipeR ρ1 vs) (L2.wipe σ vs) G1 H1 ρ' G' H' ∧ H' Dl = some (.lst va) ∧ RpL K G' va acc ∧ G' Dl = none ∧ wCompL g c w vs (xs.drop (i + 1)) acc ρ' Qc,
      fun H' ⟨G', ρ', va, acc, a1⟩ => ⟨xs.length - (i + 1), by omega, rfl, hlt, G', ρ', va, acc, a1⟩, fun x H' y => ?_⟩
    refine yl_go s2 (yl x H' y) fun G3 g3 x3 s3 r3 => ?_
    have x3' := x2.trans x3
    have hDl3 : H' Dl = some (.lst va) := (hd_some (x3.h Dl _ (by rw [hd_ne hwD]; exact hDl))).2
    have gD3 : G3 Dl = none := x3.new Dl _ (by rw [hd_ne hwD]; exact hDl) gD fun ⟨j, d, z1, z2⟩ => noD x2 j d z1 z2
    have q2 : g xs[i] ρ2 fun ρ1 => c ρ1 fun c' ρ2 => if c' = true then w ρ2 (toF fun d ρ3 => acc.length < LIM ∧ wCompL g c w vs (xs.drop (i + 1)) (acc ++ [d]) (wipeR ρ3 vs) Qc) else wCompL g c w vs (xs.drop (i + 1)) acc (wipeR ρ2 vs) Qc := q2
    have hww : L2.wipe (L2.wipe σ vs) vs = L2.wipe σ vs := by
      apply List.ext_getElem?
      intro j
      rw [wipe_get, wipe_length]
      split
      · rename_i h; rw [wipe_get, if_pos h]
      · rfl
    refine hin x (L2.wipe σ vs) (L2.wipe σ vs) H' (fun σ' H'' => L2.wipe σ' vs = L2.wipe σ vs → tt σ' H'' fun b H3 => if b = true then te σ' H3 fun y H4 => ∃ acc, H4 Dl = some (.lst acc) ∧ acc.length < sizeLine ∧ ∃ G' ρ' va ac, Sim K _ G' ρ' (L2.wipe σ vs) (upd H4 Dl (.lst (acc ++ [y]))) ∧ Xt _ (wipeR ρ1 vs) (L2.wipe σ vs) G1 H1 ρ' G' (upd H4 Dl (.lst (acc ++ [y]))) ∧ (upd H4 Dl (.lst (acc ++ [y]))) Dl = some (.lst va) ∧ RpL K G' va ac ∧ G' Dl = none ∧ wCompL g c w vs (xs.drop (i + 1)) ac ρ' Qc
      else ∃ G' ρ' va acc, Sim K _ G' ρ' (L2.wipe σ vs) H3 ∧ Xt _ (wipeR ρ1 vs) (L2.wipe σ vs) G1 H1 ρ' G' H3 ∧ H3 Dl = some (.lst va) ∧ RpL K G' va acc ∧ G' Dl = none ∧ wCompL g c w vs (xs.drop (i + 1)) acc ρ' Qc) _ hww (fun σ' H'' e' q' => ⟨e', q' e'⟩) ?_
    refine hg b G3 ρ2 (L2.wipe σ vs) H' x _ _ _ s3 r3 q2 fun ρ4 σ4 q4 p4 ew => ?_
    have fin : ∀ {ρ5 G5 H5}, Xt b ρ4 σ4 G3 H' ρ5 G5 H5 → Sim K b G5 ρ5 σ4 H5 → Xt b (wipeR ρ1 vs) (L2.wipe σ vs) G1 H1 (wipeR ρ5 vs) G5 H5 ∧ Sim K b G5 (wipeR ρ5 vs) (L2.wipe σ vs) H5 ∧ H5 Dl = some (.lst va) ∧ G5 Dl = none ∧ ∀ (j : Nat) (d : D), ρ5[j]? = some (.ow d) → σ4[j]? ≠ some (some (.ref Dl)) := fun {ρ5 G5 H5} y s5 => by
      have own4 : ∀ (j : Nat) (d : D) (a : Addr), ρ4[j]? = some (.ow d) → σ4[j]? = some (some (.ref a)) → Own (wipeR ρ1 vs) (L2.wipe σ vs) a := fun j d a z1 z2 => by
        obtain ⟨c1, c2⟩ := p4.2 j d z1
        exact ⟨j, d, x3'.own j d c1, by rw [← c2]; exact z2⟩
      have nD4 : ¬ Own ρ4 σ4 Dl := fun ⟨j, d, z1, z2⟩ => by
        obtain ⟨c1, c2⟩ := p4.2 j d z1
        rw [c2] at z2
        exact noD x3' j d c1 z2
      have hD5 : hd b.aw H' Dl = some (.lst va) := by rw [hd_ne hwD]; exact hDl3
      refine ⟨⟨x3'.g.trans y.g, x3'.h.trans y.h, fun a o e n no => y.new a o (x3'.h a o e) (x3'.new a o e n no) fun ⟨j, d, z1, z2⟩ => no (own4 j d a z1 z2), fun j d e => ?_⟩, ?_, (hd_some (y.h Dl _ hD5)).2, y.new Dl _ hD5 gD3 nD4, fun j d z1 z2 => nD4 ⟨j, d, y.own j d z1, z2⟩⟩
      · rw [wipeR_get] at e
        split at e
        · cases e
        · exact x3'.own j d (p4.2 j d (y.own j d e)).1
      · have := s5.wipe vs
        rw [ew] at this
        exact this
    refine hc b G3 ρ4 σ4 H' _ _ p4.1 q4 fun c' ρ5 G5 H5 q5 x5 s5 => ?_
    cases c' with
    | false =>
      refine iteF ?_
      obtain ⟨f1, f2, f3, f4, _⟩ := fin x5 s5
      exact ⟨G5, wipeR ρ5 vs, va, acc, f2, f1, f3, ra.mono (g3.trans x5.g), f4, q5⟩
    | true =>
      refine iteT ?_
      refine he b G5 ρ5 σ4 H5 _ _ s5 q5 fun d kd ρ6 v G6 H6 q6 x6 s6 r6 => ?_
      refine frozen (R := fun v H' => ∃ acc, H' Dl = some (.lst acc) ∧ acc.length < sizeLine ∧ ∃ G' ρ' va ac, Sim K b G' ρ' (L2.wipe σ vs) (upd H' Dl (.lst (acc ++ [v]))) ∧ Xt b (wipeR ρ1 vs) (L2.wipe σ vs) G1 H1 ρ' G' (upd H' Dl (.lst (acc ++ [v]))) ∧ (upd H' Dl (.lst (acc ++ [v]))) Dl = some (.lst va) ∧ RpL K G' va ac ∧ G' Dl = none ∧ wCompL g c w vs (xs.drop (i + 1)) ac ρ' Qc) q6 x6 s5 s6 r6 fun d ρ7 v G7 q7 x7 s7 r7 => ?_
      obtain ⟨f1, f2, f3, f4, f5⟩ := fin (x5.trans x7) s7
      have rv : RpL K G7 (va ++ [v]) (acc ++ [d]) := (ra.mono (g3.trans (x5.trans x7).g)).append (.cons r7 .nil)
      refine ⟨va, f3, by rw [ra.length]; exact lim_lt q7.1, G7, wipeR ρ7 vs, va ++ [v], acc ++ [d], f2.poke hwD h0D f4 (fun j d' z1 z2 => ?_), ⟨f1.g, fun a o e => ?_, f1.new, f1.own⟩, upd_same, rv, f4, q7.2⟩
      · obtain ⟨a, e1, e2, e3, e4, e5⟩ := (s1.wipe vs).ow j d' (f1.own j d' z1)
        rw [z2] at e1; cases e1
        exact e5.known hD
      · rw [hd_upd hwD, upd_ne (fun z => by subst z; rw [hfD] at e; cases e)]
        exact f1.h a o e
  · have ei : i = xs.length := by omega
    subst ei
    rw [List.drop_length] at q2
    refine .inl ⟨w2 (Nat.le_refl _), ?_⟩
    have q2 : Q (.lst acc) .nw (restR ρ1 ρ2 vs) := q2
    have hl : ρ1.length = ρ2.length := by rw [s1.len, s2.len, wipe_length]
    have hg2 : ∀ (j : Nat) (x : Slot), (restR ρ1 ρ2 vs)[j]? = some x → (j ∈ vs ∧ ρ1[j]? = some x) ∨ (j ∉ vs ∧ ρ2[j]? = some x ∧ (L2.wipe σ vs)[j]? = σ[j]?) := fun j x e => by
      rw [restR_get ρ1 ρ2 hl] at e
      by_cases hj : j ∈ vs
      · rw [if_pos hj] at e; exact .inl ⟨hj, e⟩
      · rw [if_neg hj] at e; exact .inr ⟨hj, e, by rw [wipe_get, if_neg fun z => hj z.1]⟩
    have own1 : ∀ (j : Nat) (d : D), (restR ρ1 ρ2 vs)[j]? = some (.ow d) → ρ1[j]? = some (.ow d) := fun j d e => by
      rcases hg2 j _ e with ⟨_, h⟩ | ⟨hj, h, _⟩
      · exact h
      · have := x2.own j d h
        rw [wipeR_get] at this
        split at this
        · cases this
        · exact this
    have sR : Sim K b G2 (restR ρ1 ρ2 vs) σ H2 := by
      refine ⟨by rw [restR_len, s2.len, wipe_length], s2.sub, s2.g0, s2.b0, s2.new, fun j d e => ?_, fun j d e => ?_, fun j k' d e v hne e1 e2 e3 e4 => s1.dj j k' d e v hne (own1 j d e1) (own1 k' e e2) e3 e4, fun j e => ?_, s2.wk⟩
      · rcases hg2 j _ e with ⟨_, h⟩ | ⟨hj, h, hs⟩
        · obtain ⟨v, e1, r⟩ := s1.fz j d h
          exact ⟨v, e1, r.mono x2.g⟩
        · obtain ⟨v, e1, r⟩ := s2.fz j d h
          exact ⟨v, by rw [← hs]; exact e1, r⟩
      · rcases hg2 j _ e with ⟨hj, h⟩ | ⟨hj, h, hs⟩
        · obtain ⟨a, e1, e2, e3, e4, e5⟩ := s1.ow j d h
          obtain ⟨o, ho, _⟩ := e5.there
          have ho1 : hd b.aw H1 a = some o := by rw [hd_ne e2]; exact ho
          refine ⟨a, e1, e2, e3, x2.new a o ho1 e4 fun z => ?_, e5.mono x2.g fun u hu => ?_⟩
          · obtain ⟨j', d', z1, z2⟩ := z
            rw [wipeR_get] at z1
            split at z1
            · cases z1
            · rename_i hn
              have hl' : j' < ρ1.length := (List.getElem?_eq_some_iff.mp z1).1
              have hn' : j' ∉ vs := fun z => hn ⟨z, hl'⟩
              rw [wipe_get, if_neg fun z => hn' z.1] at z2
              exact s1.dj j' j d' d _ (fun z => hn' (z ▸ hj)) z1 h z2 e1
          · exact (hd_some (x2.h a u (by rw [hd_ne e2]; exact hu))).2
        · obtain ⟨a, e1, e2⟩ := s2.ow j d h
          exact ⟨a, by rw [← hs]; exact e1, e2⟩
      · rcases hg2 j _ e with ⟨_, h⟩ | ⟨hj, h, hs⟩
        · exact s1.ws j h
        · obtain ⟨a, e1, e2⟩ := s2.ws j h
          exact ⟨a, e1, by rw [← hs]; exact e2⟩
    have xR : Xt b ρ1 σ G1 H1 (restR ρ1 ρ2 vs) G2 H2 := ⟨x2.g, x2.h, fun a o e n no => x2.new a o e n fun z => no (own_wipe z), own1⟩
    refine k _ .nw _ (.ref Dl) G2 H2 q2 (x1.trans xR) sR ⟨Dl, rfl, ?_, hwD, gD, va, hDl, ra⟩
    exact Evl.fresh_back x1.h hfD
end VL

namespace VL
open PySem PySem.Spec PyProof.Rows L2
open Evl (Ex)
variable {K : PySem.W.Frag}

/-! ### a def -/
def A.slot : A → Slot
  | .d x => .fz x
  | .w => .w
def rho0 (n : Nat) (as : List A) : Rho := as.map A.slot ++ List.replicate (n - as.length) .un
theorem Paired.len {α β : Type} {F : α → β → Prop} : ∀ {l : List α} {m : List β}, Paired F l m → l.length = m.length
  | _, _, .nil => rfl
  | _, _, .cons _ t => by rw [List.length_cons, List.length_cons, Paired.len t]
theorem Paired.at {α β : Type} {F : α → β → Prop} : ∀ {l : List α} {m : List β} {i : Nat} {y : β}, Paired F l m → m[i]? = some y → ∃ x, l[i]? = some x ∧ F x y
  | _, _, _, _, .nil, h => by simp at h
  | _, _, 0, _, .cons a _, h => by simp at h; subst h; exact ⟨_, rfl, a⟩
  | _, _, i + 1, _, .cons _ t, h => by
    obtain ⟨x, h1, h2⟩ := Paired.at t (by simpa using h)
    exact ⟨x, by simpa using h1, h2⟩
section
variable {P : Program} {w : World} {mg : Str → Option Value} {base : Heap}
theorem start_sim {N : List Str} {aw : Option Addr} {G H : Hp} {vs : List V} {as : List A} (g : Ex G (hd aw H)) (hw : ∀ a, aw = some a → WOk K G H a) (r : Paired (RpA K ⟨aw, G, hd aw H⟩ G) vs as) : Sim K ⟨aw, G, hd aw H⟩ G (rho0 N.length as) (L2.start N vs) H := by
  have hl := Paired.len r
  have key : ∀ (i : Nat) (x : Slot), (rho0 N.length as)[i]? = some x → x ≠ .un → ∃ a, as[i]? = some a ∧ x = a.slot := fun i x e ne => by
    unfold rho0 at e
    by_cases hi : i < as.length
    · rw [List.getElem?_append_left (by simpa using hi), List.getElem?_map, List.getElem?_eq_getElem hi] at e
      cases e
      exact ⟨_, List.getElem?_eq_getElem hi, rfl⟩
    · rw [List.getElem?_append_right (by simpa using hi), List.getElem?_replicate] at e
      split at e
      · cases e; exact absurd rfl ne
      · cases e
  have st : ∀ (i : Nat) (v : V), vs[i]? = some v → (L2.start N vs)[i]? = some (some v) := fun i v e => by
    have hi : i < vs.length := (List.getElem?_eq_some_iff.mp e).1
    unfold L2.start
    rw [List.getElem?_append_left (by simpa using hi), List.getElem?_map, e]; rfl
  refine ⟨by simp [rho0, L2.start, hl], g, Ex.refl _, Ex.refl _, fun a o _ e => e, fun i d e => ?_, fun i d e => ?_, fun i j d e v hne e1 => ?_, fun i e => ?_, hw⟩
  · obtain ⟨a, h1, h2⟩ := key i _ e (by simp)
    cases a with
    | d x =>
      cases h2
      obtain ⟨v, h3, h4⟩ := Paired.at r h1
      exact ⟨v, st i v h3, h4⟩
    | w => cases h2
  · obtain ⟨a, h1, h2⟩ := key i _ e (by simp)
    cases a <;> cases h2
  · obtain ⟨a, h1, h2⟩ := key i _ e1 (by simp)
    cases a <;> cases h2
  · obtain ⟨a, h1, h2⟩ := key i _ e (by simp)
    cases a with
    | d x => cases h2
    | w =>
      obtain ⟨v, h3, a, h4, h5⟩ := Paired.at r h1
      subst h5
      exact ⟨a, h4, st i _ h3⟩
theorem fn_ok {x qual : Str} {st : Stmt} {f : Addr} {fd : FuncData} {N ps : List Str} {k : Nat} {sp : FS} (t : WS) (F : Fun K x qual st f fd) (S : FnScope N ps (defScope st))
    (hb : ∀ (cdv : Value) (A : Around) (outer : List Env) (s : Shared) (H : Hp) (E : XK), Room k (A.deeper (envOfC qual (defScope st) s.heap.objs.size f cdv)) →
      ∃ ts, PSs (cxOf CX0 P w K mg base N qual (defScope st) f cdv A outer s H E).nox (defBody st) ts ∧ SndS K ts t)
    (hs : ∀ as q, sp as q → as.length = ps.length ∧ t ⟨fun _ => q .non .fz, q, fun _ => False, fun _ => False⟩ (rho0 N.length as)) : FnOk P w K mg base CX0 (k + 1) f fd ps (toSp K sp) := by
  refine F.ok S (fun vs H Q E h => ?_) fun cdv A outer s H vs Q E hr h => ?_
  · obtain ⟨aw, G, as, q, _, _, r, hq, _⟩ := h
    rw [Paired.len r]
    exact (hs as q hq).1
  · obtain ⟨aw, G, as, q, g, hw, r, hq, back⟩ := h
    obtain ⟨ts, hps, hsn⟩ := hb cdv A outer s H E hr
    refine ⟨ts, hps, hsn ⟨aw, G, hd aw H⟩ ⟨fun _ => q .non .fz, q, fun _ => False, fun _ => False⟩ _ G _ _ H ⟨fun ρ σ G' H' q1 s1 => ?_, fun d k v ρ σ G' H' q1 s1 rr => ?_, fun ρ σ G' H' q1 s1 => q1.elim, fun ρ σ G' H' q1 s1 => q1.elim⟩ (start_sim g hw r) (hs as q hq).2⟩
    · exact back .non .fz .non G' H' q1 s1.g0 s1.sub s1.b0 s1.new s1.wk .non
    · exact back d k v G' H' q1 s1.g0 s1.sub s1.b0 s1.new s1.wk rr
end

/-! ### operators on data -/
section
variable {X : Cx}
def ozI (i : Int) : Oz := some (.int i, .fz)
def ozB (c : Bool) : Oz := some (.bl c, .fz)
theorem res_int {G H : Hp} {z : D} {k : Kd} {R : VK} {i : Int} (e : ozI i = some (z, k)) (r : Res K G H z k R) : R (.int i) H := by
  cases e; exact r.val _ rfl (.int i)
theorem res_bl {G H : Hp} {z : D} {k : Kd} {R : VK} {i : Bool} (e : ozB i = some (z, k)) (r : Res K G H z k R) : R (.bl i) H := by
  cases e; exact r.val _ rfl (.bl i)
/-- + -/
def bAdd : D → D → Oz
  | .int i, .int j => ozI (i + j)
  | .str x, .str y => if x.length + y.length ≤ LIM then some (.str (x ++ y), .fz) else none
  | .tup xs, .tup ys => if xs.length + ys.length ≤ LIM then some (.tup (xs ++ ys), .fz) else none
  | .lst xs, .lst ys => if xs.length + ys.length ≤ LIM then some (.lst (xs ++ ys), .nw) else none
  | _, _ => none
def rAddD (K : PySem.W.Frag) : R2 := fun x y H Q => rI0 (fun i j => .int (i + j)) x y H Q ∨ (∃ i j, x = .str i ∧ y = .str j ∧ i.length + j.length ≤ sizeLine ∧ Q (.str (i ++ j)) H) ∨ rCatA K x y H Q ∨ rCat x y H Q
theorem op_addD : OpR X (binaryOp .Add) (rAddD X.K) := op_add.or (op_add_str.or (op_catA.or op_cat))
theorem snd_bAdd : OpS K (rAddD K) bAdd := fun G B H v u d e z k R g g2 o1 o2 hf r => by
  unfold bAdd at hf
  split at hf
  · obtain rfl := ov_int o1
    obtain rfl := ov_int o2
    exact .inl ⟨_, _, rfl, rfl, res_int hf r⟩
  · obtain rfl := ov_str o1
    obtain rfl := ov_str o2
    split at hf
    · rename_i h
      cases hf
      exact .inr (.inl ⟨_, _, rfl, rfl, lim_le h, r.val _ rfl (.str _)⟩)
    · cases hf
  · rename_i xs ys
    split at hf
    · rename_i h
      cases hf
      cases (show Rp K G v (.tup xs) from o1) with
      | @tup a vs _ t1 l1 =>
        cases (show Rp K G u (.tup ys) from o2) with
        | @tup a2 us _ t2 l2 =>
          have gh := g.trans g2
          refine .inr (.inr (.inl ⟨a, a2, vs, us, rfl, rfl, exT gh t1, exT gh t2, by rw [l1.length, l2.length]; exact lim_le h, fun e => ?_, fun e1 e2 => ?_, fun e1 e2 p hp => ?_⟩))
          · subst e
            cases l1
            exact r.val _ rfl (.tup t2 l2)
          · subst e2
            cases l2
            rw [List.append_nil] at r
            exact r.val _ rfl (.tup t1 l1)
          · exact r.tup p _ _ rfl rfl hp (l1.append l2)
    · cases hf
  · split at hf
    · rename_i h
      cases hf
      obtain ⟨a, vs, rfl, t1, l1⟩ := o1
      obtain ⟨a2, us, rfl, t2, l2⟩ := o2
      exact .inr (.inr (.inr ⟨a, a2, vs, us, rfl, rfl, g2 _ _ t1, g2 _ _ t2, by rw [l1.length, l2.length]; exact lim_le h, fun p hp => r.new p _ rfl hp ⟨_, upd_same, l1.append l2⟩⟩))
    · cases hf
  · cases hf
def bSub : D → D → Oz
  | .int i, .int j => ozI (i - j)
  | _, _ => none
theorem snd_bSub : OpS K (rI0 fun i j => .int (i - j)) bSub := fun G B H v u d e z k R g g2 o1 o2 hf r => by
  unfold bSub at hf
  split at hf
  · obtain rfl := ov_int o1
    obtain rfl := ov_int o2
    exact ⟨_, _, rfl, rfl, res_int hf r⟩
  · cases hf
def W64 : Int := 18446744073709551616
theorem w64 : (2 : Int) ^ 64 = W64 := by decide
def bMul : D → D → Oz
  | .int i, .int j => if i.natAbs < 1000000000 ∨ j.natAbs < 1000000000 then ozI (i * j) else none
  | .lst xs, .int k => if -1000 ≤ k ∧ k ≤ 1000 ∧ xs.length * k.toNat ≤ LIM then some (.lst (List.replicate k.toNat xs).flatten, .nw) else none
  | _, _ => none
def rMulD : R2 := fun x y H Q => rI CMul (fun i j => .int (i * j)) x y H Q ∨ rRep x y H Q
theorem op_mulD : OpR X (binaryOp .Mult) rMulD := op_mul.or op_rep
theorem RpL.flat {G : Hp} {vs : List V} {ds : List D} (h : RpL K G vs ds) : ∀ n : Nat, RpL K G (List.replicate n vs).flatten (List.replicate n ds).flatten
  | 0 => .nil
  | n + 1 => by
    rw [List.replicate_succ, List.replicate_succ, List.flatten_cons, List.flatten_cons]
    exact h.append (RpL.flat h n)
theorem snd_bMul : OpS K rMulD bMul := fun G B H v u d e z k R g g2 o1 o2 hf r => by
  unfold bMul at hf
  split at hf
  · obtain rfl := ov_int o1
    obtain rfl := ov_int o2
    split at hf
    · rename_i h
      refine .inl ⟨_, _, rfl, rfl, ?_, res_int hf r⟩
      unfold CMul
      rw [w64]
      unfold W64
      rcases h with h | h
      · exact .inl (by omega)
      · exact .inr (by omega)
    · cases hf
  · obtain rfl := ov_int o2
    obtain ⟨a, vs, rfl, t1, l1⟩ := o1
    split at hf
    · rename_i h
      cases hf
      refine .inr ⟨a, _, vs, rfl, rfl, g2 _ _ t1, ?_, ?_, by rw [l1.length]; exact lim_le h.2.2, fun p hp => r.new p _ rfl hp ⟨_, upd_same, RpL.flat l1 _⟩⟩
      · have := h.1; omega
      · have := h.2.1; omega
    · cases hf
  · cases hf
/-- // and % by a divisor that is not 0 -/
def bDiv : D → D → Oz
  | .int i, .int j => if j ≠ 0 ∧ j.natAbs < 1073741824 then ozI (i.fdiv j) else none
  | _, _ => none
theorem snd_bDiv : OpS K (rI CDivN fun i j => .int (i.fdiv j)) bDiv := fun G B H v u d e z k R g g2 o1 o2 hf r => by
  unfold bDiv at hf
  split at hf
  · obtain rfl := ov_int o1
    obtain rfl := ov_int o2
    split at hf
    · rename_i h
      exact ⟨_, _, rfl, rfl, h, res_int hf r⟩
    · cases hf
  · cases hf
def bMod : D → D → Oz
  | .int i, .int j => if j ≠ 0 then ozI (i.fmod j) else none
  | _, _ => none
theorem snd_bMod : OpS K (rI (fun _ j => j ≠ 0) fun i j => .int (i.fmod j)) bMod := fun G B H v u d e z k R g g2 o1 o2 hf r => by
  unfold bMod at hf
  split at hf
  · obtain rfl := ov_int o1
    obtain rfl := ov_int o2
    split at hf
    · rename_i h
      exact ⟨_, _, rfl, rfl, h, res_int hf r⟩
    · cases hf
  · cases hf
def bPow : D → D → Oz
  | .int i, .int j => if 0 ≤ j ∧ j ≤ 1000 ∧ i.natAbs < 1000000 then ozI (i ^ j.toNat) else none
  | _, _ => none
theorem snd_bPow : OpS K (rI CPow fun i j => .int (i ^ j.toNat)) bPow := fun G B H v u d e z k R g g2 o1 o2 hf r => by
  unfold bPow at hf
  split at hf
  · obtain rfl := ov_int o1
    obtain rfl := ov_int o2
    split at hf
    · rename_i h
      exact ⟨_, _, rfl, rfl, ⟨h.1, by omega, by have := h.2.2; omega⟩, res_int hf r⟩
    · cases hf
  · cases hf
def uNeg : D → Oz
  | .int i => ozI (-i)
  | _ => none
theorem snd_uNeg : UnS K (rU fun i => .int (-i)) uNeg := fun G B H v d z k R g g2 o1 hf r => by
  unfold uNeg at hf
  split at hf
  · obtain rfl := ov_int o1
    exact ⟨_, rfl, res_int hf r⟩
  · cases hf

/-! ### comparisons -/
mutual
def toPy : D → PyData
  | .non => .none
  | .bl b => .bool b
  | .int i => .int i
  | .str s => .str s
  | .tup xs => .tuple (toPys xs)
  | .lst xs => .list (toPys xs)
  | .fl xs => .list (toPys xs)
  | .ft xs => .tuple (toPys xs)
  | .dk _ => .dict []
  | .dt _ => .dict []
def toPys : List D → List PyData
  | [] => []
  | x :: r => toPy x :: toPys r
end
mutual
/-- data that == can be asked of, at most n deep -/
def okE : Nat → D → Bool
  | _, .non => true
  | _, .bl _ => true
  | _, .int _ => true
  | _, .str s => s.cps.all (· < 0x110000)
  | n + 1, .tup xs => okEs n xs
  | n + 1, .lst xs => okEs n xs
  | n + 1, .fl xs => okEs n xs
  | n + 1, .ft xs => okEs n xs
  | _, _ => false
def okEs : Nat → List D → Bool
  | _, [] => true
  | n, x :: r => okE n x && okEs n r
end
mutual
theorem okE_lay : ∀ (n : Nat) (d : D), okE n d = true → (toPy d).canLay0 = true ∧ (toPy d).depth ≤ n
  | _, .non, _ => ⟨by simp [toPy, PyData.canLay0], by simp [toPy, PyData.depth]⟩
  | _, .bl _, _ => ⟨by simp [toPy, PyData.canLay0], by simp [toPy, PyData.depth]⟩
  | _, .int _, _ => ⟨by simp [toPy, PyData.canLay0], by simp [toPy, PyData.depth]⟩
  | n, .str s, h => ⟨by
      have h : s.cps.all (· < 0x110000) = true := by cases n <;> simpa [okE] using h
      simpa [toPy, PyData.canLay0, PyData.strOk] using h, by simp [toPy, PyData.depth]⟩
  | n + 1, .tup xs, h => by
    have := okEs_lay n xs (by simpa [okE] using h)
    exact ⟨by simpa [toPy, PyData.canLay0] using this.1, by simpa [toPy, PyData.depth] using this.2⟩
  | n + 1, .lst xs, h => by
    have := okEs_lay n xs (by simpa [okE] using h)
    exact ⟨by simpa [toPy, PyData.canLay0] using this.1, by simpa [toPy, PyData.depth] using this.2⟩
  | n + 1, .fl xs, h => by
    have := okEs_lay n xs (by simpa [okE] using h)
    exact ⟨by simpa [toPy, PyData.canLay0] using this.1, by simpa [toPy, PyData.depth] using this.2⟩
  | n + 1, .ft xs, h => by
    have := okEs_lay n xs (by simpa [okE] using h)
    exact ⟨by simpa [toPy, PyData.canLay0] using this.1, by simpa [toPy, PyData.depth] using this.2⟩
  | 0, .tup xs, h => by simp [okE] at h
  | 0, .ft xs, h => by simp [okE] at h
  | 0, .lst xs, h => by simp [okE] at h
  | 0, .fl xs, h => by simp [okE] at h
  | n, .dk _, h => by cases n <;> simp [okE] at h
  | n, .dt _, h => by cases n <;> simp [okE] at h
theorem okEs_lay : ∀ (n : Nat) (d : List D), okEs n d = true → PyData.canLayAll0 (toPys d) = true ∧ PyData.depthAll (toPys d) ≤ n
  | _, [], _ => ⟨by simp [toPys, PyData.canLayAll0], by simp [toPys, PyData.depthAll]⟩
  | n, x :: r, h => by
    have h : okE n x = true ∧ okEs n r = true := by simpa [okEs] using h
    have a := okE_lay n x h.1
    have c := okEs_lay n r h.2
    exact ⟨by simp [toPys, PyData.canLayAll0, a.1, c.1], by simp only [toPys, PyData.depthAll]; exact Nat.max_le.mpr ⟨a.2, c.2⟩⟩
end
theorem okE_shaped {d : D} (h : okE 20 d = true) : SeqAt.shaped (toPy d) = true := by
  have := okE_lay 20 d h
  unfold SeqAt.shaped
  rw [this.1, Bool.true_and]
  exact decide_eq_true (by omega)
mutual
theorem Rp.dp {H : Hp} : ∀ {n : Nat} {v : V} {d : D}, okE n d = true → Rp K H v d → Dp K H v (toPy d)
  | _, _, _, _, .non => .non
  | _, _, _, _, .bl b => .bl b
  | _, _, _, _, .int b => .int b
  | _, _, _, _, .str b => .str b
  | n + 1, _, _, h, .lst a r => .lst (.inl (.inl a)) (RpL.dp (n := n) (by simpa [okE] using h) r)
  | n + 1, _, _, h, .fl a r => .lst a (RpL.dp (n := n) (by simpa [okE] using h) r)
  | n + 1, _, _, h, .tup a r => .tup (.inl (.inl a)) (RpL.dp (n := n) (by simpa [okE] using h) r)
  | n + 1, _, _, h, .ft a r => .tup a (RpL.dp (n := n) (by simpa [okE] using h) r)
  | 0, _, _, h, .lst a r => by simp [okE] at h
  | 0, _, _, h, .fl a r => by simp [okE] at h
  | 0, _, _, h, .tup a r => by simp [okE] at h
  | 0, _, _, h, .ft a r => by simp [okE] at h
  | n, _, _, h, .dk _ _ => by cases n <;> simp [okE] at h
  | n, _, _, h, .dt _ _ => by cases n <;> simp [okE] at h
theorem RpL.dp {H : Hp} : ∀ {n : Nat} {v : List V} {d : List D}, okEs n d = true → RpL K H v d → DpAll K H v (toPys d)
  | _, _, _, _, .nil => .nil
  | n, _, _, h, .cons a r => by
    have h := (Bool.and_eq_true_iff.mp (show (okE n _ && okEs n _) = true from by simpa [okEs] using h))
    exact .cons (Rp.dp h.1 a) (RpL.dp h.2 r)
end
mutual
/-- == -/
def eqv : D → D → Bool
  | .non, .non => true
  | .bl a, .bl b => a == b
  | .bl a, .int j => (if a then 1 else 0) == j
  | .int i, .bl b => i == (if b then 1 else 0)
  | .int i, .int j => i == j
  | .str x, .str y => x == y
  | .tup xs, .tup ys => eqvs xs ys
  | .tup xs, .ft ys => eqvs xs ys
  | .ft xs, .tup ys => eqvs xs ys
  | .ft xs, .ft ys => eqvs xs ys
  | .lst xs, .lst ys => eqvs xs ys
  | .lst xs, .fl ys => eqvs xs ys
  | .fl xs, .lst ys => eqvs xs ys
  | .fl xs, .fl ys => eqvs xs ys
  | _, _ => false
def eqvs : List D → List D → Bool
  | [], [] => true
  | x :: xs, y :: ys => eqv x y && eqvs xs ys
  | _, _ => false
end
mutual
theorem eqv_py : ∀ a b : D, PyData.eqv (toPy a) (toPy b) = eqv a b
  | .tup xs, b => by
    cases b <;> simp [toPy, PyData.eqv, eqv]
    all_goals exact eqvs_py xs _
  | .ft xs, b => by
    cases b <;> simp [toPy, PyData.eqv, eqv]
    all_goals exact eqvs_py xs _
  | .lst xs, b => by
    cases b <;> simp [toPy, PyData.eqv, eqv]
    all_goals exact eqvs_py xs _
  | .fl xs, b => by
    cases b <;> simp [toPy, PyData.eqv, eqv]
    all_goals exact eqvs_py xs _
  | .non, b => by cases b <;> simp [toPy, PyData.eqv, eqv]
  | .bl _, b => by cases b <;> simp [toPy, PyData.eqv, eqv]
  | .int _, b => by cases b <;> simp [toPy, PyData.eqv, eqv]
  | .str _, b => by cases b <;> simp [toPy, PyData.eqv, eqv]
  | .dk _, b => by cases b <;> simp [toPy, PyData.eqv, eqv]
  | .dt _, b => by cases b <;> simp [toPy, PyData.eqv, eqv]
theorem eqvs_py : ∀ a b : List D, PyData.eqvAll (toPys a) (toPys b) = eqvs a b
  | [], [] => by simp [toPys, PyData.eqvAll, eqvs]
  | [], _ :: _ => by simp [toPys, PyData.eqvAll, eqvs]
  | _ :: _, [] => by simp [toPys, PyData.eqvAll, eqvs]
  | x :: xs, y :: ys => by
    simp only [toPys, PyData.eqvAll, eqvs]
    rw [eqv_py x y, eqvs_py xs ys]
end
def bEq (a b : D) : Oz := if okE 20 a = true ∧ okE 20 b = true then ozB (eqv a b) else none
def bNe (a b : D) : Oz := if okE 20 a = true ∧ okE 20 b = true then ozB (!eqv a b) else none
theorem snd_bEq : OpS K (rEqD K) bEq := fun G B H v u d e z k R g g2 o1 o2 hf r => by
  unfold bEq at hf
  split at hf
  · rename_i h
    refine ⟨_, _, Rp.dp h.1 ((o1.rp g).mono g2), Rp.dp h.2 ((o2.rp g).mono g2), okE_shaped h.1, okE_shaped h.2, ?_⟩
    rw [eqv_py]
    exact res_bl hf r
  · cases hf
theorem snd_bNe : OpS K (rNeD K) bNe := fun G B H v u d e z k R g g2 o1 o2 hf r => by
  unfold bNe at hf
  split at hf
  · rename_i h
    refine ⟨_, _, Rp.dp h.1 ((o1.rp g).mono g2), Rp.dp h.2 ((o2.rp g).mono g2), okE_shaped h.1, okE_shaped h.2, ?_⟩
    rw [eqv_py]
    exact res_bl hf r
  · cases hf
/-- order of ints (texts, tuples: later) -/
def bLt : D → D → Oz
  | .int i, .int j => ozB (decide (i < j))
  | _, _ => none
def bLe : D → D → Oz
  | .int i, .int j => ozB (decide (i ≤ j))
  | _, _ => none
def bGt : D → D → Oz
  | .int i, .int j => ozB (decide (j < i))
  | _, _ => none
def bGe : D → D → Oz
  | .int i, .int j => ozB (decide (j ≤ i))
  | _, _ => none
theorem snd_bLt : OpS K (rI0 fun i j => .bl (decide (i < j))) bLt := fun G B H v u d e z k R g g2 o1 o2 hf r => by
  unfold bLt at hf
  split at hf
  · obtain rfl := ov_int o1
    obtain rfl := ov_int o2
    exact ⟨_, _, rfl, rfl, res_bl hf r⟩
  · cases hf
theorem snd_bLe : OpS K (rI0 fun i j => .bl (decide (i ≤ j))) bLe := fun G B H v u d e z k R g g2 o1 o2 hf r => by
  unfold bLe at hf
  split at hf
  · obtain rfl := ov_int o1
    obtain rfl := ov_int o2
    exact ⟨_, _, rfl, rfl, res_bl hf r⟩
  · cases hf
theorem snd_bGt : OpS K (rI0 fun i j => .bl (decide (j < i))) bGt := fun G B H v u d e z k R g g2 o1 o2 hf r => by
  unfold bGt at hf
  split at hf
  · obtain rfl := ov_int o1
    obtain rfl := ov_int o2
    exact ⟨_, _, rfl, rfl, res_bl hf r⟩
  · cases hf
theorem snd_bGe : OpS K (rI0 fun i j => .bl (decide (j ≤ i))) bGe := fun G B H v u d e z k R g g2 o1 o2 hf r => by
  unfold bGe at hf
  split at hf
  · obtain rfl := ov_int o1
    obtain rfl := ov_int o2
    exact ⟨_, _, rfl, rfl, res_bl hf r⟩
  · cases hf
def isNonD : D → Bool
  | .non => true
  | _ => false
theorem ov_isnon {G B : Hp} {v : V} {d : D} (h : Ov K G B v d) : decide (v = .non) = isNonD d := by
  cases d with
  | lst ds => obtain ⟨a, _, rfl, _⟩ := h; rfl
  | dk ds => obtain ⟨a, _, rfl, _⟩ := h; rfl
  | dt ds => obtain ⟨a, _, rfl, _⟩ := h; rfl
  | non => obtain rfl := ov_non h; rfl
  | int i => obtain rfl := ov_int h; rfl
  | bl i => obtain rfl := ov_bl h; rfl
  | str i => obtain rfl := ov_str h; rfl
  | tup ds => cases (show Rp K G v (.tup ds) from h); rfl
  | fl ds => cases (show Rp K G v (.fl ds) from h); rfl
  | ft ds => cases (show Rp K G v (.ft ds) from h); rfl
def bIs (a b : D) : Oz := if isNonD b = true then ozB (isNonD a) else none
def bIsNot (a b : D) : Oz := if isNonD b = true then ozB (!isNonD a) else none
theorem snd_bIs : OpS K (fun x y H Q => y = .non ∧ Q (.bl (decide (x = .non))) H) bIs := fun G B H v u d e z k R g g2 o1 o2 hf r => by
  unfold bIs at hf
  split at hf
  · rename_i h
    refine ⟨by have := ov_isnon o2; rw [h] at this; exact of_decide_eq_true this, ?_⟩
    rw [ov_isnon o1]
    exact res_bl hf r
  · cases hf
theorem snd_bIsNot : OpS K (fun x y H Q => y = .non ∧ Q (.bl (!decide (x = .non))) H) bIsNot := fun G B H v u d e z k R g g2 o1 o2 hf r => by
  unfold bIsNot at hf
  split at hf
  · rename_i h
    refine ⟨by have := ov_isnon o2; rw [h] at this; exact of_decide_eq_true this, ?_⟩
    rw [ov_isnon o1]
    exact res_bl hf r
  · cases hf
end

/-! ### subscripts, len -/
section
variable {X : Cx}
def bIx : D → D → Oz
  | .lst xs, .int i => (atI xs i).map fun d => (d, .fz)
  | .tup xs, .int i => (atI xs i).map fun d => (d, .fz)
  | .fl xs, .int i => (atI xs i).map fun d => (d, .fz)
  | .ft xs, .int i => (atI xs i).map fun d => (d, .fz)
  | .str s, .int i => if s.length ≤ LIM then (atI s.cps.toList i).map fun c => (.str ⟨#[c]⟩, .fz) else none
  | _, _ => none
theorem atI_rp {G : Hp} {vs : List V} {ds : List D} {i : Int} {d : D} (r : RpL K G vs ds) (h : atI ds i = some d) : ∃ v, atI vs i = some v ∧ Rp K G v d := by
  unfold atI at h ⊢
  rw [r.length]
  cases hx : ixN ds.length i with
  | none => rw [hx] at h; cases h
  | some j =>
    rw [hx] at h
    exact r.get h
theorem snd_bIx : OpS K (rIx K) bIx := fun G B H v u d e z k R g g2 o1 o2 hf r => by
  unfold bIx at hf
  split at hf
  · obtain rfl := ov_int o2
    rename_i xs i
    cases ha : atI xs i with
    | none => rw [ha] at hf; cases hf
    | some c =>
      rw [ha] at hf; cases hf
      obtain ⟨a, vs, rfl, t, l⟩ := o1
      obtain ⟨v, h1, h2⟩ := atI_rp l ha
      exact .inl ⟨a, vs, i, v, rfl, rfl, .inl (.inl (g2 _ _ t)), h1, r.val _ rfl h2⟩
  · obtain rfl := ov_int o2
    rename_i xs i
    cases ha : atI xs i with
    | none => rw [ha] at hf; cases hf
    | some c =>
      rw [ha] at hf; cases hf
      cases (show Rp K G v (.tup xs) from o1) with
      | @tup a vs _ t l =>
        obtain ⟨v, h1, h2⟩ := atI_rp l ha
        exact .inr (.inl ⟨a, vs, i, v, rfl, rfl, exT (g.trans g2) t, h1, r.val _ rfl h2⟩)
  · obtain rfl := ov_int o2
    rename_i xs i
    cases ha : atI xs i with
    | none => rw [ha] at hf; cases hf
    | some c =>
      rw [ha] at hf; cases hf
      cases (show Rp K G v (.fl xs) from o1) with
      | @fl a vs _ t l =>
        obtain ⟨v, h1, h2⟩ := atI_rp l ha
        exact .inl ⟨a, vs, i, v, rfl, rfl, Evl.ex_l (g.trans g2) t, h1, r.val _ rfl h2⟩
  · obtain rfl := ov_int o2
    rename_i xs i
    cases ha : atI xs i with
    | none => rw [ha] at hf; cases hf
    | some c =>
      rw [ha] at hf; cases hf
      cases (show Rp K G v (.ft xs) from o1) with
      | @ft a vs _ t l =>
        obtain ⟨v, h1, h2⟩ := atI_rp l ha
        exact .inr (.inl ⟨a, vs, i, v, rfl, rfl, Evl.ex_t (g.trans g2) t, h1, r.val _ rfl h2⟩)
  · obtain rfl := ov_int o2
    obtain rfl := ov_str o1
    rename_i s i
    split at hf
    · rename_i hl
      cases ha : atI s.cps.toList i with
      | none => rw [ha] at hf; cases hf
      | some c =>
        rw [ha] at hf; cases hf
        exact .inr (.inr ⟨s, i, c, rfl, rfl, lim_le hl, ha, r.val _ rfl (.str _)⟩)
    · cases hf
  · cases hf
def cLen : List D → Oz
  | [.lst xs] => ozI xs.length
  | [.tup xs] => ozI xs.length
  | [.fl xs] => ozI xs.length
  | [.ft xs] => ozI xs.length
  | [.dk xs] => ozI xs.length
  | [.dt xs] => none
  | [.str s] => if s.length ≤ LIM then ozI s.length else none
  | _ => none
theorem RpK.length {G : Hp} : ∀ {vs : List (Key × V)} {ds : List (Key × D)}, RpK K G vs ds → vs.length = ds.length
  | _, _, .nil => rfl
  | _, _, .cons _ r => by rw [List.length_cons, List.length_cons, RpK.length r]
def rLenD (K : PySem.W.Frag) : List V → Hp → VK → Prop := fun xs H Q => (∃ p ys, xs = [.ref p] ∧ (SqL K H p ys ∨ SqT K H p ys) ∧ Q (.int ys.length) H) ∨ (∃ z, xs = [.str z] ∧ z.length ≤ sizeLine ∧ Q (.int z.length) H) ∨ (∃ a kvs, xs = [V.ref a] ∧ Rd H a (.dK kvs) ∧ Q (.int kvs.length) H)
theorem call_lenR {X : Cx} : CallR X (.builtin "len") (fun xs H Q => ∃ a kvs, xs = [V.ref a] ∧ Rd H a (.dK kvs) ∧ Q (.int kvs.length) H) := fun pins s σ H xs us Q I r h => by
  obtain ⟨a, kvs, rfl, ha, q⟩ := h
  obtain ⟨u, rfl, ru⟩ := vals1 r
  cases ru
  exact d_len I ha fun t s2 I2 => ⟨V.int kvs.length, H, I2, ⟨t, rfl⟩, q⟩
theorem cr_lenD : CallR X (.builtin "len") (rLenD X.K) := call_len_seq.or (call_len_str.or call_lenR)
theorem snd_cLen : ClS K (rLenD K) cLen := fun G B H vs ds z k R g g2 o hf r => by
  unfold cLen at hf
  split at hf
  all_goals (first | (cases hf; done) | skip)
  · rename_i xs
    cases o with
    | cons o1 o2 =>
      cases o2
      obtain ⟨a, vs, rfl, t, l⟩ := o1
      exact .inl ⟨a, vs, rfl, .inl (.inl (.inl (g2 _ _ t))), by rw [l.length]; exact res_int hf r⟩
  · rename_i xs
    cases o with
    | cons o1 o2 =>
      cases o2
      cases (show Rp K G _ (.tup xs) from o1) with
      | @tup a vs _ t l => exact .inl ⟨a, vs, rfl, .inr (exT (g.trans g2) t), by rw [l.length]; exact res_int hf r⟩
  · rename_i xs
    cases o with
    | cons o1 o2 =>
      cases o2
      cases (show Rp K G _ (.fl xs) from o1) with
      | @fl a vs _ t l => exact .inl ⟨a, vs, rfl, .inl (Evl.ex_l (g.trans g2) t), by rw [l.length]; exact res_int hf r⟩
  · rename_i xs
    cases o with
    | cons o1 o2 =>
      cases o2
      cases (show Rp K G _ (.ft xs) from o1) with
      | @ft a vs _ t l => exact .inl ⟨a, vs, rfl, .inr (Evl.ex_t (g.trans g2) t), by rw [l.length]; exact res_int hf r⟩
  · rename_i xs
    cases o with
    | cons o1 o2 =>
      cases o2
      obtain ⟨a, kvs, rfl, t, l⟩ := o1
      exact .inr (.inr ⟨a, kvs, rfl, rd_mono g2 t, by rw [l.length]; exact res_int hf r⟩)
  · rename_i s
    cases o with
    | cons o1 o2 =>
      cases o2
      obtain rfl := ov_str o1
      split at hf
      · rename_i hl
        exact .inr (.inl ⟨s, rfl, lim_le hl, res_int hf r⟩)
      · cases hf
/-- tuple(..), list(..) of a list or a tuple -/
def cTuple : List D → Oz
  | [.lst xs] => some (.tup xs, .fz)
  | [.fl xs] => some (.tup xs, .fz)
  | [.tup xs] => some (.tup xs, .fz)
  | _ => none
theorem snd_cTuple : ClS K (fun xs H Q => ∃ p ys, xs = [.ref p] ∧ ((SqL K H p ys ∧ ∀ l, H l = none → Q (.ref l) (upd H l (.tup ys))) ∨ (SqT K H p ys ∧ Q (.ref p) H))) cTuple := fun G B H vs ds z k R g g2 o hf r => by
  unfold cTuple at hf
  split at hf
  all_goals (first | (cases hf; done) | skip)
  · rename_i xs
    cases o with
    | cons o1 o2 =>
      cases o2
      obtain ⟨a, vs, rfl, t, l⟩ := o1
      cases hf
      exact ⟨a, vs, rfl, .inl ⟨.inl (.inl (g2 _ _ t)), fun p hp => r.tup p _ _ rfl rfl hp l⟩⟩
  · rename_i xs
    cases o with
    | cons o1 o2 =>
      cases o2
      cases (show Rp K G _ (.fl xs) from o1) with
      | @fl a vs _ t l =>
        cases hf
        exact ⟨a, vs, rfl, .inl ⟨Evl.ex_l (g.trans g2) t, fun p hp => r.tup p _ _ rfl rfl hp l⟩⟩
  · rename_i xs
    cases o with
    | cons o1 o2 =>
      cases o2
      cases (show Rp K G _ (.tup xs) from o1) with
      | @tup a vs _ t l =>
        cases hf
        exact ⟨a, vs, rfl, .inr ⟨exT (g.trans g2) t, r.val _ rfl (.tup t l)⟩⟩
def cList : List D → Oz
  | [.lst xs] => some (.lst xs, .nw)
  | [.fl xs] => some (.lst xs, .nw)
  | [.tup xs] => some (.lst xs, .nw)
  | _ => none
theorem snd_cList : ClS K (fun xs H Q => ∃ p ys, xs = [.ref p] ∧ (SqL K H p ys ∨ SqT K H p ys) ∧ ∀ l, H l = none → Q (.ref l) (upd H l (.lst ys))) cList := fun G B H vs ds z k R g g2 o hf r => by
  unfold cList at hf
  split at hf
  all_goals (first | (cases hf; done) | skip)
  · rename_i xs
    cases o with
    | cons o1 o2 =>
      cases o2
      obtain ⟨a, vs, rfl, t, l⟩ := o1
      cases hf
      exact ⟨a, vs, rfl, .inl (.inl (.inl (g2 _ _ t))), fun p hp => r.new p _ rfl hp ⟨_, upd_same, l⟩⟩
  · rename_i xs
    cases o with
    | cons o1 o2 =>
      cases o2
      cases (show Rp K G _ (.fl xs) from o1) with
      | @fl a vs _ t l =>
        cases hf
        exact ⟨a, vs, rfl, .inl (Evl.ex_l (g.trans g2) t), fun p hp => r.new p _ rfl hp ⟨_, upd_same, l⟩⟩
  · rename_i xs
    cases o with
    | cons o1 o2 =>
      cases o2
      cases (show Rp K G _ (.tup xs) from o1) with
      | @tup a vs _ t l =>
        cases hf
        exact ⟨a, vs, rfl, .inr (exT (g.trans g2) t), fun p hp => r.new p _ rfl hp ⟨_, upd_same, l⟩⟩
/-- int(an int), int(a truth value) -/
def cInt : List D → Oz
  | [.int i] => ozI i
  | [.bl b] => ozI (if b then 1 else 0)
  | _ => none
theorem snd_cInt : ClS K (fun xs H Q => (∃ i, xs = [.int i] ∧ Q (.int i) H) ∨ ∃ k, xs = [.bl k] ∧ Q (.int (if k then 1 else 0)) H) cInt := fun G B H vs ds z k R g g2 o hf r => by
  unfold cInt at hf
  split at hf
  all_goals (first | (cases hf; done) | skip)
  · cases o with
    | cons o1 o2 =>
      cases o2
      obtain rfl := ov_int o1
      exact .inl ⟨_, rfl, res_int hf r⟩
  · cases o with
    | cons o1 o2 =>
      cases o2
      obtain rfl := ov_bl o1
      exact .inr ⟨_, rfl, res_int hf r⟩
def cAbs : List D → Oz
  | [.int i] => ozI (if i < 0 then -i else i)
  | _ => none
theorem snd_cAbs : ClS K (fun xs H Q => ∃ i, xs = [.int i] ∧ Q (.int (if i < 0 then -i else i)) H) cAbs := fun G B H vs ds z k R g g2 o hf r => by
  unfold cAbs at hf
  split at hf
  all_goals (first | (cases hf; done) | skip)
  · cases o with
    | cons o1 o2 =>
      cases o2
      obtain rfl := ov_int o1
      exact ⟨_, rfl, res_int hf r⟩
end
end VL

namespace VL
open PySem PySem.Spec PyProof.Rows L2
open Evl (Ex)
variable {K : PySem.W.Frag}

/-! ### several values held at once: frozen, or each a new object of its own -/
def toN (Q : D → Bool → Rho → Prop) : D → Kd → Rho → Prop := fun d k ρ => match k with
  | .fz => Q d false ρ
  | .nw => Q d true ρ
  | .br i => Q d false (ρ.set i (.fz d))
def Hv (K : PySem.W.Frag) (b : Bs) (G H : Hp) (ρ : Rho) (σ : L2.St) (v : V) : D × Bool → Prop
  | (d, false) => Rp K G v d
  | (d, true) => ∃ a, v = .ref a ∧ b.B0 a = none ∧ b.aw ≠ some a ∧ G a = none ∧ Ob K G H a d ∧ ∀ (j : Nat) (e : D), ρ[j]? = some (.ow e) → σ[j]? ≠ some (some (.ref a))
theorem held {b : Bs} {ρ ρ' : Rho} {σ : L2.St} {G H G' H' : Hp} {k : Kd} {v : V} {d : D} {Q : D → Bool → Rho → Prop} {R : V → Hp → Prop} (q : toN Q d k ρ') (x : Xt b ρ σ G H ρ' G' H') (s0 : Sim K b G ρ σ H) (s : Sim K b G' ρ' σ H') (r : Rv K b H G' H' ρ' σ k v d)
    (h : ∀ o ρ2 G2, Q d o ρ2 → Xt b ρ σ G H ρ2 G2 H' → Sim K b G2 ρ2 σ H' → Hv K b G2 H' ρ2 σ v (d, o) → (o = true → ∀ a, v = .ref a → hd b.aw H a = none) → R v H') : R v H' := by
  cases k with
  | fz => exact h false ρ' G' q x s r (fun e => nomatch e)
  | nw => exact h true ρ' G' q x s (r.free s0 x) (fun _ a e => by
      obtain ⟨a', h0, h1, _⟩ := r
      rw [e] at h0; cases h0; exact h1)
  | br i => exact frozen1 (Q := fun d ρ2 => Q d false ρ2) (k := .br i) q x s0 s r fun ρ2 G2 q2 x2 s2 r2 => h false ρ2 G2 q2 x2 s2 r2 (fun e => nomatch e)
theorem Hv.mono {b : Bs} {ρ ρ' : Rho} {σ : L2.St} {G H G' H' : Hp} {v : V} {d : D × Bool} (h : Hv K b G H ρ σ v d) (x : Xt b ρ σ G H ρ' G' H') : Hv K b G' H' ρ' σ v d := by
  obtain ⟨d, o⟩ := d
  cases o with
  | false => exact Rp.mono x.g h
  | true =>
    obtain ⟨a, h0, h1, h2, h3, h4, h5⟩ := h
    obtain ⟨o, ho, _⟩ := h4.there
    have e : hd b.aw H a = some o := by rw [hd_ne h2]; exact ho
    refine ⟨a, h0, h1, h2, x.new a o e h3 fun ⟨j, e', z1, z2⟩ => h5 j e' z1 z2, h4.mono x.g fun u hu => ?_, fun j e' z => h5 j e' (x.own j e' z)⟩
    exact (hd_some (x.h a u (by rw [hd_ne h2]; exact hu))).2
/-- no two of them the same new object -/
def Apart (vs : List V) (ds : List (D × Bool)) : Prop := ∀ (i j : Nat) (d e : D) (v : V), i ≠ j → ds[i]? = some (d, true) → ds[j]? = some (e, true) → vs[i]? = some v → vs[j]? = some v → False
abbrev WN := Rho → (List (D × Bool) → Rho → Prop) → Prop
def SndN (K : PySem.W.Frag) (ta : TA) (t : WN) : Prop := ∀ (b : Bs) (G : Hp) (ρ : Rho) (σ : L2.St) (H : Hp) (Q : List (D × Bool) → Rho → Prop) (R : List V → Hp → Prop), Sim K b G ρ σ H → t ρ Q →
  (∀ ds ρ' vs G' H', Q ds ρ' → Xt b ρ σ G H ρ' G' H' → Sim K b G' ρ' σ H' → Paired (Hv K b G' H' ρ' σ) vs ds → Apart vs ds → (∀ (i : Nat) (d : D) (v : V), ds[i]? = some (d, true) → vs[i]? = some v → ∀ a, v = .ref a → hd b.aw H a = none) → R vs H') → ta σ H R
def nNil : WN := fun ρ Q => Q [] ρ
def nCons (t : WE) (u : WN) : WN := fun ρ Q => t ρ (toN fun d o ρ1 => u ρ1 fun ds ρ2 => Q ((d, o) :: ds) ρ2)
theorem sndN_nil : SndN K tNil nNil := fun b G ρ σ H Q R s q k => k _ _ _ G H q .refl s .nil (fun _ _ _ _ _ _ h => by simp at h) (fun _ _ _ h => by simp at h)
theorem sndN_cons {te : TE} {ta : TA} {t : WE} {u : WN} (ha : SndE K te t) (hb : SndN K ta u) : SndN K (tCons te ta) (nCons t u) := by
  intro b G ρ σ H Q R s h k
  refine ha b G ρ σ H _ _ s h fun d ka ρ1 v G1 H1 q1 x1 s1 r1 => ?_
  refine held (R := fun v H' => ta σ H' fun xs H2 => R (v :: xs) H2) q1 x1 s s1 r1 fun o ρ1 G1 q1 x1 s1 r1 n1 => ?_
  refine hb b G1 ρ1 σ H1 _ _ s1 q1 fun ds ρ2 vs G2 H2 q2 x2 s2 r2 ap n2 => ?_
  have new : ∀ (i : Nat) (d : D) (v : V), ds[i]? = some (d, true) → vs[i]? = some v → ∀ a, v = .ref a → hd b.aw H a = none := fun i d v e1 e2 a e3 => Evl.fresh_back x1.h (n2 i d v e1 e2 a e3)
  -- the first one's object is older than those of the rest
  have old : ∀ (i : Nat) (e : D) (v' : V), o = true → ds[i]? = some (e, true) → vs[i]? = some v' → v' = v → False := fun i e v' ho e1 e2 e3 => by
    subst ho e3
    obtain ⟨a, h0, h1, h2, h3, h4, h5⟩ := r1
    have := n2 i e v' e1 e2 a h0
    obtain ⟨o, ho, _⟩ := h4.there
    rw [hd_ne h2, ho] at this
    cases this
  refine k _ _ _ G2 H2 q2 (x1.trans x2) s2 (.cons (r1.mono x2) r2) ?_ ?_
  · intro i j d' e' v' hne e1 e2 e3 e4
    cases i with
    | zero =>
      cases j with
      | zero => exact hne rfl
      | succ j =>
        have e1 : (d, o) = (d', true) := Option.some.inj e1
        have e3 : v = v' := Option.some.inj e3
        exact old j e' v' (by cases e1; rfl) (by simpa using e2) (by simpa using e4) e3.symm
    | succ i =>
      cases j with
      | zero =>
        have e2 : (d, o) = (e', true) := Option.some.inj e2
        have e4 : v = v' := Option.some.inj e4
        exact old i d' v' (by cases e2; rfl) (by simpa using e1) (by simpa using e3) e4.symm
      | succ j => exact ap i j d' e' v' (fun z => hne (by rw [z])) (by simpa using e1) (by simpa using e2) (by simpa using e3) (by simpa using e4)
  · intro i d' v' e1 e2 a e3
    cases i with
    | zero =>
      have e1 : (d, o) = (d', true) := Option.some.inj e1
      have e2 : v = v' := Option.some.inj e2
      cases e1
      exact n1 rfl a (e2.trans e3)
    | succ i => exact new i d' v' (by simpa using e1) (by simpa using e2) a e3
def sl : D × Bool → Slot
  | (d, false) => .fz d
  | (d, true) => .ow d
def setAll (ρ : Rho) : List Nat → List (D × Bool) → Rho
  | i :: is, d :: ds => setAll (ρ.set i (sl d)) is ds
  | _, _ => ρ
def setAllV (σ : L2.St) : List Nat → List V → L2.St
  | i :: is, v :: vs => setAllV (σ.set i (some v)) is vs
  | _, _ => σ
theorem setAll_ok {b : Bs} {G H : Hp} : ∀ {is : List Nat} {vs : List V} {ds : List (D × Bool)} {ρ : Rho} {σ : L2.St}, Sim K b G ρ σ H → Paired (Hv K b G H ρ σ) vs ds → Apart vs ds → Sim K b G (setAll ρ is ds) (setAllV σ is vs) H
  | [], vs, ds, ρ, σ, s, r, ap => by
    cases r <;> exact s
  | i :: is, _, _, ρ, σ, s, .nil, ap => s
  | i :: is, v :: vs, (d, o) :: ds, ρ, σ, s, .cons h r, ap => by
    have ap' : Apart vs ds := fun i j d e v hne e1 e2 e3 e4 => ap (i + 1) (j + 1) d e v (fun z => hne (by omega)) (by simpa using e1) (by simpa using e2) (by simpa using e3) (by simpa using e4)
    cases o with
    | false =>
      have h : Rp K G v d := h
      show Sim K b G (setAll (ρ.set i (.fz d)) is ds) (setAllV (σ.set i (some v)) is vs) H
      refine setAll_ok (s.setF i h) ?_ ap'
      refine Paired.mapP r fun v' d' h' => ?_
      obtain ⟨d', o'⟩ := d'
      cases o' with
      | false => exact h'
      | true =>
        obtain ⟨a, h0, h1, h2, h3, h4, h5⟩ := h'
        refine ⟨a, h0, h1, h2, h3, h4, fun j e z1 z2 => ?_⟩
        by_cases hj : j = i
        · subst hj
          by_cases hl : j < ρ.length
          · rw [List.getElem?_set_self hl] at z1; cases z1
          · rw [List.getElem?_eq_none (by simpa using hl)] at z1; cases z1
        · rw [List.getElem?_set_ne (Ne.symm hj)] at z1 z2
          exact h5 j e z1 z2
    | true =>
      obtain ⟨p, g0, g1, g2, g3, g4, g5⟩ := h
      subst g0
      show Sim K b G (setAll (ρ.set i (.ow d)) is ds) (setAllV (σ.set i (some (.ref p))) is vs) H
      refine setAll_ok (s.setO i g2 g1 g3 g4 g5) ?_ ap'
      -- later ones are other objects
      have far : ∀ (k : Nat) (d' : D) (v' : V), ds[k]? = some (d', true) → vs[k]? = some v' → v' ≠ .ref p := fun k d' v' e1 e2 e3 => ap 0 (k + 1) d d' v' (by omega) rfl (by simpa using e1) (by rw [e3]; rfl) (by simpa using e2)
      have go : ∀ {vs : List V} {ds : List (D × Bool)}, Paired (Hv K b G H ρ σ) vs ds → (∀ (k : Nat) (d' : D) (v' : V), ds[k]? = some (d', true) → vs[k]? = some v' → v' ≠ .ref p) → Paired (Hv K b G H (ρ.set i (.ow d)) (σ.set i (some (.ref p)))) vs ds := by
        intro vs ds r
        induction r with
        | nil => intro _; exact .nil
        | @cons v' d' vs ds h' r ih =>
          intro f
          refine .cons ?_ (ih fun k d' v' e1 e2 => f (k + 1) d' v' (by simpa using e1) (by simpa using e2))
          obtain ⟨d', o'⟩ := d'
          cases o' with
          | false => exact h'
          | true =>
            have hne := f 0 d' v' rfl rfl
            obtain ⟨a, h0, h1, h2, h3, h4, h5⟩ := h'
            refine ⟨a, h0, h1, h2, h3, h4, fun j e z1 z2 => ?_⟩
            by_cases hj : j = i
            · subst hj
              by_cases hl : j < σ.length
              · rw [List.getElem?_set_self hl] at z2; cases z2; exact hne h0
              · rw [List.getElem?_eq_none (by simpa using hl)] at z2; cases z2
            · rw [List.getElem?_set_ne (Ne.symm hj)] at z1 z2
              exact h5 j e z1 z2
      exact go r far
/-- a, b = x, y (the values written) -/
def wPar (is : List Nat) (t : WN) : WS := fun P ρ => t ρ fun ds ρ1 => ds.length = is.length ∧ P.nx (setAll ρ1 is ds)
theorem snd_par2 {i j : Nat} {ta : TA} {t : WN} (h : SndN K ta t) : SndS K (tPar i j ta) (wPar [i, j] t) := fun b P E G ρ σ H e s hq =>
  h b G ρ σ H _ _ s hq fun ds ρ1 vs G1 H1 q1 x1 s1 r1 ap _ => by
    have hl := Paired.len r1
    match vs, ds, r1, q1, hl, ap with
    | [v, w], ds, r1, q1, hl, ap => exact ⟨v, w, rfl, e.nx _ _ G1 H1 q1.2 (setAll_ok (is := [i, j]) s1 r1 ap)⟩
    | [], ds, r1, q1, hl, ap => have := q1.1; rw [← hl] at this; cases this
    | [_], ds, r1, q1, hl, ap => have := q1.1; rw [← hl] at this; cases this
    | _ :: _ :: _ :: _, ds, r1, q1, hl, ap => have := q1.1; rw [← hl] at this; simp at this
theorem snd_par3 {i j l : Nat} {ta : TA} {t : WN} (h : SndN K ta t) : SndS K (tPar3 i j l ta) (wPar [i, j, l] t) := fun b P E G ρ σ H e s hq =>
  h b G ρ σ H _ _ s hq fun ds ρ1 vs G1 H1 q1 x1 s1 r1 ap _ => by
    have hl := Paired.len r1
    match vs, ds, r1, q1, hl, ap with
    | [v, w, u], ds, r1, q1, hl, ap => exact ⟨v, w, u, rfl, e.nx _ _ G1 H1 q1.2 (setAll_ok (is := [i, j, l]) s1 r1 ap)⟩
    | [], ds, r1, q1, hl, ap => have := q1.1; rw [← hl] at this; cases this
    | [_], ds, r1, q1, hl, ap => have := q1.1; rw [← hl] at this; cases this
    | [_, _], ds, r1, q1, hl, ap => have := q1.1; rw [← hl] at this; cases this
    | _ :: _ :: _ :: _ :: _, ds, r1, q1, hl, ap => have := q1.1; rw [← hl] at this; simp at this
/-- .. by a tuple that is laid (names that comprehensions read) -/
def gNames : List Nat → TGs
  | [] => gNil
  | i :: is => gCons (gName i) (gNames is)
theorem gNames_go {R : L2.St → Hp → Prop} {H : Hp} : ∀ {is : List Nat} {vs : List V} {σ : L2.St}, vs.length = is.length → R (setAllV σ is vs) H → gNames is vs σ H R
  | [], [], σ, _, h => ⟨rfl, h⟩
  | i :: is, v :: vs, σ, e, h => ⟨v, vs, rfl, gNames_go (by simpa using e) h⟩
  | [], _ :: _, _, e, _ => by simp at e
  | _ :: _, [], _, e, _ => by simp at e
theorem snd_parT {n : Nat} {is : List Nat} {ta : TA} {t : WN} (hn : is.length = n) (hm : n ≤ 1000) (h : SndN K ta t) : SndS K (tAsg (tTup ta) (gTup K n (gNames is))) (wPar is t) := fun b P E G ρ σ H e s hq =>
  h b G ρ σ H _ _ s hq fun ds ρ1 vs G1 H1 q1 x1 s1 r1 ap _ => by
    have hl := Paired.len r1
    have hl2 : vs.length = is.length := hl.trans q1.1
    refine ⟨by rw [hl2, hn]; exact lim_le (by unfold LIM; omega), fun p hp => ⟨p, vs, rfl, .inl (.inl upd_same), hl2.trans hn, gNames_go hl2 ?_⟩⟩
    have s2 := s1.laid (o := .tup vs) hp
    have r2 : Paired (Hv K b G1 (upd H1 p (.tup vs)) ρ1 σ) vs ds := Paired.mapP r1 fun v d z => z.mono (.laid hp)
    exact e.nx _ _ G1 _ q1.2 (setAll_ok s2 r2 ap)
end VL

namespace VL
open PySem PySem.Spec PyProof.Rows L2
open Evl (Ex)

structure SW (X : Cx) (e : Expr) (te : TT) (t : WT) : Prop where
  pw : PW X e te
  snd : SndT X.K te t
structure SN (X : Cx) (es : List Expr) (ta : TA) (t : WN) : Prop where
  pa : PA X es ta
  snd : SndN X.K ta t
structure SX (X : Cx) (es : List Expr) (ta : TA) (t : WX) : Prop where
  pa : PA X es ta
  snd : SndX X.K ta t
structure SG (X : Cx) (e : Expr) (tg : TG) (g : WG) : Prop where
  pg : PG X e tg
  snd : SndG X.K tg g
structure SGs (X : Cx) (e : List Expr) (tg : TGs) (g : WGs) : Prop where
  pg : PGs X e tg
  snd : SndGs X.K tg g
structure SIF (X : Cx) (tg e : Expr) (wi : TI) (t : WI) : Prop where
  pi : PI X tg e wi
  snd : SndIF X.K wi t
structure SIO (X : Cx) (tg e : Expr) (wi : TI) (t : WI) : Prop where
  pi : PI X tg e wi
  snd : SndIO X.K wi t
structure SS (X : Cx) (e : Stmt) (ts : TS) (t : WS) : Prop where
  ps : PS X e ts
  snd : SndS X.K ts t
structure SB (X : Cx) (e : List Stmt) (ts : TS) (t : WS) : Prop where
  ps : PSs X e ts
  snd : SndS X.K ts t

section
variable {X : Cx} {e a b c : Expr} {es : List Expr} {te ta tb tc : TE} {t u w : WE} {pos : Pos} {st : Stmt} {sts : List Stmt} {ts us : TS} {r s : WS} {tt tu : TT} {p q : WT}

theorem e_var (i : Nat) {x : Str} {pos : Pos} (hN : X.N[i]? = some x := by rfl) (hv : Vis X.env.scope x := by first | exact Or.inl rfl | exact Or.inr (Or.inl rfl) | exact Or.inr (Or.inr rfl)) (hd : (x == ("__debug__" : Str)) = false := by decide)
    (hcd : (x == ("__classdict__" : Str)) = false := by decide) : SE X (.Name x pos) (tVar i) (wVar i) := ⟨pe_var hN hv hd hcd, snd_var i⟩
theorem e_int {i : Int} {j pos} : SE X (.Constant (.int i) j pos) (tC (.int i)) (wCon (.int i)) := ⟨pe_int, snd_con fun _ => .int i⟩
theorem e_bl {i : Bool} {j pos} : SE X (.Constant (.bool i) j pos) (tC (.bl i)) (wCon (.bl i)) := ⟨pe_bl, snd_con fun _ => .bl i⟩
theorem e_str {i : Str} {j pos} : SE X (.Constant (.str i) j pos) (tC (.str i)) (wCon (.str i)) := ⟨pe_str, snd_con fun _ => .str i⟩
theorem e_non {j pos} : SE X (.Constant .none j pos) (tC .non) (wCon .non) := ⟨pe_non, snd_con fun _ => .non⟩
/-- a module's constant -/
theorem e_glob {x : Str} {v : V} {u : Value} {d : D} {pos : Pos} (hm : X.mg x = some u) (r : RelV v u) (hr : ∀ G, Rp X.K G v d) (hg : Gl X x := by rfl) (hd : (x == ("__debug__" : Str)) = false := by decide) : SE X (.Name x pos) (tC v) (wCon d) :=
  ⟨pe_glob hg hm r hd, snd_con hr⟩
theorem e_bin {op : Operator} {r : R2} {f : D → D → Oz} (ho : OpR X (binaryOp op) r) (hs : OpS X.K r f) (ha : SE X a ta t) (hb : SE X b tb u) : SE X (.BinOp a op b pos) (tOp r ta tb) (wBin f t u) := ⟨pe_op ho ha.pe hb.pe, snd_op hs ha.snd hb.snd⟩
theorem e_add (ha : SE X a ta t) (hb : SE X b tb u) : SE X (.BinOp a .Add b pos) (tOp (rAddD X.K) ta tb) (wBin bAdd t u) := e_bin op_addD snd_bAdd ha hb
theorem e_sub (ha : SE X a ta t) (hb : SE X b tb u) : SE X (.BinOp a .Sub b pos) (tOp (rI0 fun i j => .int (i - j)) ta tb) (wBin bSub t u) := e_bin op_sub snd_bSub ha hb
theorem e_mul (ha : SE X a ta t) (hb : SE X b tb u) : SE X (.BinOp a .Mult b pos) (tOp rMulD ta tb) (wBin bMul t u) := e_bin op_mulD snd_bMul ha hb
theorem e_div (ha : SE X a ta t) (hb : SE X b tb u) : SE X (.BinOp a .FloorDiv b pos) (tOp (rI CDivN fun i j => .int (i.fdiv j)) ta tb) (wBin bDiv t u) := e_bin op_fdivN snd_bDiv ha hb
theorem e_mod (ha : SE X a ta t) (hb : SE X b tb u) : SE X (.BinOp a .Mod b pos) (tOp (rI (fun _ j => j ≠ 0) fun i j => .int (i.fmod j)) ta tb) (wBin bMod t u) := e_bin op_modN snd_bMod ha hb
theorem e_pow (ha : SE X a ta t) (hb : SE X b tb u) : SE X (.BinOp a .Pow b pos) (tOp (rI CPow fun i j => .int (i ^ j.toNat)) ta tb) (wBin bPow t u) := e_bin op_pow snd_bPow ha hb
theorem e_neg (ha : SE X a ta t) : SE X (.UnaryOp .USub a pos) (tUn (rU fun i => .int (-i)) ta) (wUn uNeg t) := ⟨pe_un un_neg ha.pe, snd_un snd_uNeg ha.snd⟩
theorem e_cmp {op : CmpOp} {r : R2} {f : D → D → Oz} (ho : OpR X (compareOp op) r) (hs : OpS X.K r f) (ha : SE X a ta t) (hb : SE X b tb u) (hm : behindInMarks op b = false) : SE X (.Compare a [op] [b] pos) (tOp r ta tb) (wBin f t u) := ⟨pe_cmpR ho ha.pe hb.pe hm, snd_op hs ha.snd hb.snd⟩
theorem t_cmp {op : CmpOp} {r : R2} {f : D → D → Oz} (ho : OpR X (compareOp op) r) (hs : OpS X.K r f) (ha : SE X a ta t) (hb : SE X b tb u) (hm : behindInMarks op b = false) : ST X (.Compare a [op] [b] pos) (tTest (tOp r ta tb)) (wTest (wBin f t u)) := ⟨pt_cmpR ho ha.pe hb.pe hm, snd_test (snd_op hs ha.snd hb.snd)⟩
theorem e_chain {op op' : CmpOp} {r r' : R2} {f g : D → D → Oz} (ho : OpR X (compareOp op) r) (hs : OpS X.K r f) (ho' : OpR X (compareOp op') r') (hs' : OpS X.K r' g) (ha : SE X a ta t) (hb : SE X b tb u) (hc : SE X c tc w) (hm : lastMarks [op, op'] [b, c] = false := by with_unfolding_all rfl) :
    SE X (.Compare a [op, op'] [b, c] pos) (tChain r r' ta tb tc) (wChain f g t u w) := ⟨pe_chain ho ho' ha.pe hb.pe hc.pe hm, snd_chain hs hs' ha.snd hb.snd hc.snd⟩
theorem t_chain {op op' : CmpOp} {r r' : R2} {f g : D → D → Oz} (ho : OpR X (compareOp op) r) (hs : OpS X.K r f) (ho' : OpR X (compareOp op') r') (hs' : OpS X.K r' g) (ha : SE X a ta t) (hb : SE X b tb u) (hc : SE X c tc w) (hm : lastMarks [op, op'] [b, c] = false := by with_unfolding_all rfl) :
    ST X (.Compare a [op, op'] [b, c] pos) (tTest (tChain r r' ta tb tc)) (wTest (wChain f g t u w)) := ⟨pt_chain ho ho' ha.pe hb.pe hc.pe hm, snd_test (snd_chain hs hs' ha.snd hb.snd hc.snd)⟩
theorem t_val (h : SE X e te t) (he : ∀ whole, isTrue e X.env whole = (do let v ← whole; standAt e.pos; holding [v] (truthy v)) := by intro _; rfl) : ST X e (tB te) (wTest t) := ⟨pt_val h.pe he, snd_testB h.snd⟩
theorem t_not (h : ST X a tt p) : ST X (.UnaryOp .Not a pos) (tNot tt) (wNot p) := ⟨pt_not h.pt, snd_not h.snd⟩
theorem t_pw (h : SW X e tt p) : ST X e tt p := ⟨h.pw.pt, h.snd⟩
theorem t_and1 (h : ST X a tt p) : SW X (.BoolOp .And [a] pos) tt p := ⟨pw_and1 h.pt, h.snd⟩
theorem t_or1 (h : ST X a tt p) : SW X (.BoolOp .Or [a] pos) tt p := ⟨pw_or1 h.pt, h.snd⟩
theorem t_and (ha : ST X a tt p) (hb : SW X (.BoolOp .And (b :: es) pos) tu q) : SW X (.BoolOp .And (a :: b :: es) pos) (tAnd tt tu) (wAnd p q) := ⟨pw_and ha.pt hb.pw, snd_and ha.snd hb.snd⟩
theorem t_or (ha : ST X a tt p) (hb : SW X (.BoolOp .Or (b :: es) pos) tu q) : SW X (.BoolOp .Or (a :: b :: es) pos) (tOr tt tu) (wOr p q) := ⟨pw_or ha.pt hb.pw, snd_or ha.snd hb.snd⟩
theorem e_one {op} (h : SE X a ta t) : SE X (.BoolOp op [a] pos) ta t := ⟨pe_one h.pe, h.snd⟩
theorem e_andV (ha : SE X a ta t) (hb : SE X (.BoolOp .And (b :: es) pos) tb u) : SE X (.BoolOp .And (a :: b :: es) pos) (tAndV ta tb) (wAndV t u) := ⟨pe_and ha.pe hb.pe, snd_andV ha.snd hb.snd⟩
theorem e_orV (ha : SE X a ta t) (hb : SE X (.BoolOp .Or (b :: es) pos) tb u) : SE X (.BoolOp .Or (a :: b :: es) pos) (tOrV ta tb) (wOrV t u) := ⟨pe_or ha.pe hb.pe, snd_orV ha.snd hb.snd⟩
theorem e_notV (ha : SE X a ta t) : SE X (.UnaryOp .Not a pos) (tNotV ta) (wNotV t) := ⟨pe_not ha.pe, snd_notV ha.snd⟩
theorem e_ifE (hc : ST X c tt p) (ha : SE X a ta t) (hb : SE X b tb u) : SE X (.IfExp c a b pos) (tIf tt ta tb) (wIfE p t u) := ⟨pe_ifExp hc.pt ha.pe hb.pe, snd_ifE hc.snd ha.snd hb.snd⟩

/-! arguments -/
section
variable {xa : TA} {x : WA} {y : WX} {z : WN}
theorem o_nil : SO X [] tNil wNil := ⟨pa_nil, sndO_nil⟩
theorem o_cons (ha : SE X e te t) (hr : SO X es xa x) (hs : starEach (e :: es) X.env = (false, eval e X.env) :: starEach es X.env := by rfl) : SO X (e :: es) (tCons te xa) (wCons t x) := ⟨pa_cons ha.pe hr.pa hs, sndO_cons ha.snd hr.snd⟩
theorem a_nil : SA X [] tNil wNil := ⟨pa_nil, sndA_nil⟩
theorem a_cons (ha : SE X e te t) (hr : SA X es xa x) (hs : starEach (e :: es) X.env = (false, eval e X.env) :: starEach es X.env := by rfl) : SA X (e :: es) (tCons te xa) (wConsF t x) := ⟨pa_cons ha.pe hr.pa hs, sndA_cons ha.snd hr.snd⟩
theorem x_nil : SX X [] tNil xNil := ⟨pa_nil, sndX_nil⟩
theorem x_cons (ha : SE X e te t) (hr : SX X es xa y) (hs : starEach (e :: es) X.env = (false, eval e X.env) :: starEach es X.env := by rfl) : SX X (e :: es) (tCons te xa) (xCons t y) := ⟨pa_cons ha.pe hr.pa hs, sndX_cons ha.snd hr.snd⟩
theorem x_w (i : Nat) {n : Str} {pos : Pos} (hr : SX X es xa y) (hN : X.N[i]? = some n := by rfl) (hv : Vis X.env.scope n := by first | exact Or.inl rfl | exact Or.inr (Or.inl rfl) | exact Or.inr (Or.inr rfl)) (hd : (n == ("__debug__" : Str)) = false := by decide)
    (hcd : (n == ("__classdict__" : Str)) = false := by decide) (hs : starEach (.Name n pos :: es) X.env = (false, eval (.Name n pos) X.env) :: starEach es X.env := by rfl) : SX X (.Name n pos :: es) (tCons (tVar i) xa) (xW i y) := ⟨pa_cons (pe_var hN hv hd hcd) hr.pa hs, sndX_w hr.snd⟩
theorem n_nil : SN X [] tNil nNil := ⟨pa_nil, sndN_nil⟩
theorem n_cons (ha : SE X e te t) (hr : SN X es xa z) (hs : starEach (e :: es) X.env = (false, eval e X.env) :: starEach es X.env := by rfl) : SN X (e :: es) (tCons te xa) (nCons t z) := ⟨pa_cons ha.pe hr.pa hs, sndN_cons ha.snd hr.snd⟩
theorem e_tup {x1} (h : SA X es xa x) : SE X (.Tuple es x1 pos) (tTup xa) (wTup x) := ⟨pe_tup h.pa, snd_tup h.snd⟩
theorem e_lst (h : SA X es xa x) : SE X (.List es pos) (tLst xa) (wLst x) := ⟨pe_lst h.pa, snd_lst h.snd⟩
/-- a built-in function, a built-in type, by its rule -/
theorem e_callB {id : String} {n : Str} {r : List V → Hp → VK → Prop} {f : List D → Oz} {pp : Pos} (hc : CallR X (.builtin id) r) (hs : ClS X.K r f) (hm : X.mg n = none) (hv : bootBuiltins n = some (.builtin id)) (ha : SO X (e :: es) xa x) (hg : Gl X n := by rfl)
    (hn : n ≠ "__name__" := by decide) (hdb : (n == ("__debug__" : Str)) = false := by decide)
    (he : starEach (e :: es) X.env = (false, eval e X.env) :: starEach es X.env := by rfl) (hpl : (backTo pos (starEach es X.env)).any (·.1) = false := by rfl) : SE X (.Call (.Name n pp) (e :: es) [] pos) (tCB r xa) (wCl f x) :=
  ⟨pe_callB hc hg hm hv ha.pa hn hdb he hpl, snd_cl hs ha.snd⟩
theorem e_callT {T : String} {n : Str} {r : List V → Hp → VK → Prop} {f : List D → Oz} {pp : Pos} (hc : CallR X (.type T) r) (hs : ClS X.K r f) (hm : X.mg n = none) (hv : bootBuiltins n = some (.type T)) (ha : SO X (e :: es) xa x) (hg : Gl X n := by rfl)
    (hn : n ≠ "__name__" := by decide) (hdb : (n == ("__debug__" : Str)) = false := by decide)
    (he : starEach (e :: es) X.env = (false, eval e X.env) :: starEach es X.env := by rfl) (hpl : (backTo pos (starEach es X.env)).any (·.1) = false := by rfl) : SE X (.Call (.Name n pp) (e :: es) [] pos) (tCB r xa) (wCl f x) :=
  ⟨pe_callTy hc hg hm hv ha.pa hn hdb he hpl, snd_cl hs ha.snd⟩
end
theorem e_ix (ha : SE X a ta t) (hb : SE X b tb u) (hs : PlainIx b := by intro _ _; rfl) : SE X (.Subscript a b pos) (tOp (rIx X.K) ta tb) (wBin bIx t u) := ⟨pe_ix ix_seq ha.pe hb.pe hs, snd_op snd_bIx ha.snd hb.snd⟩

/-! own defs -/
structure Df (K : PySem.W.Frag) (mg : Str → Option Value) (x : Str) (ps : List Str) (st : Stmt) where
  f : Addr
  fd : FuncData
  F : Fun K x x st f fd
  g : mg x = some (.ref f)
  b : Binds K fd ps []
abbrev OkF (P : Program) (w : World) (base : Heap) {K : PySem.W.Frag} {mg : Str → Option Value} {x : Str} {ps : List Str} {st : Stmt} (D : Df K mg x ps st) (k : Nat) (sp : FS) : Prop := FnOk P w K mg base CX0 k D.f D.fd ps (toSp K sp)
theorem e_call {x : Str} {ps : List Str} {st : Stmt} {k : Nat} {sp : FS} {xa : TA} {y : WX} {pp : Pos} {D : Df X.K X.mg x ps st} (F : OkF X.prog X.w X.base D k sp) (hr : Room k X.A) (ha : SX X (e :: es) xa y) (hg : Gl X x := by rfl) (hdb : (x == ("__debug__" : Str)) = false := by decide)
    (he : starEach (e :: es) X.env = (false, eval e X.env) :: starEach es X.env := by rfl) (hpl : (backTo pos (starEach es X.env)).any (·.1) = false := by rfl) : SE X (.Call (.Name x pp) (e :: es) [] pos) (tCall (toSp X.K sp) [] E0 xa) (wCall sp y) :=
  ⟨pe_call F hr hg D.g D.F.kp D.b .nil pass0 ha.pa hdb he hpl, snd_call ha.snd⟩

/-! targets, what is walked -/
theorem g_name (i : Nat) {x : Str} {pos : Pos} (hN : X.N.Nodup) (hi : X.N[i]? = some x := by rfl) (hx : Loc X.env.scope x := by first | exact Or.inl rfl | exact Or.inr rfl) (hf : X.fn x = true ∨ X.env.scope.names.lookup x = some .local := by first | exact .inl rfl | exact .inr rfl) : SG X (.Name x pos) (gName i) (wgName i) :=
  ⟨pg_name hN hi hx hf, sndG_name i⟩
theorem g_nil : SGs X [] gNil wgNil := ⟨pgs_nil, sndG_nil⟩
theorem g_cons {tg : TG} {tu : TGs} {g : WG} {u : WGs} (h1 : SG X e tg g) (h2 : SGs X es tu u) (hs : (assignEach (e :: es) X.env).map (·.2) = assign e X.env :: (assignEach es X.env).map (·.2) := by rfl) : SGs X (e :: es) (gCons tg tu) (wgCons g u) := ⟨pgs_cons h1.pg h2.pg hs, sndG_cons h1.snd h2.snd⟩
theorem g_tup {k : Nat} {tu : TGs} {u : WGs} {n : Nat} (hc : X.calm = true) (h : SGs X es tu u) (hn : (assignEach es X.env).length = n := by rfl) (hst : (assignEach es X.env).findIdx? (·.1) = none := by rfl) : SG X (.Tuple es k pos) (gTup X.K n tu) (wgTup n u) := ⟨pg_tup hc h.pg hn hst, sndG_tup h.snd⟩
theorem if_seq {tg : Expr} (h : SE X e te t) : SIF X tg e (iSeq X.K te) (wiF t) := ⟨pi_seq h.pe, sndIF_seq h.snd⟩
theorem io_seq {tg : Expr} (h : SE X e te t) : SIO X tg e (iSeq X.K te) (wiO t) := ⟨pi_seq h.pe, sndIO_seq h.snd⟩
section
variable {tg : Expr} {xa : TA} {x : WA} {pp : Pos}
theorem if_r1 (hm : X.mg "range" = none) (ha : SO X [a] xa x) (hg : Gl X "range" := by rfl) (hs : starEach [a] X.env = [(false, eval a X.env)] := by rfl) : SIF X tg (.Call (.Name "range" pp) [a] [] pos) (iRng1 xa) (wiR1 x) := ⟨pi_range1 hg hm ha.pa hs, sndIF_r1 ha.snd⟩
theorem io_r1 (hm : X.mg "range" = none) (ha : SO X [a] xa x) (hg : Gl X "range" := by rfl) (hs : starEach [a] X.env = [(false, eval a X.env)] := by rfl) : SIO X tg (.Call (.Name "range" pp) [a] [] pos) (iRng1 xa) (wiR1 x) := ⟨pi_range1 hg hm ha.pa hs, sndIO_r1 ha.snd⟩
theorem if_r2 (hm : X.mg "range" = none) (ha : SO X [a, b] xa x) (hg : Gl X "range" := by rfl) (hs : starEach [a, b] X.env = [(false, eval a X.env), (false, eval b X.env)] := by rfl) (hs2 : starEach [b] X.env = [(false, eval b X.env)] := by rfl) : SIF X tg (.Call (.Name "range" pp) [a, b] [] pos) (iRng2 xa) (wiR2 x) := ⟨pi_range2 hg hm ha.pa hs hs2, sndIF_r2 ha.snd⟩
theorem io_r2 (hm : X.mg "range" = none) (ha : SO X [a, b] xa x) (hg : Gl X "range" := by rfl) (hs : starEach [a, b] X.env = [(false, eval a X.env), (false, eval b X.env)] := by rfl) (hs2 : starEach [b] X.env = [(false, eval b X.env)] := by rfl) : SIO X tg (.Call (.Name "range" pp) [a, b] [] pos) (iRng2 xa) (wiR2 x) := ⟨pi_range2 hg hm ha.pa hs hs2, sndIO_r2 ha.snd⟩
end

/-! comprehensions -/
structure STs (X : Cx) (ifs : List Expr) (te : TT) (t : WT) : Prop where
  pt : PTs X ifs te
  snd : SndT X.K te t
theorem ts_nil : STs X [] tYes wYes := ⟨pts_nil, snd_yes⟩
theorem ts_one (h : ST X c tt p) : STs X [c] tt p := ⟨pts_one h.pt, h.snd⟩
abbrev P5 (T : Type) := Shared → Hp → Addr → List (Str × Addr) → List Addr → T
def one5 (X : Cx) {T : Type} (f : P5 T) : T := f (PySem.start X.prog).1 (fun _ => none) 0 [] []
section
variable {elt tg iter : Expr} {ifs : List Expr} {scope : Scope} {wi : TI} {i : WI} {tgt : P5 TG} {g : WG} {tt' : P5 TT} {te' : P5 TE}
theorem e_comp (own : List (Str × Nat)) (hN : X.N.Nodup) (hi : SIO X tg iter wi i) (ok : BlkOk X.N X.env.scope scope own)
    (hg : ∀ s H C cl fp, SG (X.blk s H scope (compEnvC scope cl C X.env) fp) tg (tgt s H C cl fp) g) (hin : TgIn (one5 X tgt) (own.map (·.2))) (ht : ∀ s H C cl fp, STs (X.blk s H scope (compEnvC scope cl C X.env) fp) ifs (tt' s H C cl fp) p) (he : ∀ s H C cl fp, SE (X.blk s H scope (compEnvC scope cl C X.env) fp) elt (te' s H C cl fp) t)
    (hc : X.calm = true := by rfl) (hs : ∀ x, foldedSetIterable iter X.env x = pure x := by intro _; rfl) (h1 : ∀ s H C cl fp, tgt s H C cl fp = one5 X tgt := by intro _ _ _ _ _; rfl) (h2 : ∀ s H C cl fp, tt' s H C cl fp = one5 X tt' := by intro _ _ _ _ _; rfl) (h3 : ∀ s H C cl fp, te' s H C cl fp = one5 X te' := by intro _ _ _ _ _; rfl) :
    SE X (.ListComp elt [⟨tg, iter, ifs, 0⟩] scope pos) (tLc wi (one5 X tgt) (one5 X tt') (one5 X te') (own.map (·.2))) (wComp i g p t (own.map (·.2))) := by
  refine ⟨pe_lc hc hN hi.pi ok (fun s H C cl fp => h1 s H C cl fp ▸ (hg s H C cl fp).pg) (fun s H C cl fp => h2 s H C cl fp ▸ (ht s H C cl fp).pt) (fun s H C cl fp => h3 s H C cl fp ▸ (he s H C cl fp).pe) hs, snd_comp hi.snd ?_ hin ?_ ?_⟩
  · exact (hg (PySem.start X.prog).1 (fun _ => none) 0 [] []).snd
  · exact (ht (PySem.start X.prog).1 (fun _ => none) 0 [] []).snd
  · exact (he (PySem.start X.prog).1 (fun _ => none) 0 [] []).snd
theorem s_comp {j : Nat} {y : Str} {py : Pos} {spos : Pos} (own : List (Str × Nat)) (hN : X.N.Nodup) (hi : SIO X tg iter wi i) (ok : BlkOk X.N X.env.scope scope own)
    (hg : ∀ s H C cl fp, SG (X.blk s H scope (compEnvC scope cl C X.env) fp) tg (tgt s H C cl fp) g) (hin : TgIn (one5 X tgt) (own.map (·.2))) (ht : ∀ s H C cl fp, STs (X.blk s H scope (compEnvC scope cl C X.env) fp) ifs (tt' s H C cl fp) p) (he : ∀ s H C cl fp, SE (X.blk s H scope (compEnvC scope cl C X.env) fp) elt (te' s H C cl fp) t)
    (hy : X.N[j]? = some y := by rfl) (hyl : X.env.scope.names.lookup y = some .local := by rfl)
    (hsw : swapsWith (.ListComp elt [⟨tg, iter, ifs, 0⟩] scope pos) (some (.Name y py)) spos.line X.env = pure true := by exact sw_true rfl rfl rfl (by decide +kernel))
    (hc : X.calm = true := by rfl) (hs : ∀ x, foldedSetIterable iter X.env x = pure x := by intro _; rfl) (h1 : ∀ s H C cl fp, tgt s H C cl fp = one5 X tgt := by intro _ _ _ _ _; rfl) (h2 : ∀ s H C cl fp, tt' s H C cl fp = one5 X tt' := by intro _ _ _ _ _; rfl) (h3 : ∀ s H C cl fp, te' s H C cl fp = one5 X te' := by intro _ _ _ _ _; rfl) :
    SS X (.Assign [.Name y py] (.ListComp elt [⟨tg, iter, ifs, 0⟩] scope pos) spos) (tAsg (tLc wi (one5 X tgt) (one5 X tt') (one5 X te') (own.map (·.2))) (gName j)) (wAsg j (wComp i g p t (own.map (·.2)))) := by
  refine ⟨ps_setLc hc hN hy hyl hsw hi.pi ok (fun s H C cl fp => h1 s H C cl fp ▸ (hg s H C cl fp).pg) (fun s H C cl fp => h2 s H C cl fp ▸ (ht s H C cl fp).pt) (fun s H C cl fp => h3 s H C cl fp ▸ (he s H C cl fp).pe) hs, snd_asg (snd_comp hi.snd ?_ hin ?_ ?_)⟩
  · exact (hg (PySem.start X.prog).1 (fun _ => none) 0 [] []).snd
  · exact (ht (PySem.start X.prog).1 (fun _ => none) 0 [] []).snd
  · exact (he (PySem.start X.prog).1 (fun _ => none) 0 [] []).snd
end

/-! statements -/
theorem b_nil : SB X [] tNext wNext := ⟨pss_nil, snd_next⟩
theorem b_one (h : SS X st ts r) : SB X [st] ts r := ⟨pss_one h.ps, h.snd⟩
theorem b_cons (h : SS X st ts r) (k : SB X sts us s) : SB X (st :: sts) (tSeq ts us) (wSeq r s) := ⟨pss_cons h.ps k.ps, snd_seq h.snd k.snd⟩
theorem s_pass : SS X (.Pass pos) tNext wNext := ⟨ps_pass, snd_next⟩
theorem s_break : SS X (.Break pos) tBreak wBreak := ⟨ps_break, snd_break⟩
theorem s_cont : SS X (.Continue pos) tCont wCont := ⟨ps_continue, snd_cont⟩
theorem s_ret (h : SE X e te t) : SS X (.Return (some e) pos) (tRet te) (wRet t) := ⟨ps_ret h.pe, snd_ret h.snd⟩
theorem s_retN : SS X (.Return none pos) tRetN wRetN := ⟨ps_retN, snd_retN⟩
theorem s_if {x y : List Stmt} (hc : ST X c tt p) (ha : SB X x ts r) (hb : SB X y us s) : SS X (.If c x y pos) (tIfS tt ts us) (wIf p r s) := ⟨ps_if hc.pt ha.ps hb.ps, snd_if hc.snd ha.snd hb.snd⟩
theorem s_asg (i : Nat) {x : Str} {pos' : Pos} (hN : X.N.Nodup) (he : SE X e te t) (hi : X.N[i]? = some x := by rfl) (hx : Loc X.env.scope x := by first | exact Or.inl rfl | exact Or.inr rfl) (hs : swapsWith e (some (.Name x pos')) pos.line X.env = pure false := by rfl)
    (hf : X.fn x = true ∨ X.env.scope.names.lookup x = some .local := by first | exact .inl rfl | exact .inr rfl) : SS X (.Assign [.Name x pos'] e pos) (tAsg te (gName i)) (wAsg i t) := ⟨ps_set hN hi hx he.pe hs hf, snd_asg he.snd⟩
theorem s_asgT {tg : Expr} {tgt : TG} {g : WG} (he : SE X e te t) (hg : SG X tg tgt g) (hs : swapsWithSole [tg] e pos.line X.env = pure false := by rfl) (hw : swappedStores [tg] e X.env = pure none := by rfl)
    (h1 : (assignEach [tg] X.env).map (·.2) = [assign tg X.env] := by rfl) : SS X (.Assign [tg] e pos) (tAsg te tgt) (wAsgT g t) := ⟨ps_asg he.pe hg.pg hs hw h1, snd_asgT hg.snd he.snd⟩
theorem s_par2 (i j : Nat) {x y : Str} {px py pt : Pos} {kt k2 pt2} {ta : TA} {z : WN} (hN : X.N.Nodup) (ha : SN X [a, b] ta z) (hi : X.N[i]? = some x := by rfl) (hj : X.N[j]? = some y := by rfl) (hij : i ≠ j := by decide)
    (hx : X.env.scope.names.lookup x = some .local := by rfl) (hy : X.env.scope.names.lookup y = some .local := by rfl)
    (hw : swappedStores [.Tuple [.Name x px, .Name y py] kt pt] (.Tuple [a, b] k2 pt2) X.env = pure (some [x, y]) := by rfl)
    (hs : swapsWithSole [.Tuple [.Name x px, .Name y py] kt pt] (.Tuple [a, b] k2 pt2) pos.line X.env = pure false := by rfl) (hc : X.calm = true := by rfl) :
    SS X (.Assign [.Tuple [.Name x px, .Name y py] kt pt] (.Tuple [a, b] k2 pt2) pos) (tPar i j ta) (wPar [i, j] z) := ⟨ps_par hc hN hi hj hij hx hy ha.pa hw hs, snd_par2 ha.snd⟩
theorem s_par3 (i j l : Nat) {x y z : Str} {px py pz pt : Pos} {kt k2 pt2} {ta : TA} {zz : WN} (hN : X.N.Nodup) (ha : SN X [a, b, c] ta zz) (hi : X.N[i]? = some x := by rfl) (hj : X.N[j]? = some y := by rfl) (hl : X.N[l]? = some z := by rfl) (hij : i ≠ j := by decide) (hil : i ≠ l := by decide) (hjl : j ≠ l := by decide)
    (hx : X.env.scope.names.lookup x = some .local := by rfl) (hy : X.env.scope.names.lookup y = some .local := by rfl) (hz : X.env.scope.names.lookup z = some .local := by rfl)
    (hw : swappedStores [.Tuple [.Name x px, .Name y py, .Name z pz] kt pt] (.Tuple [a, b, c] k2 pt2) X.env = pure (some [x, y, z]) := by rfl)
    (hs : swapsWithSole [.Tuple [.Name x px, .Name y py, .Name z pz] kt pt] (.Tuple [a, b, c] k2 pt2) pos.line X.env = pure false := by rfl) (hc : X.calm = true := by rfl) :
    SS X (.Assign [.Tuple [.Name x px, .Name y py, .Name z pz] kt pt] (.Tuple [a, b, c] k2 pt2) pos) (tPar3 i j l ta) (wPar [i, j, l] zz) := ⟨ps_par3 hc hN hi hj hl hij hil hjl hx hy hz ha.pa hw hs, snd_par3 ha.snd⟩
/-- .. of names one of which a comprehension reads -/
theorem s_parT {tg : Expr} {k2 pt2} {ta : TA} {z : WN} {n : Nat} (is : List Nat) (ha : SN X es ta z) (hg : PG X tg (gTup X.K n (gNames is))) (hn : is.length = n := by rfl) (hm : n ≤ 1000 := by decide) (hs : swapsWithSole [tg] (.Tuple es k2 pt2) pos.line X.env = pure false := by rfl) (hw : swappedStores [tg] (.Tuple es k2 pt2) X.env = pure none := by rfl)
    (h1 : (assignEach [tg] X.env).map (·.2) = [assign tg X.env] := by rfl) : SS X (.Assign [tg] (.Tuple es k2 pt2) pos) (tAsg (tTup ta) (gTup X.K n (gNames is))) (wPar is z) := ⟨ps_asg (pe_tup ha.pa) hg hs hw h1, snd_parT hn hm ha.snd⟩
def bAddI : D → D → Oz
  | .int i, .int j => ozI (i + j)
  | _, _ => none
def wAugI (i : Nat) (t : WE) : WS := wAug i bAddI t
theorem s_augA (i : Nat) {x : Str} {pos' : Pos} (hN : X.N.Nodup) (he : SE X e te t) (hi : X.N[i]? = some x := by rfl) (hx : Loc X.env.scope x := by first | exact Or.inl rfl | exact Or.inr rfl) (hf : X.fn x = true ∨ X.env.scope.names.lookup x = some .local := by first | exact .inl rfl | exact .inr rfl) :
    SS X (.AugAssign (.Name x pos') .Add e pos) (tAug i te (ipI fun i j => i + j)) (wAugI i t) :=
  ⟨ps_aug hN hi hx he.pe ip_add hf, snd_aug (r := ipI fun i j => i + j) (fun G B H v u d e z k R g g2 o1 o2 hf r => by
    unfold bAddI at hf
    split at hf
    · obtain rfl := ov_int o1
      obtain rfl := ov_int o2
      exact ⟨_, _, rfl, rfl, res_int hf r⟩
    · cases hf) he.snd⟩
theorem s_augS (i : Nat) {x : Str} {pos' : Pos} (hN : X.N.Nodup) (he : SE X e te t) (hi : X.N[i]? = some x := by rfl) (hx : Loc X.env.scope x := by first | exact Or.inl rfl | exact Or.inr rfl) (hf : X.fn x = true ∨ X.env.scope.names.lookup x = some .local := by first | exact .inl rfl | exact .inr rfl) :
    SS X (.AugAssign (.Name x pos') .Sub e pos) (tAug i te (ipI fun i j => i - j)) (wAug i bSub t) :=
  ⟨ps_aug hN hi hx he.pe ip_sub hf, snd_aug (r := ipI fun i j => i - j) (fun G B H v u d e z k R g g2 o1 o2 hf r => by
    unfold bSub at hf
    split at hf
    · obtain rfl := ov_int o1
      obtain rfl := ov_int o2
      exact ⟨_, _, rfl, rfl, res_int hf r⟩
    · cases hf) he.snd⟩
theorem s_expr (he : SE X e te t) (hs : swapsWith e none pos.line X.env = pure false := by rfl) : SS X (.Expr e pos) (tDrop te) (wDrop t) := ⟨ps_expr he.pe hs, snd_drop he.snd⟩
theorem s_for {tg iter : Expr} {wi : TI} {i : WI} {tgt : TG} {g : WG} (hi : SIF X tg iter wi i) (hg : SG X tg tgt g) (hb : SB X sts ts r) (hp : PassesOwn (model X.prog X.w) X.A X.env X.xe := by exact PassesOwn.never) (hc : X.calm = true := by rfl) (hs : ∀ x, foldedSetIterable iter X.env x = pure x := by intro _; rfl) :
    SS X (.For tg iter sts [] pos) (tFor wi tgt ts) (wFor i g r) := ⟨ps_for hp hc hi.pi hg.pg hb.ps hs, snd_for hi.snd hg.snd hb.snd⟩
theorem s_while (hc : ST X c tt p) (hb : SB X sts ts r) (hp : PassesOwn (model X.prog X.w) X.A X.env X.xe := by exact PassesOwn.never) : SS X (.While c sts [] pos) (tWhile tt ts) (wWhile p r) := ⟨ps_while hp hc.pt hb.ps, snd_while hc.snd hb.snd⟩
section
variable {n : Str} {np ap cp : Pos}
theorem s_append (i : Nat) (he : SE X e te t) (hN : X.N[i]? = some n := by rfl) (hv : Vis X.env.scope n := by first | exact Or.inl rfl | exact Or.inr (Or.inl rfl) | exact Or.inr (Or.inr rfl)) (hd : (n == ("__debug__" : Str)) = false := by decide) (hcd : (n == ("__classdict__" : Str)) = false := by decide)
    (hse : starEach [e] X.env = [(false, eval e X.env)] := by rfl)
    (hbase : attributeBase (.Name n np) "append" X.env (eval (.Name n np) X.env) = eval (.Name n np) X.env := by rfl)
    (hfew : ((backTo cp (starEach [e] X.env)).all (fun x => !x.1) && (backToKw cp (keywordEach [] X.env)).all (fun x => x.1.isSome) && decide ([e].length + ([] : List Keyword).length + (if ([] : List Keyword).isEmpty then 0 else 1) < 30)) = true := by rfl)
    (hline : (ap.endLine == cp.line) = true := by rfl) (hplain : (backTo cp (starEach [] X.env)).any (·.1) = false := by rfl)
    (hs : swapsWith (.Call (.Attribute (.Name n np) "append" ap) [e] [] cp) none pos.line X.env = pure false := by rfl) :
    SS X (.Expr (.Call (.Attribute (.Name n np) "append" ap) [e] [] cp) pos) (tDrop (tBM X.K "list" rAppend (tVar i) (tCons te tNil))) (wMut i t fAppend) :=
  ⟨ps_expr (pe_bm PySem.F.plainAttrs_list PySem.F.slot_list_append PySem.F.type_list_append mt_append (pe_var hN hv hd hcd) (pa_cons he.pe pa_nil hse) hbase hfew hline hse hplain) hs, snd_append he.snd⟩
theorem s_extend (i : Nat) (he : SE X e te t) (hN : X.N[i]? = some n := by rfl) (hv : Vis X.env.scope n := by first | exact Or.inl rfl | exact Or.inr (Or.inl rfl) | exact Or.inr (Or.inr rfl)) (hd : (n == ("__debug__" : Str)) = false := by decide) (hcd : (n == ("__classdict__" : Str)) = false := by decide)
    (hse : starEach [e] X.env = [(false, eval e X.env)] := by rfl)
    (hbase : attributeBase (.Name n np) "extend" X.env (eval (.Name n np) X.env) = eval (.Name n np) X.env := by rfl)
    (hfew : ((backTo cp (starEach [e] X.env)).all (fun x => !x.1) && (backToKw cp (keywordEach [] X.env)).all (fun x => x.1.isSome) && decide ([e].length + ([] : List Keyword).length + (if ([] : List Keyword).isEmpty then 0 else 1) < 30)) = true := by rfl)
    (hline : (ap.endLine == cp.line) = true := by rfl) (hplain : (backTo cp (starEach [] X.env)).any (·.1) = false := by rfl)
    (hs : swapsWith (.Call (.Attribute (.Name n np) "extend" ap) [e] [] cp) none pos.line X.env = pure false := by rfl) :
    SS X (.Expr (.Call (.Attribute (.Name n np) "extend" ap) [e] [] cp) pos) (tDrop (tBM X.K "list" rExtend (tVar i) (tCons te tNil))) (wExtend i t) :=
  ⟨ps_expr (pe_bm PySem.F.plainAttrs_list PySem.F.slot_list_extend PySem.F.type_list_extend mt_extend (pe_var hN hv hd hcd) (pa_cons he.pe pa_nil hse) hbase hfew hline hse hplain) hs, snd_extend he.snd⟩
end
end
end VL

namespace VL
open PySem PySem.Spec PyProof.Rows L2
open Evl (Ex)
variable {K : PySem.W.Frag}

/-! ### keys -/
def keyOf : D → Option Key
  | .int i => some (.inl i)
  | .str s => some (.inr s)
  | _ => none
def keysOf : List D → Option (List Key)
  | [] => some []
  | d :: r => match keyOf d, keysOf r with
    | some k, some ks => some (k :: ks)
    | _, _ => none
theorem key_v {G : Hp} {v : V} {d : D} {k : Key} (h : Rp K G v d) (e : keyOf d = some k) : v = kV k := by
  cases h <;> first | (cases e; rfl) | cases e
theorem keys_v {G : Hp} : ∀ {vs : List V} {ds : List D} {ks : List Key}, RpL K G vs ds → keysOf ds = some ks → vs = ks.map kV
  | _, _, _, .nil, e => by cases e; rfl
  | _, _, _, .cons (d := d) (ds := ds) h r, e => by
    unfold keysOf at e
    cases h1 : keyOf d with
    | none => rw [h1] at e; cases e
    | some k =>
      cases h2 : keysOf ds with
      | none => rw [h1, h2] at e; cases e
      | some ks =>
        rw [h1, h2] at e; cases e
        rw [key_v h h1, keys_v r h2]; rfl
section
variable {κ : Type} [DecidableEq κ]
def valD (es : List (κ × D)) (k : κ) : Option D := (es.find? fun kv => decide (kv.1 = k)).map (·.2)
def putD (es : List (κ × D)) (k : κ) (v : D) : List (κ × D) :=
  if (es.any fun kv => decide (kv.1 = k)) = true then es.map (fun kv => if kv.1 = k then (kv.1, v) else kv) else es ++ [(k, v)]
end
def RpO (K : PySem.W.Frag) (G : Hp) : Option V → Option D → Prop
  | some v, some d => Rp K G v d
  | none, none => True
  | _, _ => False
theorem RpK.val {G : Hp} (k : Key) : ∀ {vs : List (Key × V)} {ds : List (Key × D)}, RpK K G vs ds → RpO K G (valV vs k) (valD ds k)
  | _, _, .nil => trivial
  | _, _, .cons (k := j) (vs := vs) (ds := ds) h r => by
    have ih := RpK.val k r
    unfold valV valD at ih ⊢
    rw [List.find?_cons, List.find?_cons]
    by_cases e : j = k
    · simp only [e, decide_true]; exact h
    · simp only [e, decide_false]; exact ih
theorem RpT.val {G : Hp} (k : List Key) : ∀ {vs : List (List Key × V)} {ds : List (List Key × D)}, RpT K G vs ds → RpO K G (valV vs k) (valD ds k)
  | _, _, .nil => trivial
  | _, _, .cons (k := j) (vs := vs) (ds := ds) h r => by
    have ih := RpT.val k r
    unfold valV valD at ih ⊢
    rw [List.find?_cons, List.find?_cons]
    by_cases e : j = k
    · simp only [e, decide_true]; exact h
    · simp only [e, decide_false]; exact ih
theorem RpK.any {G : Hp} (k : Key) : ∀ {vs : List (Key × V)} {ds : List (Key × D)}, RpK K G vs ds → (vs.any fun kv => decide (kv.1 = k)) = ds.any fun kv => decide (kv.1 = k)
  | _, _, .nil => rfl
  | _, _, .cons h r => by rw [List.any_cons, List.any_cons, RpK.any k r]
theorem RpT.any {G : Hp} (k : List Key) : ∀ {vs : List (List Key × V)} {ds : List (List Key × D)}, RpT K G vs ds → (vs.any fun kv => decide (kv.1 = k)) = ds.any fun kv => decide (kv.1 = k)
  | _, _, .nil => rfl
  | _, _, .cons h r => by rw [List.any_cons, List.any_cons, RpT.any k r]
theorem RpK.mapK {G : Hp} {k : Key} {v : V} {d : D} (h : Rp K G v d) : ∀ {vs : List (Key × V)} {ds : List (Key × D)}, RpK K G vs ds → RpK K G (vs.map fun kv => if kv.1 = k then (kv.1, v) else kv) (ds.map fun kv => if kv.1 = k then (kv.1, d) else kv)
  | _, _, .nil => .nil
  | _, _, .cons (k := j) a r => by
    rw [List.map_cons, List.map_cons]
    by_cases e : j = k
    · rw [if_pos e, if_pos e]; exact .cons h (RpK.mapK h r)
    · rw [if_neg e, if_neg e]; exact .cons a (RpK.mapK h r)
theorem RpT.mapK {G : Hp} {k : List Key} {v : V} {d : D} (h : Rp K G v d) : ∀ {vs : List (List Key × V)} {ds : List (List Key × D)}, RpT K G vs ds → RpT K G (vs.map fun kv => if kv.1 = k then (kv.1, v) else kv) (ds.map fun kv => if kv.1 = k then (kv.1, d) else kv)
  | _, _, .nil => .nil
  | _, _, .cons (k := j) a r => by
    rw [List.map_cons, List.map_cons]
    by_cases e : j = k
    · rw [if_pos e, if_pos e]; exact .cons h (RpT.mapK h r)
    · rw [if_neg e, if_neg e]; exact .cons a (RpT.mapK h r)
theorem RpK.app {G : Hp} : ∀ {vs us : List (Key × V)} {ds es : List (Key × D)}, RpK K G vs ds → RpK K G us es → RpK K G (vs ++ us) (ds ++ es)
  | _, _, _, _, .nil, h => h
  | _, _, _, _, .cons a r, h => .cons a (RpK.app r h)
theorem RpT.app {G : Hp} : ∀ {vs us : List (List Key × V)} {ds es : List (List Key × D)}, RpT K G vs ds → RpT K G us es → RpT K G (vs ++ us) (ds ++ es)
  | _, _, _, _, .nil, h => h
  | _, _, _, _, .cons a r, h => .cons a (RpT.app r h)
theorem RpT.length {G : Hp} : ∀ {vs : List (List Key × V)} {ds : List (List Key × D)}, RpT K G vs ds → vs.length = ds.length
  | _, _, .nil => rfl
  | _, _, .cons _ r => by rw [List.length_cons, List.length_cons, RpT.length r]
theorem RpK.put {G : Hp} {k : Key} {v : V} {d : D} (h : Rp K G v d) {vs : List (Key × V)} {ds : List (Key × D)} (r : RpK K G vs ds) : RpK K G (putK vs k v) (putD ds k d) := by
  unfold putK putD
  rw [r.any k]
  split
  · exact r.mapK h
  · exact r.app (.cons h .nil)
theorem RpT.put {G : Hp} {k : List Key} {v : V} {d : D} (h : Rp K G v d) {vs : List (List Key × V)} {ds : List (List Key × D)} (r : RpT K G vs ds) : RpT K G (putK vs k v) (putD ds k d) := by
  unfold putK putD
  rw [r.any k]
  split
  · exact r.mapK h
  · exact r.app (.cons h .nil)
/-- what a dict answers: none: not a dict, or no key of it -/
def getD2 (d k : D) : Option (Option D) := match d with
  | .dk es => (keyOf k).map fun k => valD es k
  | .dt es => match k with
    | .tup ks => (keysOf ks).map fun k => valD es k
    | _ => none
  | _ => none
theorem getD2_ok {G B H : Hp} {v u : V} {d k : D} {o : Option D} (g : Ex G B) (g2 : Ex B H) (o1 : Ov K G B v d) (o2 : Ov K G B u k) (h : getD2 d k = some o) : ∃ a ov, v = .ref a ∧ DGet H a u ov ∧ RpO K G ov o := by
  unfold getD2 at h
  split at h
  · rename_i es
    obtain ⟨a, kvs, rfl, t, r⟩ := o1
    cases hk : keyOf k with
    | none => rw [hk] at h; cases h
    | some key =>
      rw [hk] at h; cases h
      have : u = kV key := by
        cases k with
        | int i => obtain rfl := ov_int o2; cases hk; rfl
        | str i => obtain rfl := ov_str o2; cases hk; rfl
        | _ => cases hk
      subst this
      exact ⟨a, _, rfl, .inl ⟨kvs, key, rd_mono g2 t, rfl, rfl⟩, r.val key⟩
  · rename_i es
    obtain ⟨a, kvs, rfl, t, r⟩ := o1
    split at h
    · rename_i ks
      cases hk : keysOf ks with
      | none => rw [hk] at h; cases h
      | some keys =>
        rw [hk] at h; cases h
        cases (show Rp K G u (.tup ks) from o2) with
        | @tup b vs _ tb rb =>
          have e := keys_v rb hk
          subst e
          exact ⟨a, _, rfl, .inr ⟨kvs, keys, b, .inl (g2 _ _ t), rfl, g2 _ _ (g _ _ tb), rfl⟩, r.val keys⟩
    · cases h
  · cases h

/-! ### d[k], k in d -/
section
variable {X : Cx}
def rIxD : R2 := fun x y H Q => ∃ a v, x = .ref a ∧ DGet H a y (some v) ∧ Q v H
theorem ix_dict (hu : X.A.units + 1 < cLine) : IxR X rIxD := by
  intro value slice pins s σ H x y v u Q I rx ry h hs
  obtain ⟨a, z, rfl, g, q⟩ := h
  obtain rfl : v = Value.ref a := rx
  have hT := dict_typeIs I g
  unfold subscriptTail
  refine wpAny_bind ?_
  rw [getitemInPython_of_ne hT.not_modules]
  refine wpAny_bind (wpAny_specialOf hT PySem.F.slot_dict_getitem.lookup ?_)
  have fin : wpAny (model X.prog X.w) X.A (subscripted slice false (.ref a) u) (fun r s₃ => wpAny (model X.prog X.w) X.A (letTemporaryGo value (.ref a) r >>= fun _ => pure r) (EP X pins σ Q) X.xe s₃) X.xe s := by
    rw [hs]
    exact wpAny_operating (d_getItem hu I g ry fun w' s3 I3 rw' => wpAny_bind (wpAny_letTemporaryGo (wpAny_pure ⟨z, H, I3, rw', q⟩)))
  first
    | exact wpAny_pure (wpAny_bind fin)
    | exact wpAny_bind (wpAny_pure (wpAny_bind fin))
    | exact wpAny_bind fin
def rSubs (K : PySem.W.Frag) : R2 := fun x y H Q => rIx K x y H Q ∨ rIxD x y H Q
theorem ix_all (hu : X.A.units + 1 < cLine) : IxR X (rSubs X.K) := ix_seq.or (ix_dict hu)
def bSubs (d k : D) : Oz := match getD2 d k with
  | some (some z) => some (z, .fz)
  | some none => none
  | none => bIx d k
theorem snd_bSubs : OpS K (rSubs K) bSubs := fun G B H v u d e z k R g g2 o1 o2 hf r => by
  unfold bSubs at hf
  split at hf
  · rename_i z' hz
    cases hf
    obtain ⟨a, ov, rfl, dg, ro⟩ := getD2_ok g g2 o1 o2 hz
    cases ov with
    | none => exact ro.elim
    | some x => exact .inr ⟨a, x, rfl, dg, r.val _ rfl ro⟩
  · cases hf
  · exact .inl (snd_bIx G B H v u d e z k R g g2 o1 o2 hf r)
/-- x in .. -/
def rInT (K : PySem.W.Frag) : R2 := fun x y H Q => ∃ d ds, Dp K H x d ∧ Dp K H y (.tuple ds) ∧ SeqAt.shaped d = true ∧ SeqAt.shaped (.tuple ds) = true ∧ Q (.bl (ds.any fun z => PyData.eqv z d)) H
def rNotInT (K : PySem.W.Frag) : R2 := fun x y H Q => ∃ d ds, Dp K H x d ∧ Dp K H y (.tuple ds) ∧ SeqAt.shaped d = true ∧ SeqAt.shaped (.tuple ds) = true ∧ Q (.bl (!ds.any fun z => PyData.eqv z d)) H
theorem op_inT (hu : X.A.units + 65 < cLine) : OpR X (compareOp .In) (rInT X.K) := by
  intro pins s σ H x y v u Q I rx ry h
  obtain ⟨d, ds, hd, he, sd, se, q⟩ := h
  obtain ⟨as, r1⟩ := Dp.reads I d x v hd rx
  obtain ⟨bs, r2⟩ := Dp.reads I (.tuple ds) y u he ry
  exact SeqAt.in_tuple_reads r2 r1 (SeqAt.canLay_of_shaped se) (SeqAt.canLay_of_shaped sd) (room_in_shaped sd hu) ⟨.bl _, H, I, rfl, q⟩
theorem op_notInT (hu : X.A.units + 65 < cLine) : OpR X (compareOp .NotIn) (rNotInT X.K) := by
  intro pins s σ H x y v u Q I rx ry h
  obtain ⟨d, ds, hd, he, sd, se, q⟩ := h
  obtain ⟨as, r1⟩ := Dp.reads I d x v hd rx
  obtain ⟨bs, r2⟩ := Dp.reads I (.tuple ds) y u he ry
  exact SeqAt.notIn_tuple_reads r2 r1 (SeqAt.canLay_of_shaped se) (SeqAt.canLay_of_shaped sd) (room_in_shaped sd hu) ⟨.bl _, H, I, rfl, q⟩
def rInK : R2 := fun y x H Q => ∃ a o, x = .ref a ∧ DGet H a y o ∧ Q (.bl o.isSome) H
def rNotInK : R2 := fun y x H Q => ∃ a o, x = .ref a ∧ DGet H a y o ∧ Q (.bl (!o.isSome)) H
theorem op_inK (hu : X.A.units + 1 < cLine) : OpR X (compareOp .In) rInK := by
  intro pins s σ H x y v u Q I rx ry h
  obtain ⟨a, o, rfl, g, q⟩ := h
  obtain rfl : u = Value.ref a := ry
  exact d_in hu I g rx fun s3 I3 => ⟨.bl o.isSome, H, I3, rfl, q⟩
theorem op_notInK (hu : X.A.units + 1 < cLine) : OpR X (compareOp .NotIn) rNotInK := by
  intro pins s σ H x y v u Q I rx ry h
  obtain ⟨a, o, rfl, g, q⟩ := h
  obtain rfl : u = Value.ref a := ry
  exact d_notIn hu I g rx fun s3 I3 => ⟨.bl (!o.isSome), H, I3, rfl, q⟩
def rInAll (K : PySem.W.Frag) : R2 := fun x y H Q => rInD K x y H Q ∨ rInT K x y H Q ∨ rInK x y H Q ∨ ∃ (c : Nat) (z : Str), x = .str ⟨#[c]⟩ ∧ y = .str z ∧ Q (.bl (decide (c ∈ z.cps.toList))) H
def rNotInAll (K : PySem.W.Frag) : R2 := fun x y H Q => rNotInD K x y H Q ∨ rNotInT K x y H Q ∨ rNotInK x y H Q ∨ ∃ (c : Nat) (z : Str), x = .str ⟨#[c]⟩ ∧ y = .str z ∧ Q (.bl (!decide (c ∈ z.cps.toList))) H
theorem op_inAll (hu : X.A.units + 65 < cLine) : OpR X (compareOp .In) (rInAll X.K) := (op_inD hu).or ((op_inT hu).or ((op_inK (by omega)).or op_in_sign))
theorem op_notInAll (hu : X.A.units + 65 < cLine) : OpR X (compareOp .NotIn) (rNotInAll X.K) := (op_notInD hu).or ((op_notInT hu).or ((op_notInK (by omega)).or op_notIn_sign))
/-- the answer of in -/
def inD (d e : D) : Option Bool := match e with
  | .lst ds => if okE 20 d = true ∧ okE 20 (.lst ds) = true then some (ds.any fun z => eqv z d) else none
  | .tup ds => if okE 20 d = true ∧ okE 20 (.tup ds) = true then some (ds.any fun z => eqv z d) else none
  | .ft ds => if okE 20 d = true ∧ okE 20 (.ft ds) = true then some (ds.any fun z => eqv z d) else none
  | .fl ds => if okE 20 d = true ∧ okE 20 (.fl ds) = true then some (ds.any fun z => eqv z d) else none
  | .str s => match d with
    | .str x => match x.cps.toList with
      | [c] => some (decide (c ∈ s.cps.toList))
      | _ => none
    | _ => none
  | e => (getD2 e d).map fun o => o.isSome
def bIn (d e : D) : Oz := (inD d e).bind fun c => ozB c
def bNotIn (d e : D) : Oz := (inD d e).bind fun c => ozB (!c)
theorem any_py (d : D) : ∀ ds : List D, ((toPys ds).any fun z => PyData.eqv z (toPy d)) = ds.any fun z => eqv z d
  | [] => rfl
  | x :: r => by
    rw [show toPys (x :: r) = toPy x :: toPys r by rfl, List.any_cons, List.any_cons, any_py d r, eqv_py]
theorem str_one {x : Str} {c : Nat} (h : x.cps.toList = [c]) : x = ⟨#[c]⟩ := by
  obtain ⟨a⟩ := x
  have : a = #[c] := by
    apply Array.ext'
    simpa using h
  rw [this]
theorem inD_py {G B H : Hp} {u v : V} {d e : D} {c : Bool} (g : Ex G B) (g2 : Ex B H) (o1 : Ov K G B v d) (o2 : Ov K G B u e) (h : inD d e = some c) :
    (∃ ds, Dp K H v (toPy d) ∧ Dp K H u (.list ds) ∧ SeqAt.shaped (toPy d) = true ∧ SeqAt.shaped (.list ds) = true ∧ c = ds.any fun z => PyData.eqv z (toPy d)) ∨
    (∃ ds, Dp K H v (toPy d) ∧ Dp K H u (.tuple ds) ∧ SeqAt.shaped (toPy d) = true ∧ SeqAt.shaped (.tuple ds) = true ∧ c = ds.any fun z => PyData.eqv z (toPy d)) ∨
    (∃ a o, u = .ref a ∧ DGet H a v o ∧ c = o.isSome) ∨ ∃ (k : Nat) (z : Str), v = .str ⟨#[k]⟩ ∧ u = .str z ∧ c = decide (k ∈ z.cps.toList) := by
  unfold inD at h
  split at h
  · rename_i ds
    split at h
    · rename_i hk
      cases h
      have := Rp.dp hk.2 ((o2.rp g).mono g2)
      rw [show toPy (.lst ds) = .list (toPys ds) by rfl] at this
      have sh := okE_shaped hk.2
      rw [show toPy (.lst ds) = .list (toPys ds) by rfl] at sh
      exact .inl ⟨toPys ds, Rp.dp hk.1 ((o1.rp g).mono g2), this, okE_shaped hk.1, sh, (any_py d ds).symm⟩
    · cases h
  · rename_i ds
    split at h
    · rename_i hk
      cases h
      have := Rp.dp hk.2 ((o2.rp g).mono g2)
      rw [show toPy (.tup ds) = .tuple (toPys ds) by rfl] at this
      have sh := okE_shaped hk.2
      rw [show toPy (.tup ds) = .tuple (toPys ds) by rfl] at sh
      exact .inr (.inl ⟨toPys ds, Rp.dp hk.1 ((o1.rp g).mono g2), this, okE_shaped hk.1, sh, (any_py d ds).symm⟩)
    · cases h
  · rename_i ds
    split at h
    · rename_i hk
      cases h
      have := Rp.dp hk.2 ((o2.rp g).mono g2)
      rw [show toPy (.ft ds) = .tuple (toPys ds) by rfl] at this
      have sh := okE_shaped hk.2
      rw [show toPy (.ft ds) = .tuple (toPys ds) by rfl] at sh
      exact .inr (.inl ⟨toPys ds, Rp.dp hk.1 ((o1.rp g).mono g2), this, okE_shaped hk.1, sh, (any_py d ds).symm⟩)
    · cases h
  · rename_i ds
    split at h
    · rename_i hk
      cases h
      have := Rp.dp hk.2 ((o2.rp g).mono g2)
      rw [show toPy (.fl ds) = .list (toPys ds) by rfl] at this
      have sh := okE_shaped hk.2
      rw [show toPy (.fl ds) = .list (toPys ds) by rfl] at sh
      exact .inl ⟨toPys ds, Rp.dp hk.1 ((o1.rp g).mono g2), this, okE_shaped hk.1, sh, (any_py d ds).symm⟩
    · cases h
  · rename_i s
    split at h
    · rename_i x
      split at h
      · rename_i k hx
        cases h
        obtain rfl := ov_str o1
        obtain rfl := ov_str o2
        exact .inr (.inr (.inr ⟨k, s, by rw [str_one hx], rfl, rfl⟩))
      · cases h
    · cases h
  · cases hg : getD2 e d with
    | none => rw [hg] at h; cases h
    | some o =>
      rw [hg] at h; cases h
      obtain ⟨a, ov, rfl, dg, ro⟩ := getD2_ok g g2 o2 o1 hg
      refine .inr (.inr (.inl ⟨a, ov, rfl, dg, ?_⟩))
      cases ov <;> cases o <;> first | rfl | exact ro.elim
theorem snd_bIn : OpS K (rInAll K) bIn := fun G B H v u d e z k R g g2 o1 o2 hf r => by
  unfold bIn at hf
  cases hi : inD d e with
  | none => rw [hi] at hf; cases hf
  | some c =>
    rw [hi] at hf
    have q := res_bl (i := c) hf r
    rcases inD_py g g2 o1 o2 hi with ⟨ds, a1, a2, a3, a4, rfl⟩ | ⟨ds, a1, a2, a3, a4, rfl⟩ | ⟨a, o, rfl, a2, rfl⟩ | ⟨k', z', rfl, rfl, rfl⟩
    · exact .inl ⟨_, _, a1, a2, a3, a4, q⟩
    · exact .inr (.inl ⟨_, _, a1, a2, a3, a4, q⟩)
    · exact .inr (.inr (.inl ⟨a, o, rfl, a2, q⟩))
    · exact .inr (.inr (.inr ⟨_, _, rfl, rfl, q⟩))
theorem snd_bNotIn : OpS K (rNotInAll K) bNotIn := fun G B H v u d e z k R g g2 o1 o2 hf r => by
  unfold bNotIn at hf
  cases hi : inD d e with
  | none => rw [hi] at hf; cases hf
  | some c =>
    rw [hi] at hf
    have q := res_bl (i := !c) hf r
    rcases inD_py g g2 o1 o2 hi with ⟨ds, a1, a2, a3, a4, rfl⟩ | ⟨ds, a1, a2, a3, a4, rfl⟩ | ⟨a, o, rfl, a2, rfl⟩ | ⟨k', z', rfl, rfl, rfl⟩
    · exact .inl ⟨_, _, a1, a2, a3, a4, q⟩
    · exact .inr (.inl ⟨_, _, a1, a2, a3, a4, q⟩)
    · exact .inr (.inr (.inl ⟨a, o, rfl, a2, q⟩))
    · exact .inr (.inr (.inr ⟨_, _, rfl, rfl, q⟩))

/-! ### a dict written -/
def mergeD (kvs more : List (Key × D)) : List (Key × D) := more.foldl (fun acc kv => putD acc kv.1 kv.2) kvs
theorem RpK.merge {G : Hp} : ∀ {more : List (Key × V)} {em : List (Key × D)} {kvs : List (Key × V)} {es : List (Key × D)}, RpK K G more em → RpK K G kvs es → RpK K G (mergeK kvs more) (mergeD es em)
  | _, _, _, _, .nil, h => h
  | _, _, kvs, es, .cons (k := k) (v := v) (d := d) (vs := vs) (ds := ds) a r, h => by
    show RpK K G (mergeK (putK kvs k v) vs) (mergeD (putD es k d) ds)
    exact RpK.merge r (h.put a)
abbrev WP := Rho → (List (Key × D) → Rho → Prop) → Prop
def pNil : WP := fun ρ Q => Q [] ρ
def pCons (tk tv : WE) (u : WP) : WP := fun ρ Q => tk ρ fun k _ ρ1 => tv ρ1 (toF fun d ρ2 => u ρ2 fun es ρ3 => match keyOf k with
  | some key => Q ((key, d) :: es) ρ3
  | none => False)
def SndP (K : PySem.W.Frag) (trs : List (TE × TE)) (t : WP) : Prop := ∀ (b : Bs) (G : Hp) (ρ : Rho) (σ : L2.St) (H : Hp) (Q : List (Key × D) → Rho → Prop) (R : List (V × V) → Hp → Prop), Sim K b G ρ σ H → t ρ Q →
  (∀ es ρ' kvs G' H', Q es ρ' → Xt b ρ σ G H ρ' G' H' → Sim K b G' ρ' σ H' → RpK K G' kvs es → R (kvs.map fun kv => (kV kv.1, kv.2)) H') → tPairs trs σ H R
theorem sndP_nil : SndP K [] pNil := fun b G ρ σ H Q R s q k => k [] ρ [] G H q .refl s .nil
theorem sndP_cons {tk tv : TE} {trs : List (TE × TE)} {wk wv : WE} {u : WP} (hk : SndE K tk wk) (hv : SndE K tv wv) (hr : SndP K trs u) : SndP K ((tk, tv) :: trs) (pCons wk wv u) := by
  intro b G ρ σ H Q R s h k
  refine hk b G ρ σ H _ _ s h fun dk ka ρ1 vk G1 H1 q1 x1 s1 r1 => ?_
  have ok1 := r1.ov s1
  refine hv b G1 ρ1 σ H1 _ _ s1 q1 fun d kd ρ2 v G2 H2 q2 x2 s2 r2 => ?_
  refine frozen (R := fun v H' => tPairs trs σ H' fun ps H3 => R ((vk, v) :: ps) H3) q2 x2 s1 s2 r2 fun d ρ3 v G3 q3 x3 s3 r3 => ?_
  refine hr b G3 ρ3 σ H2 _ _ s3 q3 fun es ρ4 kvs G4 H4 q4 x4 s4 r4 => ?_
  cases hkey : keyOf dk with
  | none => rw [hkey] at q4; exact q4.elim
  | some key =>
    rw [hkey] at q4
    have : vk = kV key := by
      cases dk with
      | int i => obtain rfl := ov_int ok1; cases hkey; rfl
      | str i => obtain rfl := ov_str ok1; cases hkey; rfl
      | _ => cases hkey
    subst this
    exact k ((key, d) :: es) ρ4 ((key, v) :: kvs) G4 H4 q4 ((x1.trans x3).trans x4) s4 (.cons (r3.mono x4.g) r4)
def wDisp (t : WP) : WE := fun ρ Q => t ρ fun es ρ1 => es.length ≤ 15 ∧ Q (.dk (mergeD [] es)) .nw ρ1
theorem RpK.len {G : Hp} {vs : List (Key × V)} {ds : List (Key × D)} (h : RpK K G vs ds) : vs.length = ds.length := RpK.length h
theorem snd_disp {trs : List (TE × TE)} {t : WP} (h : SndP K trs t) : SndE K (tDisp trs) (wDisp t) := by
  intro b G ρ σ H Q R s hq k p hp
  have hw := s.aw_ne hp
  have s0 := s.laid (o := .dK []) hp
  refine h b G ρ σ _ _ _ s0 hq fun es ρ1 kvs G1 H1 ⟨hl, q1⟩ x1 s1 r1 => ?_
  have e0 : hd b.aw (upd H p (.dK [])) p = some (.dK []) := by rw [hd_ne hw]; exact upd_same
  have e1 : H1 p = some (.dK []) := (hd_some (x1.h p _ e0)).2
  have no : ∀ (i : Nat) (d : D), ρ1[i]? = some (.ow d) → σ[i]? ≠ some (some (.ref p)) := fun i d e z => s.noown hp i d (x1.own i d e) z
  have g1 : G1 p = none := x1.new p _ e0 (s.fresh hp) fun ⟨i, d, z1, z2⟩ => s.noown hp i d z1 z2
  refine ⟨e1, kvs, rfl, by rw [r1.len]; exact hl, ?_⟩
  have s2 := s1.poke (o := .dK (mergeK [] kvs)) hw (s.fresh0 hp) g1 no
  have hf : hd b.aw H p = none := hd_none hp
  refine k _ .nw ρ1 (.ref p) G1 _ q1 ⟨x1.g, fun a o e => ?_, fun a o e n no' => x1.new a o (hd_new hp a o e) n no', x1.own⟩ s2 ⟨p, rfl, hf, hw, g1, _, upd_same, RpK.merge r1 .nil⟩
  rw [hd_upd hw, upd_ne fun z => by subst z; rw [hf] at e; cases e]
  exact x1.h a o (hd_new hp a o e)
def wDk0 : WE := fun ρ Q => Q (.dk []) .nw ρ
def wDt0 : WE := fun ρ Q => Q (.dt []) .nw ρ
theorem snd_dk0 : SndE K tDNewK wDk0 := fun b G ρ σ H Q R s q k p hp => (res_of s k q).new p _ rfl hp ⟨[], upd_same, .nil⟩
theorem snd_dt0 : SndE K tDNewT wDt0 := fun b G ρ σ H Q R s q k p hp => (res_of s k q).new p _ rfl hp ⟨[], upd_same, .nil⟩

/-! ### d[k] = v, of a dict that a slot owns -/
def putD2 (d k v : D) : Option D := match d with
  | .dk es => if es.length < LIM then (keyOf k).map fun k => .dk (putD es k v) else none
  | .dt es => if es.length < LIM then match k with
    | .tup ks => (keysOf ks).map fun k => .dt (putD es k v)
    | _ => none else none
  | _ => none
/-- value, then the dict's name, then the key -/
def wDPut (j : Nat) (wk wv : WE) : WS := fun P ρ => wv ρ (toF fun v ρ1 => (∃ d, ρ1[j]? = some (.ow d)) ∧ wk ρ1 fun k _ ρ2 => match ρ2[j]? with
  | some (.ow d) => match putD2 d k v with
    | some z => P.nx (ρ2.set j (.ow z))
    | none => False
  | _ => False)
theorem ov_key {G B : Hp} {u : V} {k : D} {key : Key} (o : Ov K G B u k) (h : keyOf k = some key) : u = kV key := by
  cases k with
  | int i => obtain rfl := ov_int o; cases h; rfl
  | str i => obtain rfl := ov_str o; cases h; rfl
  | _ => cases h
theorem snd_dput {j : Nat} {tk tv : TE} {wk wv : WE} (hk : SndE K tk wk) (hv : SndE K tv wv) : SndS K (sDPut (tVar j) tk tv) (wDPut j wk wv) := fun b P E G ρ σ H e s hq => by
  refine hv b G ρ σ H _ _ s hq fun d kd ρ1 v G1 H1 q1 x1 s1 r1 => ?_
  refine frozen (R := fun v H' => tVar j σ H' fun x H2 => tk σ H2 fun y H3 => ∃ a H4, x = .ref a ∧ DPut H3 a y v H4 ∧ E.nx σ H4) q1 x1 s s1 r1 fun d ρ1 v G1 q1 x1 s1 r1 => ?_
  obtain ⟨⟨d0, e0⟩, q1⟩ := q1
  obtain ⟨a, h1, _⟩ := s1.ow j d0 e0
  refine ⟨_, h1, ?_⟩
  refine hk b G1 ρ1 σ H1 _ _ s1 q1 fun k kk ρ2 u G2 H2 q2 x2 s2 r2 => ?_
  have ok := r2.ov s2
  split at q2
  · rename_i dd e2
    split at q2
    · rename_i z ez
      obtain ⟨a', c1, c2, c3, c4, c5⟩ := s2.ow j dd e2
      rw [h1] at c1; cases c1
      have rv := r1.mono x2.g
      cases dd with
      | dk es =>
        obtain ⟨kvs, c6, c7⟩ := c5
        simp only [putD2] at ez
        split at ez
        · rename_i hl
          cases hkey : keyOf k with
          | none => rw [hkey] at ez; cases ez
          | some key =>
            rw [hkey] at ez; cases ez
            obtain rfl := ov_key ok hkey
            exact ⟨a, _, rfl, .inl ⟨kvs, key, c6, rfl, by rw [c7.length]; exact lim_lt hl, rfl⟩, e.nx _ σ G2 _ q2 (s2.put e2 h1 ⟨_, upd_same, c7.put rv⟩)⟩
        · cases ez
      | dt es =>
        obtain ⟨kvs, c6, c7⟩ := c5
        simp only [putD2] at ez
        split at ez
        · rename_i hl
          split at ez
          · rename_i ks
            cases hkey : keysOf ks with
            | none => rw [hkey] at ez; cases ez
            | some keys =>
              rw [hkey] at ez; cases ez
              cases (show Rp K G2 u (.tup ks) from ok) with
              | @tup b' vs _ tb rb =>
                have ek := keys_v rb hkey
                subst ek
                exact ⟨a, _, rfl, .inr ⟨kvs, keys, b', c6, rfl, s2.le _ _ tb, by rw [c7.length]; exact lim_lt hl, rfl⟩, e.nx _ σ G2 _ q2 (s2.put e2 h1 ⟨_, upd_same, c7.put rv⟩)⟩
          · cases ez
        · cases ez
      | _ => simp [putD2] at ez
    · exact q2.elim
  · exact q2.elim
end
end VL

namespace VL
open PySem PySem.Spec PyProof.Rows L2
open Evl (Ex)

/-! ### order of data -/
inductive Sh where
  | int | str | seq (s : Sh) | prod (ss : List Sh)
mutual
def hasSh : Sh → D → Bool
  | .int, .int _ => true
  | .str, .str x => x.cps.all (· < 0x110000)
  | .seq s, .tup xs => xs.all fun x => hasSh s x
  | .prod ss, .tup xs => hasPr ss xs
  | _, _ => false
def hasPr : List Sh → List D → Bool
  | [], [] => true
  | s :: ss, x :: xs => hasSh s x && hasPr ss xs
  | _, _ => false
end
mutual
def dlt : D → D → Bool
  | .int i, .int j => decide (i < j)
  | .str x, .str y => decide (x.cps.toList < y.cps.toList)
  | .tup xs, .tup ys => dlts xs ys
  | _, _ => false
def dlts : List D → List D → Bool
  | [], [] => false
  | [], _ :: _ => true
  | _ :: _, [] => false
  | x :: xs, y :: ys => if eqv x y = true then dlts xs ys else dlt x y
end
mutual
def depSh : Sh → Nat
  | .int => 0
  | .str => 0
  | .seq s => depSh s + 1
  | .prod ss => depShs ss + 1
def depShs : List Sh → Nat
  | [] => 0
  | s :: ss => max (depSh s) (depShs ss)
end
def LtAt (A : Around) (s : Shared) (v u : Value) (c : Bool) : Prop := ∀ (prog : Program) (w : World) (E Q : Value → Shared → Prop), Q (.bool c) s → wpAny (model prog w) A (richCompare .Lt v u) Q E s
def TLt (A : Around) (s : Shared) : List Value → List Value → Bool → Prop
  | [], [], r => r = false
  | [], _ :: _, r => r = true
  | _ :: _, [], r => r = false
  | v :: vs, u :: us, r => ∃ e, SeqAt.EqAt A s v u e ∧ (e = true → TLt A s vs us r) ∧ (e = false → LtAt A s v u r)
section
open PySem.SeqAt
open PySem.AutoSeq1 (wpAny_loadPart')
open PySem.MeetsSeq PySem.MeetsSeq2 PySem.MeetsSeq3
theorem tuple_lt_gen (l b : Addr) (items items2 : Array Value) (n n2 : Nat) (dd dd2 : Option Addr) (sl sl2 : Array (Option Value)) :
    Meets (Builtin.«tuple.__lt__» ⟨[.ref l, .ref b], []⟩)
      (fun A R s => s.heap.get? l = some { cls := .type "tuple", dict := dd, data := .seq items n, slots := sl } ∧ s.heap.get? b = some { cls := .type "tuple", dict := dd2, data := .seq items2 n2, slots := sl2 } ∧
        ∃ r, TLt A.in1 s items.toList items2.toList r ∧ R (.ok (.ret (.bool r))) s) :=
  .of_wp fun prog w A R s h => by
    obtain ⟨hp, g, d, tk, os⟩ := s; obtain ⟨hl, hb, r, ht, h⟩ := h
    have f2 := AutoSeq1.sub_tuple_tuple
    wp_walk using wpAny_loadPart' hl, wpAny_loadPart' hb, wpAny_forIn_list _ (fun rest b s' => b.1 = none ∧ s' = ⟨hp, g, d, tk, os⟩ ∧ ∃ (vs ws : List Value), rest = vs.zip ws ∧
      vs.length + items2.size = ws.length + items.size ∧ TLt A.in1 ⟨hp, g, d, tk, os⟩ vs ws r) _
    case turn =>
      rintro ⟨y, x⟩ rest b s' ⟨hb', rfl, vs, ws, hz, hlen, hT⟩
      cases vs with
      | nil => rw [List.zip_nil_left] at hz; cases hz
      | cons v vs =>
        cases ws with
        | nil => rw [List.zip_nil_right] at hz; cases hz
        | cons u ws =>
          rw [List.zip_cons_cons] at hz
          injection hz with hyx hrest
          injection hyx with hy hx
          subst hy hx
          simp only [List.length_cons] at hlen
          obtain ⟨e, he, h1, h2⟩ := hT
          refine wpAny_bind (he prog w _ _ ?_)
          cases e with
          | true =>
            wp_walk
            exact ⟨rfl, rfl, _, _, hrest, by omega, h1 rfl⟩
          | false =>
            have hri := h2 rfl prog w
            wp_walk using hri
            exact ⟨_, rfl, by simpa using h⟩
    case fin =>
      rintro ⟨b1, b2⟩ s' ⟨hb', rfl, vs, ws, hz, hlen, hT⟩
      simp only at hb'
      subst hb'
      have hv : r = decide (items.size < items2.size) := by
        cases vs with
        | nil =>
          cases ws with
          | nil =>
            simp only [List.length_nil] at hlen
            rw [show r = false from hT]
            exact (decide_eq_false (by omega)).symm
          | cons u ws =>
            simp only [List.length_nil, List.length_cons] at hlen
            rw [show r = true from hT]
            exact (decide_eq_true (by omega)).symm
        | cons v vs =>
          cases ws with
          | nil =>
            simp only [List.length_nil, List.length_cons] at hlen
            rw [show r = false from hT]
            exact (decide_eq_false (by omega)).symm
          | cons u ws =>
            rw [List.zip_cons_cons] at hz
            cases hz
      rw [hv] at h
      wp_walk
      exact ⟨_, rfl, by simpa [Builtin.Tuple.tupleCompareSizes] using h⟩
    case h =>
      exact ⟨rfl, rfl, items.toList, items2.toList, rfl, by simp [Nat.add_comm], ht⟩
end
section
variable {A : Around} {s : Shared}
theorem ltAt_tup {l b : Addr} {items items2 : Array Value} {r : Bool} (hl : IsTup s.heap l items) (hb : IsTup s.heap b items2) (hu : A.units < cLine) (h : TLt A.in1 s items.toList items2.toList r) : LtAt A s (.ref l) (.ref b) r := fun prog w E Q q => by
  obtain ⟨⟨cls, dd, data, sl⟩, ho, hc, n, hd⟩ := id hl
  obtain ⟨⟨cls2, dd2, data2, sl2⟩, ho2, hc2, n2, hd2⟩ := id hb
  simp only at hc hd hc2 hd2
  subst hc hd hc2 hd2
  exact richCompare_meets_room (op := .Lt) ⟨_, ho, rfl⟩ ⟨_, ho2, rfl⟩ PySem.F.slot_tuple_lt PySem.F.entry_tuple_lt (PySem.F.args_tuple_lt_2 _ _) (tuple_lt_gen l b items items2 n n2 dd dd2 sl sl2)
    ⟨ho, ho2, r, h, show Value.bool r ≠ Value.notImplemented ∧ Q (.bool r) s from ⟨(fun x => nomatch x), q⟩⟩ hu
end
end VL

namespace VL
open PySem PySem.Spec PyProof.Rows L2
open Evl (Ex)

structure OrdOn (P : D → Prop) : Prop where
  eq : ∀ d e, P d → P e → (eqv d e = true ↔ d = e)
  irr : ∀ d, P d → dlt d d = false
  tr : ∀ d e f, P d → P e → P f → dlt d e = true → dlt e f = true → dlt d f = true
  tot : ∀ d e, P d → P e → dlt d e = true ∨ d = e ∨ dlt e d = true
structure OrdL (P : List D → Prop) : Prop where
  eq : ∀ d e, P d → P e → (eqvs d e = true ↔ d = e)
  irr : ∀ d, P d → dlts d d = false
  tr : ∀ d e f, P d → P e → P f → dlts d e = true → dlts e f = true → dlts d f = true
  tot : ∀ d e, P d → P e → dlts d e = true ∨ d = e ∨ dlts e d = true
theorem dlts_cons {P : D → Prop} (O : OrdOn P) {x y : D} {xs ys : List D} (hx : P x) (hy : P y) : dlts (x :: xs) (y :: ys) = true ↔ dlt x y = true ∨ (x = y ∧ dlts xs ys = true) := by
  show (if eqv x y = true then dlts xs ys else dlt x y) = true ↔ _
  by_cases h : eqv x y = true
  · rw [if_pos h]
    have e := (O.eq x y hx hy).mp h
    subst e
    rw [O.irr x hx]
    simp
  · rw [if_neg h]
    have e : x ≠ y := fun z => h ((O.eq x y hx hy).mpr z)
    simp [e]
theorem eqvs_cons {x y : D} {xs ys : List D} : eqvs (x :: xs) (y :: ys) = true ↔ eqv x y = true ∧ eqvs xs ys = true := by
  show (eqv x y && eqvs xs ys) = true ↔ _
  simp
theorem ordL_nil : OrdL (fun xs => xs = []) := ⟨fun d e h1 h2 => by subst h1; subst h2; simp [eqvs], fun d h => by subst h; rfl, fun d e f h1 h2 h3 a => by subst h1; subst h2; simp [dlts] at a, fun d e h1 h2 => by subst h1; subst h2; simp⟩
theorem ordL_cons {P : D → Prop} {Q : List D → Prop} (O : OrdOn P) (L : OrdL Q) : OrdL (fun xs => ∃ x r, xs = x :: r ∧ P x ∧ Q r) where
  eq := by
    rintro _ _ ⟨x, xs, rfl, hx, hxs⟩ ⟨y, ys, rfl, hy, hys⟩
    rw [eqvs_cons, O.eq x y hx hy, L.eq xs ys hxs hys]
    simp
  irr := by
    rintro _ ⟨x, xs, rfl, hx, hxs⟩
    cases h : dlts (x :: xs) (x :: xs) with
    | false => rfl
    | true =>
      rcases (dlts_cons O hx hx).mp h with h | ⟨_, h⟩
      · rw [O.irr x hx] at h; cases h
      · rw [L.irr xs hxs] at h; cases h
  tr := by
    rintro _ _ _ ⟨x, xs, rfl, hx, hxs⟩ ⟨y, ys, rfl, hy, hys⟩ ⟨z, zs, rfl, hz, hzs⟩ h1 h2
    rw [dlts_cons O hx hy] at h1
    rw [dlts_cons O hy hz] at h2
    rw [dlts_cons O hx hz]
    rcases h1 with h1 | ⟨rfl, h1⟩
    · rcases h2 with h2 | ⟨rfl, h2⟩
      · exact .inl (O.tr x y z hx hy hz h1 h2)
      · exact .inl h1
    · rcases h2 with h2 | ⟨rfl, h2⟩
      · exact .inl h2
      · exact .inr ⟨rfl, L.tr xs ys zs hxs hys hzs h1 h2⟩
  tot := by
    rintro _ _ ⟨x, xs, rfl, hx, hxs⟩ ⟨y, ys, rfl, hy, hys⟩
    rw [dlts_cons O hx hy, dlts_cons O hy hx]
    rcases O.tot x y hx hy with h | h | h
    · exact .inl (.inl h)
    · subst h
      rcases L.tot xs ys hxs hys with h | h | h
      · exact .inl (.inr ⟨rfl, h⟩)
      · subst h; exact .inr (.inl rfl)
      · exact .inr (.inr (.inr ⟨rfl, h⟩))
    · exact .inr (.inr (.inl h))
theorem ordL_seq {P : D → Prop} (O : OrdOn P) : OrdL (fun xs => ∀ x ∈ xs, P x) where
  eq := by
    intro xs
    induction xs with
    | nil => intro ys _ _; cases ys <;> simp [eqvs]
    | cons x xs ih =>
      intro ys h1 h2
      cases ys with
      | nil => simp [eqvs]
      | cons y ys =>
        rw [eqvs_cons, O.eq x y (h1 x (by simp)) (h2 y (by simp)), ih ys (fun z hz => h1 z (by simp [hz])) (fun z hz => h2 z (by simp [hz]))]
        simp
  irr := by
    intro xs
    induction xs with
    | nil => intro _; rfl
    | cons x xs ih =>
      intro h1
      cases h : dlts (x :: xs) (x :: xs) with
      | false => rfl
      | true =>
        rcases (dlts_cons O (h1 x (by simp)) (h1 x (by simp))).mp h with h | ⟨_, h⟩
        · rw [O.irr x (h1 x (by simp))] at h; cases h
        · rw [ih fun z hz => h1 z (by simp [hz])] at h; cases h
  tr := by
    intro xs
    induction xs with
    | nil =>
      intro ys zs _ _ _ h1 h2
      cases zs with
      | nil => cases ys <;> simp [dlts] at h1 h2
      | cons z zs => rfl
    | cons x xs ih =>
      intro ys zs a1 a2 a3 h1 h2
      cases ys with
      | nil => simp [dlts] at h1
      | cons y ys =>
        cases zs with
        | nil => simp [dlts] at h2
        | cons z zs =>
          have hx := a1 x (by simp)
          have hy := a2 y (by simp)
          have hz := a3 z (by simp)
          rw [dlts_cons O hx hy] at h1
          rw [dlts_cons O hy hz] at h2
          rw [dlts_cons O hx hz]
          rcases h1 with h1 | ⟨rfl, h1⟩
          · rcases h2 with h2 | ⟨rfl, h2⟩
            · exact .inl (O.tr x y z hx hy hz h1 h2)
            · exact .inl h1
          · rcases h2 with h2 | ⟨rfl, h2⟩
            · exact .inl h2
            · exact .inr ⟨rfl, ih ys zs (fun z hz => a1 z (by simp [hz])) (fun z hz => a2 z (by simp [hz])) (fun z hz => a3 z (by simp [hz])) h1 h2⟩
  tot := by
    intro xs
    induction xs with
    | nil => intro ys _ _; cases ys <;> simp [dlts]
    | cons x xs ih =>
      intro ys a1 a2
      cases ys with
      | nil => simp [dlts]
      | cons y ys =>
        have hx := a1 x (by simp)
        have hy := a2 y (by simp)
        rw [dlts_cons O hx hy, dlts_cons O hy hx]
        rcases O.tot x y hx hy with h | h | h
        · exact .inl (.inl h)
        · subst h
          rcases ih ys (fun z hz => a1 z (by simp [hz])) (fun z hz => a2 z (by simp [hz])) with h | h | h
          · exact .inl (.inr ⟨rfl, h⟩)
          · subst h; exact .inr (.inl rfl)
          · exact .inr (.inr (.inr ⟨rfl, h⟩))
        · exact .inr (.inr (.inl h))
theorem ordOn_tup {Q : List D → Prop} (L : OrdL Q) : OrdOn (fun d => ∃ xs, d = .tup xs ∧ Q xs) where
  eq := by
    rintro _ _ ⟨xs, rfl, h1⟩ ⟨ys, rfl, h2⟩
    show eqvs xs ys = true ↔ _
    rw [L.eq xs ys h1 h2]; simp
  irr := by rintro _ ⟨xs, rfl, h1⟩; exact L.irr xs h1
  tr := by rintro _ _ _ ⟨xs, rfl, h1⟩ ⟨ys, rfl, h2⟩ ⟨zs, rfl, h3⟩ a b; exact L.tr xs ys zs h1 h2 h3 a b
  tot := by
    rintro _ _ ⟨xs, rfl, h1⟩ ⟨ys, rfl, h2⟩
    rcases L.tot xs ys h1 h2 with h | h | h
    · exact .inl h
    · exact .inr (.inl (by rw [h]))
    · exact .inr (.inr h)
theorem OrdOn.imp {P P' : D → Prop} (O : OrdOn P) (h : ∀ d, P' d → P d) : OrdOn P' :=
  ⟨fun d e a b => O.eq d e (h d a) (h e b), fun d a => O.irr d (h d a), fun d e f a b c => O.tr d e f (h d a) (h e b) (h f c), fun d e a b => O.tot d e (h d a) (h e b)⟩
theorem OrdL.imp {P P' : List D → Prop} (O : OrdL P) (h : ∀ d, P' d → P d) : OrdL P' :=
  ⟨fun d e a b => O.eq d e (h d a) (h e b), fun d a => O.irr d (h d a), fun d e f a b c => O.tr d e f (h d a) (h e b) (h f c), fun d e a b => O.tot d e (h d a) (h e b)⟩
theorem str_ext {x y : Str} (h : x.cps.toList = y.cps.toList) : x = y := by
  obtain ⟨a⟩ := x
  obtain ⟨c⟩ := y
  have : a = c := Array.ext' h
  rw [this]
mutual
theorem sh_ord : ∀ s : Sh, OrdOn (fun d => hasSh s d = true)
  | .int => by
    have key : ∀ d, hasSh .int d = true → ∃ i, d = .int i := fun d h => by
      cases d <;> simp [hasSh] at h
      exact ⟨_, rfl⟩
    refine ⟨fun d e h1 h2 => ?_, fun d h => ?_, fun d e f h1 h2 h3 => ?_, fun d e h1 h2 => ?_⟩
    · obtain ⟨i, rfl⟩ := key d h1; obtain ⟨j, rfl⟩ := key e h2; simp [eqv]
    · obtain ⟨i, rfl⟩ := key d h; simp [dlt]
    · obtain ⟨i, rfl⟩ := key d h1; obtain ⟨j, rfl⟩ := key e h2; obtain ⟨k, rfl⟩ := key f h3
      simp only [dlt, decide_eq_true_eq]; omega
    · obtain ⟨i, rfl⟩ := key d h1; obtain ⟨j, rfl⟩ := key e h2
      simp only [dlt, decide_eq_true_eq, D.int.injEq]; omega
  | .str => by
    have key : ∀ d, hasSh .str d = true → ∃ i, d = .str i := fun d h => by
      cases d <;> simp [hasSh] at h
      exact ⟨_, rfl⟩
    refine ⟨fun d e h1 h2 => ?_, fun d h => ?_, fun d e f h1 h2 h3 => ?_, fun d e h1 h2 => ?_⟩
    · obtain ⟨i, rfl⟩ := key d h1; obtain ⟨j, rfl⟩ := key e h2; simp [eqv]
    · obtain ⟨i, rfl⟩ := key d h; simp only [dlt]; exact decide_eq_false (List.lt_irrefl _)
    · obtain ⟨i, rfl⟩ := key d h1; obtain ⟨j, rfl⟩ := key e h2; obtain ⟨k, rfl⟩ := key f h3
      simp only [dlt, decide_eq_true_eq]; exact fun a b => List.lt_trans a b
    · obtain ⟨i, rfl⟩ := key d h1; obtain ⟨j, rfl⟩ := key e h2
      simp only [dlt, decide_eq_true_eq, D.str.injEq]
      by_cases a : i.cps.toList < j.cps.toList
      · exact .inl a
      · by_cases c : j.cps.toList < i.cps.toList
        · exact .inr (.inr c)
        · exact .inr (.inl (str_ext (List.le_antisymm (List.not_lt.mp c) (List.not_lt.mp a))))
  | .seq s => (ordOn_tup (ordL_seq (sh_ord s))).imp fun d h => by
    cases d <;> simp [hasSh] at h
    exact ⟨_, rfl, h⟩
  | .prod ss => (ordOn_tup (sh_ordL ss)).imp fun d h => by
    cases d <;> simp [hasSh] at h
    exact ⟨_, rfl, h⟩
theorem sh_ordL : ∀ ss : List Sh, OrdL (fun xs => hasPr ss xs = true)
  | [] => ordL_nil.imp fun xs h => by
    cases xs with
    | nil => rfl
    | cons => simp [hasPr] at h
  | s :: ss => (ordL_cons (sh_ord s) (sh_ordL ss)).imp fun xs h => by
    cases xs with
    | nil => simp [hasPr] at h
    | cons x xs =>
      simp only [hasPr, Bool.and_eq_true] at h
      exact ⟨x, xs, rfl, h.1, h.2⟩
end

/-! ### the sorted list -/
def insD (x : D) : List D → List D
  | [] => [x]
  | y :: r => if dlt x y = true then x :: y :: r else y :: insD x r
def isort : List D → List D
  | [] => []
  | x :: r => insD x (isort r)
def SrtD (l : List D) : Prop := l.Pairwise fun a b => dlt b a = false
theorem insD_perm (x : D) : ∀ l : List D, (insD x l).Perm (x :: l)
  | [] => List.Perm.refl _
  | y :: r => by
    unfold insD
    split
    · exact List.Perm.refl _
    · exact ((insD_perm x r).cons y).trans (List.Perm.swap x y r)
theorem isort_perm : ∀ l : List D, (isort l).Perm l
  | [] => List.Perm.refl _
  | x :: r => (insD_perm x _).trans ((isort_perm r).cons x)
theorem insD_srt {P : D → Prop} (O : OrdOn P) {x : D} (hx : P x) : ∀ l : List D, (∀ y ∈ l, P y) → SrtD l → SrtD (insD x l)
  | [], _, _ => List.pairwise_singleton _ _
  | y :: r, h, s => by
    have hy := h y (by simp)
    obtain ⟨s1, s2⟩ := List.pairwise_cons.mp s
    unfold insD
    split
    · rename_i c
      refine List.pairwise_cons.mpr ⟨fun z hz => ?_, s⟩
      have hz' : P z := h z hz
      cases q : dlt z x with
      | false => rfl
      | true =>
        have t := O.tr z x y hz' hx hy q c
        rcases List.mem_cons.mp hz with rfl | hz
        · rw [O.irr _ hz'] at t; cases t
        · rw [s1 z hz] at t; cases t
    · rename_i c
      refine List.pairwise_cons.mpr ⟨fun z hz => ?_, insD_srt O hx r (fun z hz => h z (by simp [hz])) s2⟩
      rcases List.mem_cons.mp ((insD_perm x r).mem_iff.mp hz) with rfl | hz
      · simpa using c
      · exact s1 z hz
theorem isort_srt {P : D → Prop} (O : OrdOn P) : ∀ l : List D, (∀ y ∈ l, P y) → SrtD (isort l)
  | [], _ => List.Pairwise.nil
  | x :: r, h => insD_srt O (h x (by simp)) _ (fun y hy => h y (by simp [(isort_perm r).mem_iff.mp hy])) (isort_srt O r fun y hy => h y (by simp [hy]))
theorem srt_uniq {P : D → Prop} (O : OrdOn P) : ∀ {l m : List D}, (∀ y ∈ l, P y) → SrtD l → SrtD m → l.Perm m → l = m
  | [], m, _, _, _, p => (List.Perm.eq_nil p.symm).symm
  | x :: l, [], _, _, _, p => absurd p.length_eq (by simp)
  | x :: l, y :: m, h, hl, hm, p => by
    have hx := h x (by simp)
    have hy := h y (p.mem_iff.mpr (by simp))
    obtain ⟨l1, l2⟩ := List.pairwise_cons.mp hl
    obtain ⟨m1, m2⟩ := List.pairwise_cons.mp hm
    have e : x = y := by
      rcases O.tot x y hx hy with a | a | a
      · rcases List.mem_cons.mp (p.mem_iff.mp (List.mem_cons_self (a := x) (l := l))) with c | c
        · exact c
        · rw [m1 x c] at a; cases a
      · exact a
      · rcases List.mem_cons.mp (p.mem_iff.mpr (List.mem_cons_self (a := y) (l := m))) with c | c
        · exact c.symm
        · rw [l1 y c] at a; cases a
    subst e
    rw [srt_uniq O (fun z hz => h z (by simp [hz])) l2 m2 p.cons_inv]

/-! ### < of data that lies in the heap -/
mutual
theorem sh_ok : ∀ (s : Sh) (d : D), hasSh s d = true → (toPy d).canLay0 = true ∧ (toPy d).depth ≤ depSh s
  | .int, .int i, _ => by simp [toPy, PyData.canLay0, PyData.depth]
  | .str, .str x, h => by
    refine ⟨?_, by simp [toPy, PyData.depth]⟩
    have h : x.cps.all (· < 0x110000) = true := by simpa [hasSh] using h
    simpa [toPy, PyData.canLay0, PyData.strOk] using h
  | .seq s, .tup xs, h => by
    have h : ∀ x ∈ xs, hasSh s x = true := by simpa [hasSh] using h
    have key : ∀ ys : List D, (∀ x ∈ ys, hasSh s x = true) → PyData.canLayAll0 (toPys ys) = true ∧ PyData.depthAll (toPys ys) ≤ depSh s := by
      intro ys
      induction ys with
      | nil => intro _; simp [toPys, PyData.canLayAll0, PyData.depthAll]
      | cons y ys ih =>
        intro h
        have a := sh_ok s y (h y (by simp))
        have c := ih fun z hz => h z (by simp [hz])
        exact ⟨by simp [toPys, PyData.canLayAll0, a.1, c.1], by simp only [toPys, PyData.depthAll]; exact Nat.max_le.mpr ⟨a.2, c.2⟩⟩
    have k := key xs h
    exact ⟨by simpa [toPy, PyData.canLay0] using k.1, by simp only [toPy, PyData.depth, depSh]; omega⟩
  | .prod ss, .tup xs, h => by
    have k := sh_oks ss xs (by simpa [hasSh] using h)
    exact ⟨by simpa [toPy, PyData.canLay0] using k.1, by simp only [toPy, PyData.depth, depSh]; omega⟩
  | .int, .non, h | .int, .bl _, h | .int, .str _, h | .int, .tup _, h | .int, .lst _, h | .int, .fl _, h | .int, .ft _, h | .int, .dk _, h | .int, .dt _, h => by simp [hasSh] at h
  | .str, .non, h | .str, .bl _, h | .str, .int _, h | .str, .tup _, h | .str, .lst _, h | .str, .fl _, h | .str, .ft _, h | .str, .dk _, h | .str, .dt _, h => by simp [hasSh] at h
  | .seq _, .non, h | .seq _, .bl _, h | .seq _, .int _, h | .seq _, .str _, h | .seq _, .lst _, h | .seq _, .fl _, h | .seq _, .ft _, h | .seq _, .dk _, h | .seq _, .dt _, h => by simp [hasSh] at h
  | .prod _, .non, h | .prod _, .bl _, h | .prod _, .int _, h | .prod _, .str _, h | .prod _, .lst _, h | .prod _, .fl _, h | .prod _, .ft _, h | .prod _, .dk _, h | .prod _, .dt _, h => by simp [hasSh] at h
theorem sh_oks : ∀ (ss : List Sh) (d : List D), hasPr ss d = true → PyData.canLayAll0 (toPys d) = true ∧ PyData.depthAll (toPys d) ≤ depShs ss
  | [], [], _ => by simp [toPys, PyData.canLayAll0, PyData.depthAll]
  | s :: ss, x :: xs, h => by
    simp only [hasPr, Bool.and_eq_true] at h
    have a := sh_ok s x h.1
    have c := sh_oks ss xs h.2
    refine ⟨by simp [toPys, PyData.canLayAll0, a.1, c.1], ?_⟩
    simp only [toPys, PyData.depthAll, depShs]
    omega
  | [], _ :: _, h => by simp [hasPr] at h
  | _ :: _, [], h => by simp [hasPr] at h
end
/-- the same shape, one lies here, one there -/
def LtSh (s : Sh) : Prop := ∀ (A : Around) (st : Shared) (d e : D) (u v : Value) (as bs : List Addr), hasSh s d = true → hasSh s e = true → Reads st.heap u (toPy d) as → Reads st.heap v (toPy e) bs → A.units + depSh s < cLine → LtAt A st u v (dlt d e)
theorem eq_sh (s : Sh) {A : Around} {st : Shared} {d e : D} {u v : Value} {as bs : List Addr} (h1 : hasSh s d = true) (h2 : hasSh s e = true) (r1 : Reads st.heap u (toPy d) as) (r2 : Reads st.heap v (toPy e) bs) (hu : A.units + depSh s < cLine) : SeqAt.EqAt A st u v (eqv d e) := by
  have a := sh_ok s d h1
  have b := sh_ok s e h2
  rw [← eqv_py]
  exact SeqAt.eqAt_reads _ _ A st u v as bs r1 r2 a.1 b.1 (by have := Nat.min_le_left (toPy d).depth (toPy e).depth; omega)
theorem tlt_seq {s : Sh} (h : LtSh s) {A : Around} {st : Shared} (hu : A.units + depSh s < cLine) : ∀ (xs ys : List D) (vs ws : List Value) (as bs : List Addr), (∀ x ∈ xs, hasSh s x = true) → (∀ x ∈ ys, hasSh s x = true) → ReadsAll st.heap vs (toPys xs) as → ReadsAll st.heap ws (toPys ys) bs → TLt A st vs ws (dlts xs ys)
  | [], [], _, _, _, _, _, _, r1, r2 => by
    cases r1; cases r2; rfl
  | [], y :: ys, _, _, _, _, _, _, r1, r2 => by
    cases r1; cases r2; rfl
  | x :: xs, [], _, _, _, _, _, _, r1, r2 => by
    cases r1; cases r2; rfl
  | x :: xs, y :: ys, _, _, _, _, h1, h2, r1, r2 => by
    cases r1 with
    | cons a1 a2 =>
      cases r2 with
      | cons b1 b2 =>
        have hx := h1 x (by simp)
        have hy := h2 y (by simp)
        refine ⟨eqv x y, eq_sh s hx hy a1 b1 hu, fun e => ?_, fun e => ?_⟩
        · show TLt A st _ _ (if eqv x y = true then dlts xs ys else dlt x y)
          rw [if_pos e]
          exact tlt_seq h hu xs ys _ _ _ _ (fun z hz => h1 z (by simp [hz])) (fun z hz => h2 z (by simp [hz])) a2 b2
        · show LtAt A st _ _ (if eqv x y = true then dlts xs ys else dlt x y)
          rw [if_neg (by rw [e]; simp)]
          exact h A st x y _ _ _ _ hx hy a1 b1 hu
mutual
theorem lt_sh : ∀ s : Sh, LtSh s
  | .int => fun A st d e u v as bs h1 h2 r1 r2 hu => by
    cases d <;> simp [hasSh] at h1
    cases e <;> simp [hasSh] at h2
    cases r1; cases r2
    intro prog w E Q q
    exact (PyProof.Rows.lt_int q : wpAny (model prog w) A (compareOp .Lt _ _) Q E st)
  | .str => fun A st d e u v as bs h1 h2 r1 r2 hu => by
    cases d <;> simp [hasSh] at h1
    cases e <;> simp [hasSh] at h2
    cases r1; cases r2
    intro prog w E Q q
    exact (PyProof.Rows.lt_str q : wpAny (model prog w) A (compareOp .Lt _ _) Q E st)
  | .seq s => fun A st d e u v as bs h1 h2 r1 r2 hu => by
    cases d <;> simp [hasSh] at h1
    cases e <;> simp [hasSh] at h2
    rename_i xs ys
    cases r1 with
    | tuple o1 c1 d1 a1 =>
      cases r2 with
      | tuple o2 c2 d2 a2 =>
        have hu' : A.in1.units + depSh s < cLine := by
          have : A.units + (depSh s + 1) < cLine := hu
          show A.units + 1 + depSh s < cLine
          omega
        exact ltAt_tup ⟨_, o1, c1, _, d1⟩ ⟨_, o2, c2, _, d2⟩ (by omega) (tlt_seq (lt_sh s) hu' xs ys _ _ _ _ h1 h2 a1 a2)
  | .prod ss => fun A st d e u v as bs h1 h2 r1 r2 hu => by
    cases d <;> simp [hasSh] at h1
    cases e <;> simp [hasSh] at h2
    rename_i xs ys
    cases r1 with
    | tuple o1 c1 d1 a1 =>
      cases r2 with
      | tuple o2 c2 d2 a2 =>
        have hu' : A.in1.units + depShs ss < cLine := by
          have : A.units + (depShs ss + 1) < cLine := hu
          show A.units + 1 + depShs ss < cLine
          omega
        exact ltAt_tup ⟨_, o1, c1, _, d1⟩ ⟨_, o2, c2, _, d2⟩ (by omega) (tlt_prod ss A.in1 st xs ys _ _ _ _ hu' h1 h2 a1 a2)
theorem tlt_prod : ∀ (ss : List Sh) (A : Around) (st : Shared) (xs ys : List D) (vs ws : List Value) (as bs : List Addr), A.units + depShs ss < cLine → hasPr ss xs = true → hasPr ss ys = true → ReadsAll st.heap vs (toPys xs) as → ReadsAll st.heap ws (toPys ys) bs → TLt A st vs ws (dlts xs ys)
  | [], A, st, xs, ys, vs, ws, as, bs, hu, h1, h2, r1, r2 => by
    cases xs with
    | cons => simp [hasPr] at h1
    | nil =>
      cases ys with
      | cons => simp [hasPr] at h2
      | nil => cases r1; cases r2; rfl
  | s :: ss, A, st, xs, ys, vs, ws, as, bs, hu, h1, h2, r1, r2 => by
    cases xs with
    | nil => simp [hasPr] at h1
    | cons x xs =>
      cases ys with
      | nil => simp [hasPr] at h2
      | cons y ys =>
        simp only [hasPr, Bool.and_eq_true] at h1 h2
        have hs : A.units + depSh s < cLine ∧ A.units + depShs ss < cLine := by
          simp only [depShs] at hu
          omega
        cases r1 with
        | cons a1 a2 =>
          cases r2 with
          | cons b1 b2 =>
            refine ⟨eqv x y, eq_sh s h1.1 h2.1 a1 b1 hs.1, fun e => ?_, fun e => ?_⟩
            · show TLt A st _ _ (if eqv x y = true then dlts xs ys else dlt x y)
              rw [if_pos e]
              exact tlt_prod ss A st xs ys _ _ _ _ hs.2 h1.2 h2.2 a2 b2
            · show LtAt A st _ _ (if eqv x y = true then dlts xs ys else dlt x y)
              rw [if_neg (by rw [e]; simp)]
              exact lt_sh s A st x y _ _ _ _ h1.1 h2.1 a1 b1 hs.1
end
end VL

namespace VL
open PySem PySem.Spec PyProof.Rows L2
open Evl (Ex)

/-- tuples among it stand, none of them empty -/
def notEmp : D → Bool
  | .tup [] => false
  | _ => true
section
variable {prog : Program} {w : World} {A : Around} {s : Shared}
theorem katlex {sh : Nat → Sh} {b : Bool} {n m : Nat} (hb : b = true → sh 0 = .int ∨ sh 0 = .str) {Q : Bool → Shared → Prop} : ∀ (xs ys : List D) (vs ws : List Value) (as bs : List Addr) (i : Nat),
    (∀ (j : Nat) (x : D), xs[j]? = some x → hasSh (sh (i + j)) x = true) → (∀ (j : Nat) (x : D), ys[j]? = some x → hasSh (sh (i + j)) x = true) → (∀ j, A.units + depSh (sh j) < cLine) →
    ReadsAll s.heap vs (toPys xs) as → ReadsAll s.heap ws (toPys ys) bs → vs.length + m = ws.length + n → Q (dlts xs ys) s → PySem.W.KatLex prog w A b (decide (n < m)) Q (vs.zip ws) i s
  | [], [], _, _, _, _, i, _, _, _, r1, r2, hl, q => by
    cases r1; cases r2
    simp only [List.length_nil] at hl
    rw [decide_eq_false (by omega)]
    exact PySem.W.kat_nil q
  | [], y :: ys, _, _, _, _, i, _, _, _, r1, r2, hl, q => by
    cases r1
    cases r2 with
    | cons b1 b2 =>
      simp only [List.length_nil, List.length_cons] at hl
      rw [decide_eq_true (by omega)]
      exact PySem.W.kat_nil q
  | x :: xs, [], _, _, _, _, i, _, _, _, r1, r2, hl, q => by
    cases r2
    cases r1 with
    | cons b1 b2 =>
      simp only [List.length_nil, List.length_cons] at hl
      rw [decide_eq_false (by omega)]
      exact PySem.W.kat_nil q
  | x :: xs, y :: ys, _, _, _, _, i, h1, h2, hu, r1, r2, hl, q => by
    cases r1 with
    | @cons v vs _ _ _ _ a1 a2 =>
      cases r2 with
      | @cons u us _ _ _ _ b1 b2 =>
        have hx : hasSh (sh i) x = true := h1 0 x rfl
        have hy : hasSh (sh i) y = true := h2 0 y rfl
        have q : Q (if eqv x y = true then dlts xs ys else dlt x y) s := q
        rw [List.zip_cons_cons]
        refine PySem.W.kat_cons (eq_sh (sh i) hx hy a1 b1 (hu i) prog w _ _ ?_)
        refine PySem.W.kat_go (fun e => ?_) (fun e => ?_)
        · rw [if_pos e] at q
          simp only [List.length_cons] at hl
          exact PySem.W.kat_yes (katlex hb xs ys _ _ _ _ (i + 1) (fun j z hz => by have := h1 (j + 1) z (by simpa using hz); rwa [show i + 1 + j = i + (j + 1) by omega]) (fun j z hz => by have := h2 (j + 1) z (by simpa using hz); rwa [show i + 1 + j = i + (j + 1) by omega]) hu a2 b2 (by omega) q)
        · rw [if_neg (by rw [e]; simp)] at q
          refine PySem.W.kat_no ?_
          by_cases hbi : (b && i == 0) = true
          · rw [hbi]
            simp only [Bool.and_eq_true, beq_iff_eq] at hbi
            obtain ⟨hb1, rfl⟩ := hbi
            rcases hb hb1 with e0 | e0
            · rw [e0] at hx hy
              cases x <;> simp [hasSh] at hx
              cases y <;> simp [hasSh] at hy
              cases a1; cases b1
              exact oneLt_int q
            · rw [e0] at hx hy
              cases x <;> simp [hasSh] at hx
              cases y <;> simp [hasSh] at hy
              cases a1; cases b1
              exact oneLt_str q
          · rw [show (b && i == 0) = false by simpa using hbi]
            exact PySem.W.kat_one _ _ (lt_sh (sh i) A s x y _ _ _ _ hx hy a1 b1 (hu i) prog w _ _ (show PySem.W.BoolBack Q (Value.bool (dlt x y)) s from q))
theorem reads_ints : ∀ {ds : List D} {vs : List Value} {as : List Addr}, (∀ d ∈ ds, hasSh .int d = true) → ReadsAll s.heap vs (toPys ds) as → ∃ ns, IntsAre vs ns
  | [], _, _, _, r => by cases r; exact ⟨[], .nil⟩
  | d :: ds, _, _, h, r => by
    cases r with
    | cons a1 a2 =>
      obtain ⟨ns, hn⟩ := reads_ints (fun z hz => h z (by simp [hz])) a2
      have hd := h d (by simp)
      cases d <;> simp [hasSh] at hd
      cases a1
      exact ⟨_, .cons _ _ hn⟩
theorem reads_strs : ∀ {ds : List D} {vs : List Value} {as : List Addr}, (∀ d ∈ ds, hasSh .str d = true) → ReadsAll s.heap vs (toPys ds) as → ∃ ns, StrsAre vs ns
  | [], _, _, _, r => by cases r; exact ⟨[], .nil⟩
  | d :: ds, _, _, h, r => by
    cases r with
    | cons a1 a2 =>
      obtain ⟨ns, hn⟩ := reads_strs (fun z hz => h z (by simp [hz])) a2
      have hd := h d (by simp)
      cases d <;> simp [hasSh] at hd
      cases a1
      exact ⟨_, .cons _ _ hn⟩
theorem reads_at : ∀ {ds : List D} {vs : List Value} {as : List Addr} {v : Value}, ReadsAll s.heap vs (toPys ds) as → v ∈ vs → ∃ d bs, d ∈ ds ∧ Reads s.heap v (toPy d) bs
  | [], _, _, v, r, h => by cases r; simp at h
  | d :: ds, _, _, v, r, h => by
    cases r with
    | cons a1 a2 =>
      rcases List.mem_cons.mp h with rfl | h
      · exact ⟨d, _, by simp, a1⟩
      · obtain ⟨e, bs, h1, h2⟩ := reads_at a2 h
        exact ⟨e, bs, by simp [h1], h2⟩
theorem reads_len : ∀ {ds : List D} {vs : List Value} {as : List Addr}, ReadsAll s.heap vs (toPys ds) as → vs.length = ds.length
  | [], _, _, r => by cases r; rfl
  | d :: ds, _, _, r => by
    cases r with
    | cons a1 a2 => rw [List.length_cons, List.length_cons, reads_len a2]
def tyName : Sh → String
  | .int => "int"
  | .str => "str"
  | _ => "tuple"
theorem type_sh {sh : Sh} {d : D} {v : Value} {as : List Addr} (h : hasSh sh d = true) (r : Reads s.heap v (toPy d) as) : PySem.W.Looks (model prog w) s.heap (typeOf v) (.type (tyName sh)) := by
  cases sh with
  | int => cases d <;> simp [hasSh] at h; cases r; exact PySem.W.Looks.now
  | str => cases d <;> simp [hasSh] at h; cases r; exact PySem.W.Looks.now
  | seq s' =>
    cases d <;> simp [hasSh] at h
    cases r with
    | tuple o1 c1 d1 a1 =>
      have z : PySem.W.Looks (model prog w) s.heap (typeOf (.ref _)) _ := (PySem.W.Looks.ld o1).andThen .now
      rw [c1] at z
      exact z
  | prod s' =>
    cases d <;> simp [hasSh] at h
    cases r with
    | tuple o1 c1 d1 a1 =>
      have z : PySem.W.Looks (model prog w) s.heap (typeOf (.ref _)) _ := (PySem.W.Looks.ld o1).andThen .now
      rw [c1] at z
      exact z
/-- the shapes of a tuple's items, by place -/
def itSh : Sh → Nat → Sh
  | .seq s, _ => s
  | .prod ss, i => ss.getD i .int
  | _, _ => .int
theorem pr_at : ∀ {ss : List Sh} {xs : List D} {j : Nat} {x : D}, hasPr ss xs = true → xs[j]? = some x → hasSh (ss.getD j .int) x = true
  | [], [], _, _, _, h => by simp at h
  | [], _ :: _, _, _, h, _ => by simp [hasPr] at h
  | _ :: _, [], _, _, h, _ => by simp [hasPr] at h
  | s :: ss, y :: ys, 0, x, h, e => by
    simp only [hasPr, Bool.and_eq_true] at h
    have e : y = x := Option.some.inj e
    subst e
    exact h.1
  | s :: ss, y :: ys, j + 1, x, h, e => by
    simp only [hasPr, Bool.and_eq_true] at h
    have := pr_at (j := j) h.2 (by simpa using e)
    simpa using this
theorem it_at {sh : Sh} {xs : List D} {j : Nat} {x : D} (h : hasSh sh (.tup xs) = true) (e : xs[j]? = some x) : hasSh (itSh sh j) x = true := by
  cases sh with
  | int => simp [hasSh] at h
  | str => simp [hasSh] at h
  | seq s =>
    have h : ∀ x ∈ xs, hasSh s x = true := by simpa [hasSh] using h
    exact h x (List.mem_of_getElem? e)
  | prod ss => exact pr_at (by simpa [hasSh] using h) e
theorem dep_getD : ∀ (ss : List Sh) (j : Nat), depSh (ss.getD j .int) ≤ depShs ss
  | [], _ => by simp [depSh]
  | s :: ss, 0 => by simp only [List.getD_cons_zero, depShs]; omega
  | s :: ss, j + 1 => by
    have := dep_getD ss j
    simp only [List.getD_cons_succ, depShs]; omega
theorem dep_it (sh : Sh) (j : Nat) : depSh (itSh sh j) ≤ depSh sh := by
  cases sh with
  | int => simp [itSh, depSh]
  | str => simp [itSh, depSh]
  | seq s => simp [itSh, depSh]
  | prod ss => have := dep_getD ss j; simp only [itSh, depSh]; omega
theorem firsts_sh {sh : Sh} (ht : sh ≠ .int ∧ sh ≠ .str) : ∀ {ds : List D} {vs : List Value} {as : List Addr}, (∀ d ∈ ds, hasSh sh d = true ∧ notEmp d = true) → ReadsAll s.heap vs (toPys ds) as →
    ∃ fs : List Value, PySem.W.KatTups s.heap vs fs ∧ fs.length = vs.length ∧ ∀ f ∈ fs, ∃ d bs, hasSh (itSh sh 0) d = true ∧ Reads s.heap f (toPy d) bs
  | [], _, _, _, r => by
    cases r
    exact ⟨[], PySem.W.KatTups.nil, rfl, fun _ h => by simp at h⟩
  | d :: ds, _, _, h, r => by
    cases r with
    | cons a1 a2 =>
      obtain ⟨fs, k, hl, hf⟩ := firsts_sh ht (fun z hz => h z (by simp [hz])) a2
      obtain ⟨hd, hn⟩ := h d (by simp)
      obtain ⟨xs, rfl⟩ : ∃ xs, d = .tup xs := by
        cases sh with
        | int => exact absurd rfl ht.1
        | str => exact absurd rfl ht.2
        | seq _ => cases d <;> simp [hasSh] at hd; exact ⟨_, rfl⟩
        | prod _ => cases d <;> simp [hasSh] at hd; exact ⟨_, rfl⟩
      cases a1 with
      | @tuple a o its n _ _ o1 c1 d1 r1 =>
        cases xs with
        | nil => simp [notEmp] at hn
        | cons x xs =>
          cases hi : its.toList with
          | nil => rw [hi] at r1; cases r1
          | cons f fr =>
            rw [hi] at r1
            cases r1 with
            | cons b1 b2 =>
              have hf0 : its[0]? = some f := by rw [← Array.getElem?_toList, hi]; rfl
              refine ⟨f :: fs, PySem.W.KatTups.cons o1 c1 d1 hf0 k, by simp [hl], fun g hg => ?_⟩
              rcases List.mem_cons.mp hg with rfl | hg
              · exact ⟨x, _, it_at hd rfl, b1⟩
              · exact hf g hg
open Classical in
noncomputable def pk (h : Heap) (sh : Sh) (d0 : D) (u : Value) : D := if hx : ∃ d, hasSh sh d = true ∧ ∃ as, Reads h u (toPy d) as then hx.choose else d0
theorem pk_sh {h : Heap} {sh : Sh} {d0 : D} (h0 : hasSh sh d0 = true) (u : Value) : hasSh sh (pk h sh d0 u) = true := by
  unfold pk
  split
  · rename_i hx; exact hx.choose_spec.1
  · exact h0
theorem toPy_inj {sh : Sh} {d e : D} (h1 : hasSh sh d = true) (h2 : hasSh sh e = true) (h : toPy d = toPy e) : d = e := by
  refine ((sh_ord sh).eq d e h1 h2).mp ?_
  rw [← eqv_py, h, eqv_py]
  exact ((sh_ord sh).eq e e h2 h2).mpr rfl
theorem pk_eq {h : Heap} {sh : Sh} {d0 d : D} {u : Value} {as : List Addr} (hd : hasSh sh d = true) (r : Reads h u (toPy d) as) : pk h sh d0 u = d := by
  have hx : ∃ d, hasSh sh d = true ∧ ∃ as, Reads h u (toPy d) as := ⟨d, hd, as, r⟩
  unfold pk
  rw [dif_pos hx]
  obtain ⟨h1, as', r'⟩ := hx.choose_spec
  exact toPy_inj h1 hd (PySem.SeqAt.Reads.unique _ _ _ _ _ (sh_ok sh _ h1).1 r' r)
theorem pk_map {h : Heap} {sh : Sh} {d0 : D} : ∀ {ds : List D} {vs : List Value} {as : List Addr}, (∀ d ∈ ds, hasSh sh d = true) → ReadsAll h vs (toPys ds) as → vs.map (pk h sh d0) = ds
  | [], _, _, _, r => by cases r; rfl
  | d :: ds, _, _, hh, r => by
    cases r with
    | cons a1 a2 => rw [List.map_cons, pk_eq (hh d (by simp)) a1, pk_map (fun z hz => hh z (by simp [hz])) a2]
theorem swo_sh {h : Heap} {sh : Sh} {d0 : D} (h0 : hasSh sh d0 = true) : SrtO.Swo (fun u v => dlt (pk h sh d0 u) (pk h sh d0 v)) := by
  have O := sh_ord sh
  refine ⟨fun x y q => ?_, fun x y z q1 q2 => ?_⟩
  · cases p : dlt (pk h sh d0 y) (pk h sh d0 x) with
    | false => rfl
    | true =>
      have := O.tr _ _ _ (pk_sh h0 x) (pk_sh h0 y) (pk_sh h0 x) q p
      rw [O.irr _ (pk_sh h0 x)] at this; cases this
  · cases p : dlt (pk h sh d0 z) (pk h sh d0 x) with
    | false => rfl
    | true =>
      rcases O.tot (pk h sh d0 y) (pk h sh d0 x) (pk_sh h0 y) (pk_sh h0 x) with a | a | a
      · rw [q1] at a; cases a
      · rw [← a] at p; rw [q2] at p; cases p
      · have := O.tr _ _ _ (pk_sh h0 z) (pk_sh h0 x) (pk_sh h0 y) p a
        rw [q2] at this; cases this
/-- what keyKind and keyLt do on such a list -/
theorem sh_cmp {h : Heap} {sh : Sh} {d0 : D} {ds : List D} {vs : List Value} {as : List Addr} (hr : ReadsAll s.heap vs (toPys ds) as) (hk : ∀ b o, h.get? b = some o → s.heap.get? b = some o) (hr0 : ReadsAll h vs (toPys ds) as) (hs : ∀ d ∈ ds, hasSh sh d = true ∧ notEmp d = true) (h2 : 2 ≤ vs.length) (hu : A.units + depSh sh + 1 < cLine) :
    ∃ κ, (∀ (Q : SortKind → Shared → Prop) (E : Value → Shared → Prop), Q κ s → wpAny (model prog w) A (keyKind' vs.toArray) Q E s) ∧ SrtO.Cmp prog w A s κ (fun p => p.1 ∈ vs) (SrtO.lt2 fun u v => dlt (pk h sh d0 u) (pk h sh d0 v)) := by
  have hs1 : ∀ d ∈ ds, hasSh sh d = true := fun d hd => (hs d hd).1
  obtain ⟨v1, v2, vr, rfl⟩ : ∃ v1 v2 vr, vs = v1 :: v2 :: vr := by
    match vs, h2 with
    | v1 :: v2 :: vr, _ => exact ⟨v1, v2, vr, rfl⟩
  have pka : ∀ v ∈ v1 :: v2 :: vr, ∃ d bs, hasSh sh d = true ∧ Reads s.heap v (toPy d) bs ∧ pk h sh d0 v = d := fun v hv => by
    obtain ⟨d, bs, hm, r⟩ := reads_at (s := { s with heap := h }) hr0 hv
    exact ⟨d, bs, hs1 d hm, PyProof.Rows.Reads.keeps hk r, pk_eq (hs1 d hm) r⟩
  cases sh with
  | int =>
    obtain ⟨ns, hn⟩ := reads_ints hs1 hr
    refine ⟨oneType', fun Q E q => by rw [keyKind_ints hn]; exact wpAny_pure q, fun p q hp hq => ?_⟩
    obtain ⟨d, _, hd, r, e⟩ := pka _ hp
    obtain ⟨d', _, hd', r', e'⟩ := pka _ hq
    show wpAny (model prog w) A (keyLt' oneType' p.1 q.1) (fun r s' => s' = s ∧ r = dlt (pk h .int d0 p.1) (pk h .int d0 q.1)) (fun _ _ => False) s
    rw [e, e']
    generalize p.1 = u at r ⊢
    generalize q.1 = v at r' ⊢
    cases d <;> simp [hasSh] at hd
    cases d' <;> simp [hasSh] at hd'
    cases r; cases r'
    exact PySem.W.kat_lt_int ⟨rfl, rfl⟩
  | str =>
    obtain ⟨ns, hn⟩ := reads_strs hs1 hr
    refine ⟨oneType', fun Q E q => by rw [keyKind_strs hn]; exact wpAny_pure q, fun p q hp hq => ?_⟩
    obtain ⟨d, _, hd, r, e⟩ := pka _ hp
    obtain ⟨d', _, hd', r', e'⟩ := pka _ hq
    show wpAny (model prog w) A (keyLt' oneType' p.1 q.1) (fun r s' => s' = s ∧ r = dlt (pk h .str d0 p.1) (pk h .str d0 q.1)) (fun _ _ => False) s
    rw [e, e']
    generalize p.1 = u at r ⊢
    generalize q.1 = v at r' ⊢
    cases d <;> simp [hasSh] at hd
    cases d' <;> simp [hasSh] at hd'
    cases r; cases r'
    exact PySem.W.kas_lt_str ⟨rfl, rfl⟩
  | seq s' => exact go (.seq s') ⟨(fun z => nomatch z), (fun z => nomatch z)⟩ hr hr0 hs hu pka
  | prod s' => exact go (.prod s') ⟨(fun z => nomatch z), (fun z => nomatch z)⟩ hr hr0 hs hu pka
where
  go {h : Heap} {d0 : D} {ds : List D} {v1 v2 : Value} {vr : List Value} {as : List Addr} (sh : Sh) (ht : sh ≠ .int ∧ sh ≠ .str) (hr : ReadsAll s.heap (v1 :: v2 :: vr) (toPys ds) as) (hr0 : ReadsAll h (v1 :: v2 :: vr) (toPys ds) as) (hs : ∀ d ∈ ds, hasSh sh d = true ∧ notEmp d = true) (hu : A.units + depSh sh + 1 < cLine)
      (pka : ∀ v ∈ v1 :: v2 :: vr, ∃ d bs, hasSh sh d = true ∧ Reads s.heap v (toPy d) bs ∧ pk h sh d0 v = d) :
      ∃ κ, (∀ (Q : SortKind → Shared → Prop) (E : Value → Shared → Prop), Q κ s → wpAny (model prog w) A (keyKind' (v1 :: v2 :: vr).toArray) Q E s) ∧ SrtO.Cmp prog w A s κ (fun p => p.1 ∈ v1 :: v2 :: vr) (SrtO.lt2 fun u v => dlt (pk h sh d0 u) (pk h sh d0 v)) := by
    obtain ⟨fs, k, hl, hf⟩ := firsts_sh ht hs hr
    refine ⟨tuples' (Value.type (tyName (itSh sh 0)) != Value.type "tuple"), fun Q E q => ?_, fun p q hp hq => ?_⟩
    · refine PySem.W.kat_kind (T := Value.type (tyName (itSh sh 0))) k (by rw [hl]; simp) (fun f hm => ?_) (by cases itSh sh 0 <;> rfl) q
      obtain ⟨d, bs, h1, h2⟩ := hf f hm
      exact type_sh h1 h2
    · obtain ⟨d, _, hd, r, e⟩ := pka _ hp
      obtain ⟨d', _, hd', r', e'⟩ := pka _ hq
      show wpAny (model prog w) A (keyLt' (tuples' (Value.type (tyName (itSh sh 0)) != Value.type "tuple")) p.1 q.1) (fun r s' => s' = s ∧ r = dlt (pk h sh d0 p.1) (pk h sh d0 q.1)) (fun _ _ => False) s
      rw [e, e']
      generalize p.1 = u at r ⊢
      generalize q.1 = v at r' ⊢
      have tup : ∀ d, hasSh sh d = true → ∃ xs, d = .tup xs := fun d hd => by
        cases sh with
        | int => exact absurd rfl ht.1
        | str => exact absurd rfl ht.2
        | seq _ => cases d <;> simp [hasSh] at hd; exact ⟨_, rfl⟩
        | prod _ => cases d <;> simp [hasSh] at hd; exact ⟨_, rfl⟩
      obtain ⟨xs, rfl⟩ := tup d hd
      obtain ⟨ys, rfl⟩ := tup d' hd'
      cases r with
      | tuple o1 c1 d1 a1 =>
        cases r' with
        | tuple o2 c2 d2 a2 =>
          refine PySem.W.kat_lt o1 d1 o2 d2 (katlex (sh := itSh sh) (fun hb => ?_) xs ys _ _ _ _ 0 (fun j x hx => by rw [Nat.zero_add]; exact it_at hd hx) (fun j x hx => by rw [Nat.zero_add]; exact it_at hd' hx) (fun j => by have := dep_it sh j; omega) a1 a2 (by simp [Nat.add_comm]) ⟨rfl, rfl⟩)
          cases hh : itSh sh 0 with
          | int => exact .inl rfl
          | str => exact .inr rfl
          | seq _ => rw [hh] at hb; simp only [tyName] at hb; exact absurd hb (by decide)
          | prod _ => rw [hh] at hb; simp only [tyName] at hb; exact absurd hb (by decide)
end
end VL

namespace VL
open PySem PySem.Spec PyProof.Rows L2
open Evl (Ex)
variable {K : PySem.W.Frag}

/-! ### calls whose answer is told by a relation -/
def ClP (K : PySem.W.Frag) (r : List V → Hp → VK → Prop) (P : List D → D → Kd → Prop) : Prop := ∀ (G B H : Hp) (vs : List V) (ds : List D) (z : D) (k : Kd) (R : VK), Ex G B → Ex B H → Paired (Ov K G B) vs ds → P ds z k → Res K G H z k R → r vs H R
def wClP (P : List D → D → Kd → Prop) (t : WA) : WE := fun ρ Q => t ρ fun ds ρ1 => ∃ z k, P ds z k ∧ Q z k ρ1
theorem snd_clP {r : List V → Hp → VK → Prop} {P : List D → D → Kd → Prop} {ta : TA} {t : WA} (hr : ClP K r P) (h : SndO K ta t) : SndE K (tCB r ta) (wClP P t) := by
  intro b G ρ σ H Q R s hq k
  refine h b G ρ σ H _ _ s hq fun ds ρ1 vs G1 H1 q1 x1 s1 r1 => ?_
  obtain ⟨z, kd, p, q1⟩ := q1
  exact hr G1 (hd b.aw H1) H1 vs ds z kd R s1.sub hd_le r1 p (res_of s1 (fun d k' ρ' v G' H' q x s r => k d k' ρ' v G' H' q (x1.trans x) s (r.back x1.h)) q1)

/-! ### sorted -/
theorem notEmp_ok (n : Nat) : ∀ (d : D) (sh : Sh), hasSh sh d = true → depSh sh ≤ n → okE n d = true := by
  induction n with
  | zero =>
    intro d sh h hn
    cases sh with
    | int => cases d <;> simp [hasSh] at h; rfl
    | str => cases d <;> simp [hasSh] at h; simpa [okE] using h
    | seq s => simp [depSh] at hn
    | prod s => simp [depSh] at hn
  | succ n ih =>
    intro d sh h hn
    cases sh with
    | int => cases d <;> simp [hasSh] at h; rfl
    | str => cases d <;> simp [hasSh] at h; simpa [okE] using h
    | seq s =>
      cases d <;> simp [hasSh] at h
      rename_i xs
      simp only [depSh] at hn
      show okEs n xs = true
      induction xs with
      | nil => rfl
      | cons x xs ih2 =>
        simp only [okEs, Bool.and_eq_true]
        exact ⟨ih x s (h x (by simp)) (by omega), ih2 fun z hz => h z (by simp [hz])⟩
    | prod ss =>
      cases d <;> simp [hasSh] at h
      rename_i xs
      simp only [depSh] at hn
      show okEs n xs = true
      induction xs generalizing ss with
      | nil => rfl
      | cons x xs ih2 =>
        cases ss with
        | nil => simp [hasPr] at h
        | cons s ss =>
          simp only [hasPr, Bool.and_eq_true] at h
          simp only [depShs] at hn
          simp only [okEs, Bool.and_eq_true]
          exact ⟨ih x s h.1 (by omega), ih2 ss (by omega) h.2⟩
section
variable {X : Cx}
def SShp (sh : Sh) (xs : List D) : Prop := depSh sh ≤ 15 ∧ ∀ d ∈ xs, hasSh sh d = true ∧ notEmp d = true
def rSortD (K : PySem.W.Frag) : List V → Hp → VK → Prop := fun xs H Q => ∃ a vs ds sh, xs = [V.ref a] ∧ SqL K H a vs ∧ RpL K H vs ds ∧ SShp sh ds ∧ ∀ p us, H p = none → (∀ G, RpL K G vs ds → RpL K G us (isort ds)) → Q (.ref p) (upd H p (.lst us))
theorem okEs_sh {sh : Sh} {ds : List D} (h : SShp sh ds) : okEs 15 ds = true := by
  obtain ⟨h1, h2⟩ := h
  induction ds with
  | nil => rfl
  | cons d ds ih =>
    simp only [okEs, Bool.and_eq_true]
    exact ⟨notEmp_ok 15 d sh (h2 d (by simp)).1 h1, ih fun z hz => h2 z (by simp [hz])⟩
/-- the items of a sorted list stand for the items of the sorted data -/
theorem perm_rp {K : PySem.W.Frag} {h : Heap} {sh : Sh} {d0 : D} {vs : List V} {ds : List D} {its : List Value} (rv : Vals vs its) (hm : its.map (pk h sh d0) = ds) : ∀ {out : List Value}, (∀ u ∈ out, u ∈ its) → ∃ us : List V, Vals us out ∧ ∀ G, RpL K G vs ds → RpL K G us (out.map (pk h sh d0))
  | [], _ => ⟨[], .nil, fun _ _ => .nil⟩
  | u :: out, hmem => by
    obtain ⟨us, h1, h2⟩ := perm_rp rv hm (out := out) fun z hz => hmem z (by simp [hz])
    obtain ⟨i, hi⟩ := List.getElem?_of_mem (hmem u (by simp))
    have hl : i < vs.length := by
      rw [rv.length]
      exact (List.getElem?_eq_some_iff.mp hi).1
    obtain ⟨u', e1, e2⟩ := rv.get (List.getElem?_eq_getElem hl)
    rw [hi] at e1; cases e1
    refine ⟨vs[i] :: us, .cons e2 h1, fun G r => .cons ?_ (h2 G r)⟩
    have : ds[i]? = some (pk h sh d0 u) := by rw [← hm, List.getElem?_map, hi]; rfl
    obtain ⟨v, c1, c2⟩ := r.get this
    rw [List.getElem?_eq_getElem hl] at c1; cases c1
    exact c2
theorem cr_sortD (hu : X.A.units + 64 < cLine) : CallR X (.builtin "sorted") (rSortD X.K) := by
  intro pins s σ H vs us Q I r h
  obtain ⟨a, xs, ds, sh, rfl, hs, hr, hsh, q⟩ := h
  obtain ⟨its, rv, hl, hz⟩ := I.list hs
  obtain ⟨u, rfl, ru⟩ := vals1 r
  obtain rfl : u = Value.ref a := ru
  have hok := okEs_sh hsh
  obtain ⟨as, rd⟩ := Dp.readsAll I (toPys ds) xs its (RpL.dp hok hr) rv
  cases hd : ds with
  | nil =>
    subst hd
    have hxe : xs = [] := by cases hr; rfl
    subst hxe
    have hie : its = [] := by cases rv; rfl
    subst hie
    refine SrtO.sorted_ord (vs := []) (ltv := fun _ _ => false) ⟨fun _ _ h => (by cases h), fun _ _ _ _ _ => rfl⟩ hl.isList (Nat.zero_le _) (fun h2 => absurd h2 (by simp)) fun out h1 h2 => ?_
    have ho : out = [] := List.Perm.eq_nil h2.perm
    subst ho
    have hd := PyProof.Rows.sortedAll_at s.heap [] ([] : List Value).toArray
    obtain ⟨n, hn⟩ := hd
    have ln : s.heap.objs.size ≤ s.heap.objs.size + 1 := Nat.le_succ _
    exact ⟨.ref (s.heap.objs.size + 1), upd H (s.heap.objs.size + 1) (.lst []), I.laid (t' := s.toks) (fun b o e => PyProof.Rows.sortedAll_old e) ln ⟨Nat.zero_le _, [], n, .nil, hn⟩, rfl, q _ [] (I.hok.fresh ln) fun G _ => .nil⟩
  | cons d0 dr =>
    have h0 : hasSh sh d0 = true := (hsh.2 d0 (by rw [hd]; simp)).1
    have hm : its.map (pk s.heap sh d0) = ds := pk_map (fun d hd => (hsh.2 d hd).1) rd
    refine SrtO.sorted_ord (swo_sh (h := s.heap) h0) hl.isList (by rw [← rv.length]; exact hz) (fun h2 h₁ a' ha kk => fun h' keep => ?_) fun out h1 h2 => ?_
    · have kp : ∀ b o, s.heap.get? b = some o → h'.get? b = some o := fun b o e => keep b o (kk b o e).1 (kk b o e).2
      exact sh_cmp (s := { s with heap := h' }) (PyProof.Rows.ReadsAll.keeps kp rd) kp rd hsh.2 h2 (by
        have e : X.A.in1.in1.units = X.A.units + 1 + 1 := rfl
        have := hsh.1
        rw [e]; omega)
    · have hd := PyProof.Rows.sortedAll_at s.heap its out.toArray
      obtain ⟨n, hn⟩ := hd
      have ln : s.heap.objs.size ≤ s.heap.objs.size + 1 := Nat.le_succ _
      obtain ⟨us, e1, e2⟩ := perm_rp (h := s.heap) (sh := sh) (d0 := d0) rv hm (out := out) fun u hu => h2.perm.mem_iff.mp hu
      have esort : out.map (pk s.heap sh d0) = isort ds := by
        have O := sh_ord sh
        refine srt_uniq O (fun y hy => ?_) ?_ (isort_srt O ds fun y hy => (hsh.2 y hy).1) ?_
        · obtain ⟨u, _, rfl⟩ := List.mem_map.mp hy
          exact pk_sh h0 u
        · exact List.pairwise_map.mpr h1
        · have := h2.perm.map (pk s.heap sh d0)
          rw [hm] at this
          exact this.trans (isort_perm ds).symm
      rw [esort] at e2
      have hlen : us.length ≤ sizeLine := by
        rw [e1.length, h2.perm.length_eq, ← rv.length]
        exact hz
      exact ⟨.ref (s.heap.objs.size + 1), upd H (s.heap.objs.size + 1) (.lst us), I.laid (t' := s.toks) (fun b o e => PyProof.Rows.sortedAll_old e) ln ⟨hlen, out, n, e1, hn⟩, rfl, q _ us (I.hok.fresh ln) e2⟩
def PSort (ds : List D) (z : D) (k : Kd) : Prop := ∃ xs sh, ds = [.lst xs] ∧ SShp sh xs ∧ z = .lst (isort xs) ∧ k = .nw
theorem snd_sort : ClP K (rSortD K) PSort := fun G B H vs ds z k R g g2 o p r => by
  obtain ⟨xs, sh, rfl, hs, rfl, rfl⟩ := p
  cases o with
  | cons o1 o2 =>
    cases o2
    obtain ⟨a, us, rfl, t, l⟩ := o1
    exact ⟨a, us, xs, sh, rfl, .inl (.inl (g2 _ _ t)), l.mono (g.trans g2), hs, fun p ws hp hw => r.new p _ rfl hp ⟨ws, upd_same, hw G l⟩⟩
end

/-! ### <, max, min of data -/
mutual
def ordOk : D → D → Bool
  | .int _, .int _ => true
  | .str _, .str _ => true
  | .tup xs, .tup ys => ordOks xs ys
  | _, _ => false
def ordOks : List D → List D → Bool
  | x :: xs, y :: ys => ordOk x y && ordOks xs ys
  | [], _ => true
  | _ :: _, [] => true
end
mutual
theorem ord_alike : ∀ (d e : D), ordOk d e = true → PySem.W.alike (toPy d) (toPy e) = true ∧ PySem.W.dataLt (toPy d) (toPy e) = dlt d e ∧ toPy d ≠ .none
  | .int i, e, h => by cases e <;> simp [ordOk] at h; exact ⟨by simp [toPy, PySem.W.alike], by simp only [toPy, PySem.W.dataLt_int, dlt], by simp [toPy]⟩
  | .str i, e, h => by cases e <;> simp [ordOk] at h; exact ⟨by simp [toPy, PySem.W.alike], by simp only [toPy, PySem.W.dataLt_str, dlt], by simp [toPy]⟩
  | .tup xs, e, h => by
    cases e <;> simp [ordOk] at h
    rename_i ys
    have a := ord_alikes xs ys h
    exact ⟨by simpa [toPy, PySem.W.alike] using a.1, by simp only [toPy, PySem.W.dataLt_tuple, dlt]; exact a.2, by simp [toPy]⟩
  | .non, e, h => by simp [ordOk] at h
  | .bl _, e, h => by simp [ordOk] at h
  | .lst _, e, h => by simp [ordOk] at h
  | .fl _, e, h => by simp [ordOk] at h
  | .ft _, e, h => by simp [ordOk] at h
  | .dk _, e, h => by simp [ordOk] at h
  | .dt _, e, h => by simp [ordOk] at h
theorem ord_alikes : ∀ (d e : List D), ordOks d e = true → PySem.W.alikeAll (toPys d) (toPys e) = true ∧ PyProof.Rows.lexLt PyProof.Rows.itemOrd (PySem.W.keyToksAll (toPys d)) (PySem.W.keyToksAll (toPys e)) = dlts d e
  | [], [], _ => ⟨by simp [toPys, PySem.W.alikeAll], by
      simp only [toPys, dlts]
      exact PyProof.Rows.lex_irrefl _⟩
  | [], y :: ys, _ => ⟨by simp [toPys, PySem.W.alikeAll], by
      simp only [toPys, dlts]
      rfl⟩
  | x :: xs, [], _ => ⟨by simp [toPys, PySem.W.alikeAll], by
      simp only [toPys, dlts]
      rfl⟩
  | x :: xs, y :: ys, h => by
    simp only [ordOks, Bool.and_eq_true] at h
    have a := ord_alike x y h.1
    have c := ord_alikes xs ys h.2
    refine ⟨by simp [toPys, PySem.W.alikeAll, a.1, c.1], ?_⟩
    simp only [toPys]
    rw [PySem.W.dataLt_cons a.1, eqv_py, c.2, a.2.1]
    rfl
end
/-- the four orders, of ints and of data that are alike -/
def cmpD (f : Int → Int → Bool) (g : D → D → Bool) : D → D → Oz
  | .int i, .int j => ozB (f i j)
  | d, e => if okE 20 d = true ∧ okE 20 e = true ∧ ordOk d e = true then ozB (g d e) else none
abbrev bLtD : D → D → Oz := cmpD (fun i j => decide (i < j)) dlt
abbrev bGtD : D → D → Oz := cmpD (fun i j => decide (j < i)) fun d e => dlt e d
abbrev bLeD : D → D → Oz := cmpD (fun i j => decide (i ≤ j)) fun d e => !dlt e d
abbrev bGeD : D → D → Oz := cmpD (fun i j => decide (j ≤ i)) fun d e => !dlt d e
def rCmpD (K : PySem.W.Frag) (f : Int → Int → Bool) (g : PyData → PyData → Bool) : R2 := fun x y H Q => rI0 (fun i j => .bl (f i j)) x y H Q ∨ ∃ d e, Dp K H x d ∧ Dp K H y e ∧ d.depth ≤ 64 ∧ PySem.W.alike d e = true ∧ d ≠ .none ∧ Q (.bl (g d e)) H
section
variable {X : Cx}
theorem op_cmpD {op : CmpOp} {f : Int → Int → Bool} {g : PyData → PyData → Bool} (h1 : OpR X (compareOp op) (rI0 fun i j => .bl (f i j)))
    (h2 : ∀ {s : Shared} {a b : Value} {da db : PyData} {as bs : List Addr} {Q : Value → Shared → Prop}, Reads s.heap a da as → Reads s.heap b db bs → PySem.W.alike da db = true → da ≠ .none → X.A.units + min da.depth db.depth < cLine → Q (.bool (g da db)) s → wpAny (model X.prog X.w) X.A (compareOp op a b) Q X.xe s)
    (hu : X.A.units + 64 < cLine) : OpR X (compareOp op) (rCmpD X.K f g) := h1.or fun pins s σ H x y v u Q I rx ry h => by
  obtain ⟨d, e, hd, he, dd, al, nn, q⟩ := h
  obtain ⟨as, r1⟩ := Dp.reads I d x v hd rx
  obtain ⟨bs, r2⟩ := Dp.reads I e y u he ry
  exact h2 r1 r2 al nn (by have := Nat.min_le_left d.depth e.depth; omega) ⟨.bl _, H, I, rfl, q⟩
def gLt (d e : PyData) : Bool := PySem.W.dataLt d e
def gGt (d e : PyData) : Bool := PySem.W.dataLt e d
def gLe (d e : PyData) : Bool := !PySem.W.dataLt e d
def gGe (d e : PyData) : Bool := !PySem.W.dataLt d e
theorem op_ltD (hu : X.A.units + 64 < cLine) : OpR X (compareOp .Lt) (rCmpD X.K (fun i j => decide (i < j)) gLt) := op_cmpD op_lt (fun r1 r2 a n h q => PySem.W.lt_data r1 r2 a n h q) hu
theorem op_gtD (hu : X.A.units + 64 < cLine) : OpR X (compareOp .Gt) (rCmpD X.K (fun i j => decide (j < i)) gGt) := op_cmpD op_gt (fun r1 r2 a n h q => PySem.W.gt_data r1 r2 a n h q) hu
theorem op_leD (hu : X.A.units + 64 < cLine) : OpR X (compareOp .LtE) (rCmpD X.K (fun i j => decide (i ≤ j)) gLe) := op_cmpD op_le (fun r1 r2 a n h q => PySem.W.le_data r1 r2 a n h q) hu
theorem op_geD (hu : X.A.units + 64 < cLine) : OpR X (compareOp .GtE) (rCmpD X.K (fun i j => decide (j ≤ i)) gGe) := op_cmpD op_ge (fun r1 r2 a n h q => PySem.W.ge_data r1 r2 a n h q) hu
theorem ordOk_symm : ∀ (d e : D), ordOk d e = true → ordOk e d = true
  | .int _, e, h => by cases e <;> simp [ordOk] at h ⊢
  | .str _, e, h => by cases e <;> simp [ordOk] at h ⊢
  | .tup xs, e, h => by
    cases e <;> simp [ordOk] at h ⊢
    rename_i ys
    exact go xs ys h
  | .non, e, h => by simp [ordOk] at h
  | .bl _, e, h => by simp [ordOk] at h
  | .lst _, e, h => by simp [ordOk] at h
  | .fl _, e, h => by simp [ordOk] at h
  | .ft _, e, h => by simp [ordOk] at h
  | .dk _, e, h => by simp [ordOk] at h
  | .dt _, e, h => by simp [ordOk] at h
where
  go : ∀ (xs ys : List D), ordOks xs ys = true → ordOks ys xs = true
  | [], [], _ => rfl
  | [], _ :: _, _ => rfl
  | _ :: _, [], _ => rfl
  | x :: xs, y :: ys, h => by
    simp only [ordOks, Bool.and_eq_true] at h ⊢
    exact ⟨ordOk_symm x y h.1, go xs ys h.2⟩
theorem snd_cmpD {f : Int → Int → Bool} {g : D → D → Bool} {g' : PyData → PyData → Bool} (hg : ∀ d e, ordOk d e = true → g' (toPy d) (toPy e) = g d e) : OpS K (rCmpD K f g') (cmpD f g) := fun G B H v u d e z k R gg g2 o1 o2 hf r => by
  unfold cmpD at hf
  split at hf
  · obtain rfl := ov_int o1
    obtain rfl := ov_int o2
    exact .inl ⟨_, _, rfl, rfl, res_bl hf r⟩
  · split at hf
    · rename_i h
      obtain ⟨h1, h2, h3⟩ := h
      have a := ord_alike d e h3
      refine .inr ⟨_, _, Rp.dp h1 ((o1.rp gg).mono g2), Rp.dp h2 ((o2.rp gg).mono g2), by have := (okE_lay 20 d h1).2; omega, a.1, a.2.2, ?_⟩
      rw [hg d e h3]
      exact res_bl hf r
    · cases hf
theorem snd_ltD : OpS K (rCmpD K (fun i j => decide (i < j)) gLt) bLtD := snd_cmpD fun d e h => (ord_alike d e h).2.1
theorem snd_gtD : OpS K (rCmpD K (fun i j => decide (j < i)) gGt) bGtD := snd_cmpD fun d e h => (ord_alike e d (ordOk_symm d e h)).2.1
theorem snd_leD : OpS K (rCmpD K (fun i j => decide (i ≤ j)) gLe) bLeD := snd_cmpD fun d e h => by unfold gLe; rw [(ord_alike e d (ordOk_symm d e h)).2.1]
theorem snd_geD : OpS K (rCmpD K (fun i j => decide (j ≤ i)) gGe) bGeD := snd_cmpD fun d e h => by unfold gGe; rw [(ord_alike d e h).2.1]

/-! max, min of a list, a tuple -/
def maxDD (x : D) (xs : List D) : D := xs.foldl (fun a y => if dlt a y = true then y else a) x
def minDD (x : D) (xs : List D) : D := xs.foldl (fun a y => if dlt y a = true then y else a) x
def allOrd (xs : List D) : Bool := okEs 20 xs && xs.all fun x => xs.all fun y => ordOk x y
theorem allOrd_mem {xs : List D} (h : allOrd xs = true) {x y : D} (hx : x ∈ xs) (hy : y ∈ xs) : ordOk x y = true := by
  unfold allOrd at h
  simp only [Bool.and_eq_true, List.all_eq_true] at h
  exact h.2 x hx y hy
theorem fold_mem {f : D → D → D} (hf : ∀ a y, f a y = y ∨ f a y = a) : ∀ (xs : List D) (x : D), xs.foldl f x ∈ x :: xs
  | [], x => by simp
  | y :: ys, x => by
    rw [List.foldl_cons]
    have := fold_mem hf ys (f x y)
    rcases List.mem_cons.mp this with h | h
    · rw [h]
      rcases hf x y with e | e <;> rw [e] <;> simp
    · simp [h]
theorem maxDD_mem (x : D) (xs : List D) : maxDD x xs ∈ x :: xs := fold_mem (fun a y => by split <;> simp) xs x
theorem minDD_mem (x : D) (xs : List D) : minDD x xs ∈ x :: xs := fold_mem (fun a y => by split <;> simp) xs x
theorem maxDD_py {P : List D} (h : allOrd P = true) : ∀ (xs : List D) (x : D), x ∈ P → (∀ y ∈ xs, y ∈ P) → PySem.W.maxD (toPy x) (toPys xs) = toPy (maxDD x xs)
  | [], x, _, _ => rfl
  | y :: ys, x, hx, hy => by
    have h1 := (ord_alike x y (allOrd_mem h hx (hy y (by simp)))).2.1
    show PySem.W.maxD (if PySem.W.dataLt (toPy x) (toPy y) = true then toPy y else toPy x) (toPys ys) = toPy (maxDD (if dlt x y = true then y else x) ys)
    rw [h1]
    by_cases c : dlt x y = true
    · rw [if_pos c, if_pos c]; exact maxDD_py h ys y (hy y (by simp)) fun z hz => hy z (by simp [hz])
    · rw [if_neg c, if_neg c]; exact maxDD_py h ys x hx fun z hz => hy z (by simp [hz])
theorem minDD_py {P : List D} (h : allOrd P = true) : ∀ (xs : List D) (x : D), x ∈ P → (∀ y ∈ xs, y ∈ P) → PySem.W.minD (toPy x) (toPys xs) = toPy (minDD x xs)
  | [], x, _, _ => rfl
  | y :: ys, x, hx, hy => by
    have h1 := (ord_alike y x (allOrd_mem h (hy y (by simp)) hx)).2.1
    show PySem.W.minD (if PySem.W.dataLt (toPy y) (toPy x) = true then toPy y else toPy x) (toPys ys) = toPy (minDD (if dlt y x = true then y else x) ys)
    rw [h1]
    by_cases c : dlt y x = true
    · rw [if_pos c, if_pos c]; exact minDD_py h ys y (hy y (by simp)) fun z hz => hy z (by simp [hz])
    · rw [if_neg c, if_neg c]; exact minDD_py h ys x hx fun z hz => hy z (by simp [hz])
mutual
theorem py_inj : ∀ (d e : D), ordOk d d = true → ordOk e e = true → toPy d = toPy e → d = e
  | .int i, e, _, h2, h => by cases e <;> simp [toPy] at h; rw [h]
  | .str i, e, _, h2, h => by cases e <;> simp [toPy] at h; rw [h]
  | .tup xs, e, h1, h2, h => by
    cases e with
    | tup ys =>
      simp only [toPy, PyData.tuple.injEq] at h
      rw [py_injs xs ys (by simpa [ordOk] using h1) (by simpa [ordOk] using h2) h]
    | ft ys => simp [ordOk] at h2
    | _ => simp [toPy] at h
  | .non, e, h1, _, _ => by simp [ordOk] at h1
  | .bl _, e, h1, _, _ => by simp [ordOk] at h1
  | .lst _, e, h1, _, _ => by simp [ordOk] at h1
  | .fl _, e, h1, _, _ => by simp [ordOk] at h1
  | .ft _, e, h1, _, _ => by simp [ordOk] at h1
  | .dk _, e, h1, _, _ => by simp [ordOk] at h1
  | .dt _, e, h1, _, _ => by simp [ordOk] at h1
theorem py_injs : ∀ (d e : List D), ordOks d d = true → ordOks e e = true → toPys d = toPys e → d = e
  | [], [], _, _, _ => rfl
  | [], _ :: _, _, _, h => by simp [toPys] at h
  | _ :: _, [], _, _, h => by simp [toPys] at h
  | x :: xs, y :: ys, h1, h2, h => by
    simp only [ordOks, Bool.and_eq_true] at h1 h2
    simp only [toPys, List.cons.injEq] at h
    rw [py_inj x y h1.1 h2.1 h.1, py_injs xs ys h1.2 h2.2 h.2]
end
theorem toPys_map : ∀ xs : List D, toPys xs = xs.map toPy
  | [] => rfl
  | x :: xs => by rw [List.map_cons, ← toPys_map xs]; rfl
theorem depthAll_mem : ∀ (xs : List D) (n : Nat), okEs n xs = true → PyData.depthAll (toPys xs) ≤ n := fun xs n h => (okEs_lay n xs h).2
theorem alike_all {xs : List D} (h : allOrd xs = true) : PySem.W.AlikeAll (toPys xs) := by
  rw [toPys_map]
  refine ⟨fun x hx y hy => ?_, fun x hx => ?_⟩
  · obtain ⟨a, ha, rfl⟩ := List.mem_map.mp hx
    obtain ⟨b, hb, rfl⟩ := List.mem_map.mp hy
    exact (ord_alike a b (allOrd_mem h ha hb)).1
  · obtain ⟨a, ha, rfl⟩ := List.mem_map.mp hx
    exact (ord_alike a a (allOrd_mem h ha ha)).2.2
def cMax : List D → Oz
  | [.lst (x :: xs)] => if allOrd (x :: xs) = true then some (maxDD x xs, .fz) else none
  | [.tup (x :: xs)] => if allOrd (x :: xs) = true then some (maxDD x xs, .fz) else none
  | [.int i, .int j] => ozI (if j > i then j else i)
  | _ => none
def cMin : List D → Oz
  | [.lst (x :: xs)] => if allOrd (x :: xs) = true then some (minDD x xs, .fz) else none
  | [.tup (x :: xs)] => if allOrd (x :: xs) = true then some (minDD x xs, .fz) else none
  | [.int i, .int j] => ozI (if j < i then j else i)
  | _ => none
/-- by the items' values: v stands at the place whose datum is the best -/
def rBestD (K : PySem.W.Frag) (best : D → List D → D) : List V → Hp → VK → Prop := fun xs H Q => ∃ a vs x ds, xs = [V.ref a] ∧ (SqL K H a vs ∨ SqT K H a vs) ∧ RpL K H vs (x :: ds) ∧ allOrd (x :: ds) = true ∧ ∀ (i : Nat) v, vs[i]? = some v → (x :: ds)[i]? = some (best x ds) → Q v H
theorem best_of {G : Hp} {vs : List V} {ds : List D} {i : Nat} {v : V} {d : D} (r : RpL K G vs ds) (e1 : vs[i]? = some v) (e2 : ds[i]? = some d) : Rp K G v d := by
  obtain ⟨v', c1, c2⟩ := r.get e2
  rw [e1] at c1; cases c1
  exact c2
theorem item_best {s : Shared} {X : Cx} {pins : List (Addr × Obj)} {σ : L2.St} {H : Hp} (I : Inv X pins σ H s) {vs : List V} {its : List Value} {ds : List D} {as : List Addr} {best : D} (rv : Vals vs its) (rd : ReadsAll s.heap its (toPys ds) as) (h : allOrd ds = true) (hb : best ∈ ds) {i : Nat} {v : Value} {h' : Heap} {bs : List Addr} (hi : its[i]? = some v)
    (hr : Reads h' v (toPy best) bs) (hk : ∀ b o, s.heap.get? b = some o → h'.get? b = some o) : ∃ x, vs[i]? = some x ∧ RelV x v ∧ ds[i]? = some best := by
  have hl : i < its.length := (List.getElem?_eq_some_iff.mp hi).1
  have hlv : i < vs.length := by rw [rv.length]; exact hl
  obtain ⟨u', e1, e2⟩ := rv.get (List.getElem?_eq_getElem hlv)
  rw [hi] at e1; cases e1
  have hld : i < ds.length := by rw [← reads_len rd]; exact hl
  obtain ⟨bs', r', _⟩ := PySem.W.readsAll_at rd i v hi
  have e3 : (toPys ds).getD i .none = toPy ds[i] := by
    rw [toPys_map, List.getD_eq_getElem?_getD, List.getElem?_map, List.getElem?_eq_getElem hld]; rfl
  rw [e3] at r'
  have hm : ds[i] ∈ ds := List.getElem_mem hld
  have hlay : (toPy ds[i]).canLay0 = true := by
    have ho : okEs 20 ds = true := by
      unfold allOrd at h
      simp only [Bool.and_eq_true] at h
      exact h.1
    have : ∀ (l : List D), okEs 20 l = true → ∀ d ∈ l, okE 20 d = true := by
      intro l
      induction l with
      | nil => intro _ d hd; simp at hd
      | cons y ys ih =>
        intro ho d hd
        simp only [okEs, Bool.and_eq_true] at ho
        rcases List.mem_cons.mp hd with rfl | hd
        · exact ho.1
        · exact ih ho.2 d hd
    exact (okE_lay 20 _ (this ds ho _ hm)).1
  have e4 := PySem.SeqAt.Reads.unique _ _ _ _ _ hlay (PyProof.Rows.Reads.keeps hk r') hr
  have e5 := py_inj _ _ (allOrd_mem h hm hm) (allOrd_mem h hb hb) e4
  exact ⟨_, List.getElem?_eq_getElem hlv, e2, by rw [List.getElem?_eq_getElem hld, e5]⟩
theorem allOrd_ok {ds : List D} (h : allOrd ds = true) : okEs 20 ds = true := by
  unfold allOrd at h
  simp only [Bool.and_eq_true] at h
  exact h.1
theorem cr_maxB (hc : X.calm = true) (hu : X.A.units + 64 < cLine) : CallR X (.builtin "max") (rBestD X.K maxDD) := by
  intro pins s σ H vs us Q I r h
  obtain ⟨a, xs, x, ds, rfl, hs, hr, ho, q⟩ := h
  obtain ⟨u, rfl, ru⟩ := vals1 r
  obtain rfl : u = Value.ref a := ru
  have hok := allOrd_ok ho
  have hdep : X.A.units + 1 + PyData.depthAll (toPys (x :: ds)) < cLine := by have := (okEs_lay 20 _ hok).2; omega
  rcases hs with hs | hs
  · obtain ⟨its, rv, hl, hz⟩ := I.list hs
    obtain ⟨as, rd⟩ := Dp.readsAll I (toPys (x :: ds)) xs its (RpL.dp hok hr) rv
    refine PySem.W.max_list_data (x := toPy x) (xs := toPys ds) (I.ok.hd hc) hl.isList (show ReadsAll s.heap its (toPy x :: toPys ds) as from rd) (alike_all ho) hdep fun i v h' tk bs hi hrd hk => ?_
    rw [maxDD_py ho ds x (by simp) (fun y hy => by simp [hy])] at hrd
    obtain ⟨y, e1, e2, e3⟩ := item_best I rv rd ho (maxDD_mem x ds) (by simpa using hi) hrd hk
    exact ⟨y, H, I.kept (t' := tk) hk, e2, q i y e1 e3⟩
  · obtain ⟨its, rv, hl, hz⟩ := I.tuple hs
    obtain ⟨as, rd⟩ := Dp.readsAll I (toPys (x :: ds)) xs its (RpL.dp hok hr) rv
    refine PySem.W.max_tuple_data (x := toPy x) (xs := toPys ds) (I.ok.hd hc) (show s.heap.IsTuple a its.toArray from hl) (show ReadsAll s.heap its (toPy x :: toPys ds) as from rd) (alike_all ho) hdep fun i v h' tk bs hi hrd hk => ?_
    rw [maxDD_py ho ds x (by simp) (fun y hy => by simp [hy])] at hrd
    obtain ⟨y, e1, e2, e3⟩ := item_best I rv rd ho (maxDD_mem x ds) (by simpa using hi) hrd hk
    exact ⟨y, H, I.kept (t' := tk) hk, e2, q i y e1 e3⟩
theorem cr_minB (hc : X.calm = true) (hu : X.A.units + 64 < cLine) : CallR X (.builtin "min") (rBestD X.K minDD) := by
  intro pins s σ H vs us Q I r h
  obtain ⟨a, xs, x, ds, rfl, hs, hr, ho, q⟩ := h
  obtain ⟨u, rfl, ru⟩ := vals1 r
  obtain rfl : u = Value.ref a := ru
  have hok := allOrd_ok ho
  have hdep : X.A.units + 1 + PyData.depthAll (toPys (x :: ds)) < cLine := by have := (okEs_lay 20 _ hok).2; omega
  rcases hs with hs | hs
  · obtain ⟨its, rv, hl, hz⟩ := I.list hs
    obtain ⟨as, rd⟩ := Dp.readsAll I (toPys (x :: ds)) xs its (RpL.dp hok hr) rv
    refine PySem.W.min_list_data (x := toPy x) (xs := toPys ds) (I.ok.hd hc) hl.isList (show ReadsAll s.heap its (toPy x :: toPys ds) as from rd) (alike_all ho) hdep fun i v h' tk bs hi hrd hk => ?_
    rw [minDD_py ho ds x (by simp) (fun y hy => by simp [hy])] at hrd
    obtain ⟨y, e1, e2, e3⟩ := item_best I rv rd ho (minDD_mem x ds) (by simpa using hi) hrd hk
    exact ⟨y, H, I.kept (t' := tk) hk, e2, q i y e1 e3⟩
  · obtain ⟨its, rv, hl, hz⟩ := I.tuple hs
    obtain ⟨as, rd⟩ := Dp.readsAll I (toPys (x :: ds)) xs its (RpL.dp hok hr) rv
    refine PySem.W.min_tuple_data (x := toPy x) (xs := toPys ds) (I.ok.hd hc) (show s.heap.IsTuple a its.toArray from hl) (show ReadsAll s.heap its (toPy x :: toPys ds) as from rd) (alike_all ho) hdep fun i v h' tk bs hi hrd hk => ?_
    rw [minDD_py ho ds x (by simp) (fun y hy => by simp [hy])] at hrd
    obtain ⟨y, e1, e2, e3⟩ := item_best I rv rd ho (minDD_mem x ds) (by simpa using hi) hrd hk
    exact ⟨y, H, I.kept (t' := tk) hk, e2, q i y e1 e3⟩
def rMaxD (K : PySem.W.Frag) : List V → Hp → VK → Prop := fun xs H Q => rBestD K maxDD xs H Q ∨ ∃ i j, xs = [.int i, .int j] ∧ Q (.int (if j > i then j else i)) H
def rMinD (K : PySem.W.Frag) : List V → Hp → VK → Prop := fun xs H Q => rBestD K minDD xs H Q ∨ ∃ i j, xs = [.int i, .int j] ∧ Q (.int (if j < i then j else i)) H
theorem cr_maxD (hc : X.calm = true) (hu : X.A.units + 64 < cLine) : CallR X (.builtin "max") (rMaxD X.K) := (cr_maxB hc hu).or (call_max2 hc)
theorem cr_minD (hc : X.calm = true) (hu : X.A.units + 64 < cLine) : CallR X (.builtin "min") (rMinD X.K) := (cr_minB hc hu).or (call_min2 hc)
theorem snd_cMax : ClS K (rMaxD K) cMax := fun G B H vs ds z k R g g2 o hf r => by
  unfold cMax at hf
  split at hf
  · split at hf
    · rename_i x xs h
      cases hf
      cases o with
      | cons o1 o2 =>
        cases o2
        obtain ⟨a, us, rfl, t, l⟩ := o1
        exact .inl ⟨a, us, x, xs, rfl, .inl (.inl (.inl (g2 _ _ t))), l.mono (g.trans g2), h, fun i v e1 e2 => r.val v rfl (best_of l e1 e2)⟩
    · cases hf
  · split at hf
    · rename_i x xs h
      cases hf
      cases o with
      | cons o1 o2 =>
        cases o2
        cases (show Rp K G _ (.tup (x :: xs)) from o1) with
        | @tup a us _ t l => exact .inl ⟨a, us, x, xs, rfl, .inr (exT (g.trans g2) t), l.mono (g.trans g2), h, fun i v e1 e2 => r.val v rfl (best_of l e1 e2)⟩
    · cases hf
  · cases o with
    | cons o1 o2 =>
      cases o2 with
      | cons o2 o3 =>
        cases o3
        obtain rfl := ov_int o1
        obtain rfl := ov_int o2
        exact .inr ⟨_, _, rfl, res_int hf r⟩
  · cases hf
theorem snd_cMin : ClS K (rMinD K) cMin := fun G B H vs ds z k R g g2 o hf r => by
  unfold cMin at hf
  split at hf
  · split at hf
    · rename_i x xs h
      cases hf
      cases o with
      | cons o1 o2 =>
        cases o2
        obtain ⟨a, us, rfl, t, l⟩ := o1
        exact .inl ⟨a, us, x, xs, rfl, .inl (.inl (.inl (g2 _ _ t))), l.mono (g.trans g2), h, fun i v e1 e2 => r.val v rfl (best_of l e1 e2)⟩
    · cases hf
  · split at hf
    · rename_i x xs h
      cases hf
      cases o with
      | cons o1 o2 =>
        cases o2
        cases (show Rp K G _ (.tup (x :: xs)) from o1) with
        | @tup a us _ t l => exact .inl ⟨a, us, x, xs, rfl, .inr (exT (g.trans g2) t), l.mono (g.trans g2), h, fun i v e1 e2 => r.val v rfl (best_of l e1 e2)⟩
    · cases hf
  · cases o with
    | cons o1 o2 =>
      cases o2 with
      | cons o2 o3 =>
        cases o3
        obtain rfl := ov_int o1
        obtain rfl := ov_int o2
        exact .inr ⟨_, _, rfl, res_int hf r⟩
  · cases hf

/-! sum of a list of ints -/
def intsOf : List D → Option (List Int)
  | [] => some []
  | .int i :: r => (intsOf r).map fun ns => i :: ns
  | _ => none
theorem ints_v {G : Hp} : ∀ {vs : List V} {ds : List D} {ns : List Int}, RpL K G vs ds → intsOf ds = some ns → vs = ns.map V.int
  | _, _, _, .nil, h => by cases h; rfl
  | _, _, _, .cons (d := d) (ds := ds) a r, h => by
    cases a <;> simp only [intsOf] at h <;> first | cases h; done | skip
    cases hi : intsOf ds with
    | none => rw [hi] at h; cases h
    | some ms =>
      rw [hi] at h; cases h
      rw [ints_v r hi]; rfl
def cSum : List D → Oz
  | [.lst ds] => (intsOf ds).bind fun ns => ozI ns.sum
  | _ => none
theorem snd_cSum : ClS K (rSum K) cSum := fun G B H vs ds z k R g g2 o hf r => by
  unfold cSum at hf
  split at hf
  · rename_i ds
    cases o with
    | cons o1 o2 =>
      cases o2
      obtain ⟨a, us, rfl, t, l⟩ := o1
      cases hi : intsOf ds with
      | none => rw [hi] at hf; cases hf
      | some ns =>
        rw [hi] at hf
        have e := ints_v l hi
        subst e
        exact ⟨a, ns, rfl, .inl (.inl (g2 _ _ t)), res_int hf r⟩
  · cases hf
end
end VL

namespace VL
open PySem PySem.Spec PyProof.Rows L2
open Evl (Ex)
section
variable {X : Cx} {e a b c : Expr} {es : List Expr} {te ta tb tc : TE} {t u w : WE} {pos : Pos} {st : Stmt} {sts : List Stmt} {ts us : TS} {r s : WS} {tt tu : TT} {p q : WT} {k : Nat}
theorem u64 (hr : Room k X.A) : X.A.units + 64 < cLine := hr.units
theorem u65 (hr : Room k X.A) : X.A.units + 65 < cLine := by have := hr.un; omega
theorem u1 (hr : Room k X.A) : X.A.units + 1 < cLine := by have := hr.un; omega
theorem e_subs (hr : Room k X.A) (ha : SE X a ta t) (hb : SE X b tb u) (hs : PlainIx b := by intro _ _; rfl) : SE X (.Subscript a b pos) (tOp (rSubs X.K) ta tb) (wBin bSubs t u) := ⟨pe_ix (ix_all (u1 hr)) ha.pe hb.pe hs, snd_op snd_bSubs ha.snd hb.snd⟩
/-! comparisons by kinds -/
theorem e_eq (hr : Room k X.A) (ha : SE X a ta t) (hb : SE X b tb u) : SE X (.Compare a [.Eq] [b] pos) (tOp (rEqD X.K) ta tb) (wBin bEq t u) := e_cmp (op_eqD (u64 hr)) snd_bEq ha hb (nomark _)
theorem e_ne (hr : Room k X.A) (ha : SE X a ta t) (hb : SE X b tb u) : SE X (.Compare a [.NotEq] [b] pos) (tOp (rNeD X.K) ta tb) (wBin bNe t u) := e_cmp (op_neD (u64 hr)) snd_bNe ha hb (nomark _)
theorem e_lt (hr : Room k X.A) (ha : SE X a ta t) (hb : SE X b tb u) : SE X (.Compare a [.Lt] [b] pos) (tOp (rCmpD X.K (fun i j => decide (i < j)) gLt) ta tb) (wBin bLtD t u) := e_cmp (op_ltD (u64 hr)) snd_ltD ha hb (nomark _)
theorem e_gt (hr : Room k X.A) (ha : SE X a ta t) (hb : SE X b tb u) : SE X (.Compare a [.Gt] [b] pos) (tOp (rCmpD X.K (fun i j => decide (j < i)) gGt) ta tb) (wBin bGtD t u) := e_cmp (op_gtD (u64 hr)) snd_gtD ha hb (nomark _)
theorem e_le (hr : Room k X.A) (ha : SE X a ta t) (hb : SE X b tb u) : SE X (.Compare a [.LtE] [b] pos) (tOp (rCmpD X.K (fun i j => decide (i ≤ j)) gLe) ta tb) (wBin bLeD t u) := e_cmp (op_leD (u64 hr)) snd_leD ha hb (nomark _)
theorem e_ge (hr : Room k X.A) (ha : SE X a ta t) (hb : SE X b tb u) : SE X (.Compare a [.GtE] [b] pos) (tOp (rCmpD X.K (fun i j => decide (j ≤ i)) gGe) ta tb) (wBin bGeD t u) := e_cmp (op_geD (u64 hr)) snd_geD ha hb (nomark _)
theorem e_in (hr : Room k X.A) (ha : SE X a ta t) (hb : SE X b tb u) (hm : behindInMarks .In b = false := by rfl) : SE X (.Compare a [.In] [b] pos) (tOp (rInAll X.K) ta tb) (wBin bIn t u) := e_cmp (op_inAll (u65 hr)) snd_bIn ha hb hm
theorem e_notin (hr : Room k X.A) (ha : SE X a ta t) (hb : SE X b tb u) (hm : behindInMarks .NotIn b = false := by rfl) : SE X (.Compare a [.NotIn] [b] pos) (tOp (rNotInAll X.K) ta tb) (wBin bNotIn t u) := e_cmp (op_notInAll (u65 hr)) snd_bNotIn ha hb hm
theorem e_is (ha : SE X a ta t) (hb : SE X b tb u) : SE X (.Compare a [.Is] [b] pos) (tOp (fun x y H Q => y = .non ∧ Q (.bl (decide (x = .non))) H) ta tb) (wBin bIs t u) := e_cmp op_isN snd_bIs ha hb (nomark _)
theorem e_isnot (ha : SE X a ta t) (hb : SE X b tb u) : SE X (.Compare a [.IsNot] [b] pos) (tOp (fun x y H Q => y = .non ∧ Q (.bl (!decide (x = .non))) H) ta tb) (wBin bIsNot t u) := e_cmp op_notN snd_bIsNot ha hb (nomark _)
theorem t_eq (hr : Room k X.A) (ha : SE X a ta t) (hb : SE X b tb u) : ST X (.Compare a [.Eq] [b] pos) (tTest (tOp (rEqD X.K) ta tb)) (wTest (wBin bEq t u)) := t_cmp (op_eqD (u64 hr)) snd_bEq ha hb (nomark _)
theorem t_ne (hr : Room k X.A) (ha : SE X a ta t) (hb : SE X b tb u) : ST X (.Compare a [.NotEq] [b] pos) (tTest (tOp (rNeD X.K) ta tb)) (wTest (wBin bNe t u)) := t_cmp (op_neD (u64 hr)) snd_bNe ha hb (nomark _)
theorem t_lt (hr : Room k X.A) (ha : SE X a ta t) (hb : SE X b tb u) : ST X (.Compare a [.Lt] [b] pos) (tTest (tOp (rCmpD X.K (fun i j => decide (i < j)) gLt) ta tb)) (wTest (wBin bLtD t u)) := t_cmp (op_ltD (u64 hr)) snd_ltD ha hb (nomark _)
theorem t_gt (hr : Room k X.A) (ha : SE X a ta t) (hb : SE X b tb u) : ST X (.Compare a [.Gt] [b] pos) (tTest (tOp (rCmpD X.K (fun i j => decide (j < i)) gGt) ta tb)) (wTest (wBin bGtD t u)) := t_cmp (op_gtD (u64 hr)) snd_gtD ha hb (nomark _)
theorem t_le (hr : Room k X.A) (ha : SE X a ta t) (hb : SE X b tb u) : ST X (.Compare a [.LtE] [b] pos) (tTest (tOp (rCmpD X.K (fun i j => decide (i ≤ j)) gLe) ta tb)) (wTest (wBin bLeD t u)) := t_cmp (op_leD (u64 hr)) snd_leD ha hb (nomark _)
theorem t_ge (hr : Room k X.A) (ha : SE X a ta t) (hb : SE X b tb u) : ST X (.Compare a [.GtE] [b] pos) (tTest (tOp (rCmpD X.K (fun i j => decide (j ≤ i)) gGe) ta tb)) (wTest (wBin bGeD t u)) := t_cmp (op_geD (u64 hr)) snd_geD ha hb (nomark _)
theorem t_in (hr : Room k X.A) (ha : SE X a ta t) (hb : SE X b tb u) (hm : behindInMarks .In b = false := by rfl) : ST X (.Compare a [.In] [b] pos) (tTest (tOp (rInAll X.K) ta tb)) (wTest (wBin bIn t u)) := t_cmp (op_inAll (u65 hr)) snd_bIn ha hb hm
theorem t_notin (hr : Room k X.A) (ha : SE X a ta t) (hb : SE X b tb u) (hm : behindInMarks .NotIn b = false := by rfl) : ST X (.Compare a [.NotIn] [b] pos) (tTest (tOp (rNotInAll X.K) ta tb)) (wTest (wBin bNotIn t u)) := t_cmp (op_notInAll (u65 hr)) snd_bNotIn ha hb hm
theorem t_is (ha : SE X a ta t) (hb : SE X b tb u) : ST X (.Compare a [.Is] [b] pos) (tTest (tOp (fun x y H Q => y = .non ∧ Q (.bl (decide (x = .non))) H) ta tb)) (wTest (wBin bIs t u)) := t_cmp op_isN snd_bIs ha hb (nomark _)
theorem t_isnot (ha : SE X a ta t) (hb : SE X b tb u) : ST X (.Compare a [.IsNot] [b] pos) (tTest (tOp (fun x y H Q => y = .non ∧ Q (.bl (!decide (x = .non))) H) ta tb)) (wTest (wBin bIsNot t u)) := t_cmp op_notN snd_bIsNot ha hb (nomark _)
/-! dicts -/
structure SP (X : Cx) (pos : Pos) (ks : List (Option Expr)) (vs : List Expr) (trs : List (TE × TE)) (t : WP) : Prop where
  pp : PPs X pos ks vs trs
  snd : SndP X.K trs t
theorem p_nil : SP X pos [] [] [] pNil := ⟨pps_nil, sndP_nil⟩
theorem p_cons {ks : List (Option Expr)} {vs : List Expr} {trs : List (TE × TE)} {y : WP} (ha : SE X a ta t) (hb : SE X b tb u) (hr : SP X pos ks vs trs y) : SP X pos (some a :: ks) (b :: vs) ((ta, tb) :: trs) (pCons t u y) := ⟨pps_cons ha.pe hb.pe hr.pp, sndP_cons ha.snd hb.snd hr.snd⟩
theorem e_disp {ks : List (Option Expr)} {vs : List Expr} {trs : List (TE × TE)} {y : WP} (h : SP X pos ks vs trs y) (hall : ks.all (·.isSome) = true := by rfl) (hl : ks.length = vs.length := by rfl) (h0 : ks ≠ [] := by intro z; cases z) (h15 : ks.length ≤ 15 := by decide) : SE X (.Dict ks vs pos) (tDisp trs) (wDisp y) := ⟨pe_disp h.pp hall hl h0 h15, snd_disp h.snd⟩
theorem e_dk0 : SE X (.Dict [] [] pos) tDNewK wDk0 := ⟨pe_dnewK, snd_dk0⟩
theorem e_dt0 : SE X (.Dict [] [] pos) tDNewT wDt0 := ⟨pe_dnewT, snd_dt0⟩
theorem s_dput (j : Nat) {n : Str} {np pos' : Pos} (hr : Room k X.A) (hk : SE X b tb u) (hv : SE X a ta t) (hN : X.N[j]? = some n := by rfl) (hv' : Vis X.env.scope n := by first | exact Or.inl rfl | exact Or.inr (Or.inl rfl) | exact Or.inr (Or.inr rfl)) (hd : (n == ("__debug__" : Str)) = false := by decide) (hcd : (n == ("__classdict__" : Str)) = false := by decide)
    (hs : swapsWith a (some (.Subscript (.Name n np) b pos')) pos.line X.env = pure false := by rfl) : SS X (.Assign [.Subscript (.Name n np) b pos'] a pos) (sDPut (tVar j) tb ta) (wDPut j u t) := ⟨ps_dput (u1 hr) (pe_var hN hv' hd hcd) hk.pe hv.pe hs, snd_dput hk.snd hv.snd⟩
/-! built-ins by name -/
section
variable {xa : TA} {x : WA} {pp : Pos}
theorem c_len (hm : X.mg "len" = none) (ha : SO X (e :: es) xa x) (hg : Gl X "len" := by rfl) (he : starEach (e :: es) X.env = (false, eval e X.env) :: starEach es X.env := by rfl) (hpl : (backTo pos (starEach es X.env)).any (·.1) = false := by rfl) : SE X (.Call (.Name "len" pp) (e :: es) [] pos) (tCB (rLenD X.K) xa) (wCl cLen x) :=
  e_callB cr_lenD snd_cLen hm PySem.boot_len ha hg (by decide) (by decide) he hpl
theorem c_sum (hm : X.mg "sum" = none) (ha : SO X (e :: es) xa x) (hg : Gl X "sum" := by rfl) (he : starEach (e :: es) X.env = (false, eval e X.env) :: starEach es X.env := by rfl) (hpl : (backTo pos (starEach es X.env)).any (·.1) = false := by rfl) (hc : X.calm = true := by rfl) : SE X (.Call (.Name "sum" pp) (e :: es) [] pos) (tCB (rSum X.K) xa) (wCl cSum x) :=
  e_callB (cr_sum hc) snd_cSum hm (by decide +kernel) ha hg (by decide) (by decide) he hpl
theorem c_max (hr : Room k X.A) (hm : X.mg "max" = none) (ha : SO X (e :: es) xa x) (hg : Gl X "max" := by rfl) (he : starEach (e :: es) X.env = (false, eval e X.env) :: starEach es X.env := by rfl) (hpl : (backTo pos (starEach es X.env)).any (·.1) = false := by rfl) (hc : X.calm = true := by rfl) : SE X (.Call (.Name "max" pp) (e :: es) [] pos) (tCB (rMaxD X.K) xa) (wCl cMax x) :=
  e_callB (cr_maxD hc (u64 hr)) snd_cMax hm (by decide +kernel) ha hg (by decide) (by decide) he hpl
theorem c_min (hr : Room k X.A) (hm : X.mg "min" = none) (ha : SO X (e :: es) xa x) (hg : Gl X "min" := by rfl) (he : starEach (e :: es) X.env = (false, eval e X.env) :: starEach es X.env := by rfl) (hpl : (backTo pos (starEach es X.env)).any (·.1) = false := by rfl) (hc : X.calm = true := by rfl) : SE X (.Call (.Name "min" pp) (e :: es) [] pos) (tCB (rMinD X.K) xa) (wCl cMin x) :=
  e_callB (cr_minD hc (u64 hr)) snd_cMin hm (by decide +kernel) ha hg (by decide) (by decide) he hpl
def rAbs : List V → Hp → VK → Prop := fun xs H Q => ∃ i, xs = [.int i] ∧ Q (.int (if i < 0 then -i else i)) H
theorem c_abs (hm : X.mg "abs" = none) (ha : SO X (e :: es) xa x) (hg : Gl X "abs" := by rfl) (he : starEach (e :: es) X.env = (false, eval e X.env) :: starEach es X.env := by rfl) (hpl : (backTo pos (starEach es X.env)).any (·.1) = false := by rfl) : SE X (.Call (.Name "abs" pp) (e :: es) [] pos) (tCB rAbs xa) (wCl cAbs x) :=
  e_callB call_abs snd_cAbs hm (by decide +kernel) ha hg (by decide) (by decide) he hpl
theorem c_sorted (hr : Room k X.A) (hm : X.mg "sorted" = none) (ha : SO X (e :: es) xa x) (hg : Gl X "sorted" := by rfl) (he : starEach (e :: es) X.env = (false, eval e X.env) :: starEach es X.env := by rfl) (hpl : (backTo pos (starEach es X.env)).any (·.1) = false := by rfl) : SE X (.Call (.Name "sorted" pp) (e :: es) [] pos) (tCB (rSortD X.K) xa) (wClP PSort x) :=
  ⟨pe_callB (cr_sortD (u64 hr)) hg hm (by decide +kernel) ha.pa (by decide) (by decide) he hpl, snd_clP snd_sort ha.snd⟩
def rInt1 : List V → Hp → VK → Prop := fun xs H Q => (∃ i, xs = [.int i] ∧ Q (.int i) H) ∨ ∃ k, xs = [.bl k] ∧ Q (.int (if k then 1 else 0)) H
theorem c_int (hm : X.mg "int" = none) (ha : SO X (e :: es) xa x) (hg : Gl X "int" := by rfl) (he : starEach (e :: es) X.env = (false, eval e X.env) :: starEach es X.env := by rfl) (hpl : (backTo pos (starEach es X.env)).any (·.1) = false := by rfl) : SE X (.Call (.Name "int" pp) (e :: es) [] pos) (tCB rInt1 xa) (wCl cInt x) :=
  e_callT call_int1 snd_cInt hm (by decide +kernel) ha hg (by decide) (by decide) he hpl
def rTup1 (K : PySem.W.Frag) : List V → Hp → VK → Prop := fun xs H Q => ∃ p ys, xs = [.ref p] ∧ ((SqL K H p ys ∧ ∀ l, H l = none → Q (.ref l) (upd H l (.tup ys))) ∨ (SqT K H p ys ∧ Q (.ref p) H))
theorem c_tuple (hm : X.mg "tuple" = none) (ha : SO X (e :: es) xa x) (hg : Gl X "tuple" := by rfl) (he : starEach (e :: es) X.env = (false, eval e X.env) :: starEach es X.env := by rfl) (hpl : (backTo pos (starEach es X.env)).any (·.1) = false := by rfl) : SE X (.Call (.Name "tuple" pp) (e :: es) [] pos) (tCB (rTup1 X.K) xa) (wCl cTuple x) :=
  e_callT call_tuple_of snd_cTuple hm (by decide +kernel) ha hg (by decide) (by decide) he hpl
def rList (K : PySem.W.Frag) : List V → Hp → VK → Prop := fun xs H Q => (∃ p ys, xs = [.ref p] ∧ (SqL K H p ys ∨ SqT K H p ys) ∧ ∀ l, H l = none → Q (.ref l) (upd H l (.lst ys)))
theorem c_list (hm : X.mg "list" = none) (ha : SO X (e :: es) xa x) (hg : Gl X "list" := by rfl) (he : starEach (e :: es) X.env = (false, eval e X.env) :: starEach es X.env := by rfl) (hpl : (backTo pos (starEach es X.env)).any (·.1) = false := by rfl) : SE X (.Call (.Name "list" pp) (e :: es) [] pos) (tCB (rList X.K) xa) (wCl cList x) :=
  e_callT call_list_of snd_cList hm (by decide +kernel) ha hg (by decide) (by decide) he hpl
/-! list(range(..)), tuple(range(..)) -/
abbrev WR := Rho → (Int → Int → Rho → Prop) → Prop
def wRg1 (t : WE) : WR := fun ρ Q => t ρ fun d _ ρ1 => match d with
  | .int n => Q 0 n ρ1
  | _ => False
def wRg2 (t u : WE) : WR := fun ρ Q => t ρ fun d _ ρ1 => u ρ1 fun e _ ρ2 => match d, e with
  | .int i, .int j => Q i j ρ2
  | _, _ => False
def SndR (K : PySem.W.Frag) (tr : L2.St → Hp → (Int → Int → Hp → Prop) → Prop) (t : WR) : Prop := ∀ (b : Bs) (G : Hp) (ρ : Rho) (σ : L2.St) (H : Hp) (Q : Int → Int → Rho → Prop) (R : Int → Int → Hp → Prop), Sim K b G ρ σ H → t ρ Q →
  (∀ i j ρ' G' H', Q i j ρ' → Xt b ρ σ G H ρ' G' H' → Sim K b G' ρ' σ H' → R i j H') → tr σ H R
structure SR (X : Cx) (e : Expr) (tr : L2.St → Hp → (Int → Int → Hp → Prop) → Prop) (t : WR) : Prop where
  pr : PRg X e tr
  snd : SndR X.K tr t
theorem r_1 (hm : X.mg "range" = none) (ha : SE X a ta t) (hg : Gl X "range" := by rfl) (na : starEach [a] X.env = (false, eval a X.env) :: starEach [] X.env := by rfl) : SR X (.Call (.Name "range" pp) [a] [] pos) (tRg1 ta) (wRg1 t) :=
  ⟨prg_1 hg hm ha.pe na, fun b G ρ σ H Q R s hq k => by
    refine ha.snd b G ρ σ H _ _ s hq fun d kd ρ1 v G1 H1 q1 x1 s1 r1 => ?_
    have o := r1.ov s1
    split at q1
    · obtain rfl := ov_int o
      exact ⟨_, rfl, k _ _ _ _ _ q1 x1 s1⟩
    · exact q1.elim⟩
theorem r_2 (hm : X.mg "range" = none) (ha : SE X a ta t) (hb : SE X b tb u) (hg : Gl X "range" := by rfl) (na : starEach [a, b] X.env = (false, eval a X.env) :: starEach [b] X.env := by rfl) (nb : starEach [b] X.env = (false, eval b X.env) :: starEach [] X.env := by rfl) (hp : (backTo pos (starEach [b] X.env)).any (·.1) = false := by rfl) : SR X (.Call (.Name "range" pp) [a, b] [] pos) (tRg2 ta tb) (wRg2 t u) :=
  ⟨prg_2 hg hm ha.pe hb.pe na nb hp, fun b G ρ σ H Q R s hq k => by
    refine ha.snd b G ρ σ H _ _ s hq fun d kd ρ1 v G1 H1 q1 x1 s1 r1 => ?_
    refine hb.snd b G1 ρ1 σ H1 _ _ s1 q1 fun e ke ρ2 u G2 H2 q2 x2 s2 r2 => ?_
    have o1 := (r1.ov s1).mono x2.g x2.h
    have o2 := r2.ov s2
    split at q2
    · obtain rfl := ov_int o1
      obtain rfl := ov_int o2
      exact ⟨_, _, rfl, rfl, k _ _ _ _ _ q2 (x1.trans x2) s2⟩
    · exact q2.elim⟩
theorem rp_rng {K : PySem.W.Frag} {G : Hp} (i j : Int) : RpL K G (rgV i j) (rng i (j - i).toNat) := by
  unfold rgV rng
  induction List.range (j - i).toNat with
  | nil => exact .nil
  | cons n r ih => exact .cons (.int _) ih
def rgOk (i j : Int) : Prop := i62 i ∧ i62 j ∧ (j - i).toNat ≤ LIM
theorem rgOk_of {i j : Int} (h : rgOk i j) : RgOk i j := by
  obtain ⟨⟨a1, a2⟩, ⟨a3, a4⟩, a5⟩ := h
  unfold LIM at a5
  exact ⟨by omega, by omega, by omega, by omega, by omega⟩
def wLstRg (t : WR) : WE := fun ρ Q => t ρ fun i j ρ1 => rgOk i j ∧ Q (.lst (rng i (j - i).toNat)) .nw ρ1
def wTupRg (t : WR) : WE := fun ρ Q => t ρ fun i j ρ1 => rgOk i j ∧ Q (.tup (rng i (j - i).toNat)) .fz ρ1
theorem c_listRg {tr : L2.St → Hp → (Int → Int → Hp → Prop) → Prop} {y : WR} (hm : X.mg "list" = none) (he : SR X e tr y) (hg : Gl X "list" := by rfl) (na : starEach [e] X.env = (false, eval e X.env) :: starEach [] X.env := by rfl) (hc : X.calm = true := by rfl) : SE X (.Call (.Name "list" pp) [e] [] pos) (tLstRg tr) (wLstRg y) :=
  ⟨pe_listRg hc hg hm he.pr na, fun b G ρ σ H Q R s hq k => he.snd b G ρ σ H _ _ s hq fun i j ρ1 G1 H1 q1 x1 s1 => ⟨rgOk_of q1.1, fun p hp =>
    (res_of s1 (fun d k' ρ' v G' H' q x s r => k d k' ρ' v G' H' q (x1.trans x) s (r.back x1.h)) q1.2).new p _ rfl hp ⟨_, upd_same, rp_rng i j⟩⟩⟩
theorem c_tupRg {tr : L2.St → Hp → (Int → Int → Hp → Prop) → Prop} {y : WR} (hm : X.mg "tuple" = none) (he : SR X e tr y) (hg : Gl X "tuple" := by rfl) (na : starEach [e] X.env = (false, eval e X.env) :: starEach [] X.env := by rfl) (hc : X.calm = true := by rfl) : SE X (.Call (.Name "tuple" pp) [e] [] pos) (tTupRg tr) (wTupRg y) :=
  ⟨pe_tupRg hc hg hm he.pr na, fun b G ρ σ H Q R s hq k => he.snd b G ρ σ H _ _ s hq fun i j ρ1 G1 H1 q1 x1 s1 => ⟨rgOk_of q1.1, fun p hp =>
    (res_of s1 (fun d k' ρ' v G' H' q x s r => k d k' ρ' v G' H' q (x1.trans x) s (r.back x1.h)) q1.2).tup p _ _ rfl rfl hp (rp_rng i j)⟩⟩
end
end
end VL

namespace VL
open PySem PySem.Spec PyProof.Rows L2
open Evl (Ex)
variable {K : PySem.W.Frag}
/-- a constant of the module -/
def GlobOk (K : PySem.W.Frag) (mg : Str → Option Value) (x : Str) (d : D) : Prop := ∃ (u : Value) (v : V), mg x = some u ∧ RelV v u ∧ ∀ G, Rp K G v d

/-! ### slices -/
abbrev WPt := Rho → (Option Int → Rho → Prop) → Prop
def wPNone : WPt := fun ρ Q => Q none ρ
def wPSome (t : WE) : WPt := fun ρ Q => t ρ fun d _ ρ1 => match d with
  | .int i => Q (some i) ρ1
  | _ => False
def SndPt (K : PySem.W.Frag) (to : TO) (t : WPt) : Prop := ∀ (b : Bs) (G : Hp) (ρ : Rho) (σ : L2.St) (H : Hp) (Q : Option Int → Rho → Prop) (R : Option Int → Hp → Prop), Sim K b G ρ σ H → t ρ Q →
  (∀ o ρ' G' H', Q o ρ' → Xt b ρ σ G H ρ' G' H' → Sim K b G' ρ' σ H' → R o H') → to σ H R
structure SQ (X : Cx) (e : Option Expr) (to : TO) (t : WPt) : Prop where
  po : PO X e to
  snd : SndPt X.K to t
def cutD (xs : List D) (lo hi : Option Int) : List D := (xs.drop (HT.sIx xs.length 0 lo)).take (HT.sIx xs.length xs.length hi - HT.sIx xs.length 0 lo)
def dSlice (d : D) (lo hi : Option Int) : Oz := match d with
  | .lst xs => some (.lst (cutD xs lo hi), .nw)
  | .tup xs => some (.tup (cutD xs lo hi), .fz)
  | .str z => if z.length ≤ LIM then some (.str (cutS z lo hi), .fz) else none
  | _ => none
def wSlice (t : WE) (p q : WPt) : WE := fun ρ Q => t ρ fun d _ ρ1 => p ρ1 fun lo ρ2 => q ρ2 fun hi ρ3 => oB (dSlice d lo hi) fun z k => Q z k ρ3
def SlS (K : PySem.W.Frag) (r : V → Option Int → Option Int → Hp → VK → Prop) (f : D → Option Int → Option Int → Oz) : Prop := ∀ (G B H : Hp) (v : V) (d z : D) (lo hi : Option Int) (k : Kd) (R : VK), Ex G B → Ex B H → Ov K G B v d → f d lo hi = some (z, k) → Res K G H z k R → r v lo hi H R
theorem snd_slice {r : V → Option Int → Option Int → Hp → VK → Prop} {te : TE} {tl th : TO} {t : WE} {p q : WPt} (hr : SlS K r dSlice) (ha : SndE K te t) (hl : SndPt K tl p) (hh : SndPt K th q) : SndE K (tSl r te tl th) (wSlice t p q) := by
  intro b G ρ σ H Q R s h k
  refine ha b G ρ σ H _ _ s h fun d ka ρ1 v G1 H1 q1 x1 s1 r1 => ?_
  refine hl b G1 ρ1 σ H1 _ _ s1 q1 fun lo ρ2 G2 H2 q2 x2 s2 => ?_
  refine hh b G2 ρ2 σ H2 _ _ s2 q2 fun hi ρ3 G3 H3 q3 x3 s3 => ?_
  have x23 := x2.trans x3
  have o1 := (r1.ov s1).mono x23.g x23.h
  cases hf : dSlice d lo hi with
  | none => rw [hf] at q3; exact q3.elim
  | some zk =>
    obtain ⟨z, kd⟩ := zk
    rw [hf] at q3
    exact hr G3 (hd b.aw H3) H3 v d z lo hi kd R s3.sub hd_le o1 hf (res_of s3 (fun d k' ρ' v G' H' q x s r => k d k' ρ' v G' H' q ((x1.trans x23).trans x) s (r.back (x1.trans x23).h)) q3)
def rSlice (K : PySem.W.Frag) : V → Option Int → Option Int → Hp → VK → Prop := fun x lo hi H Q => rSlL K x lo hi H Q ∨ rSlA K x lo hi H Q ∨ rSlS x lo hi H Q
theorem RpL.cut {G : Hp} {vs : List V} {ds : List D} (h : RpL K G vs ds) (lo hi : Option Int) : RpL K G (cutV vs lo hi) (cutD ds lo hi) := by
  unfold cutV cutD
  rw [h.length]
  exact (h.drop _).take _
theorem cut_whole {ds : List D} {lo hi : Option Int} (h : HT.sIx ds.length 0 lo = 0 ∧ HT.sIx ds.length ds.length hi = ds.length) : cutD ds lo hi = ds := by
  unfold cutD
  rw [h.1, h.2]
  simp
theorem snd_dSlice : SlS K (rSlice K) dSlice := fun G B H v d z lo hi k R g g2 o hf r => by
  unfold dSlice at hf
  split at hf
  · cases hf
    obtain ⟨a, vs, rfl, t, l⟩ := o
    exact .inl ⟨a, vs, rfl, .inl (.inl (g2 _ _ t)), fun p hp => r.new p _ rfl hp ⟨_, upd_same, l.cut lo hi⟩⟩
  · rename_i xs
    cases hf
    cases (show Rp K G v (.tup xs) from o) with
    | @tup a vs _ t l =>
      refine .inr (.inl ⟨a, vs, rfl, exT (g.trans g2) t, fun e => ?_, fun _ p hp => r.tup p _ _ rfl rfl hp (l.cut lo hi)⟩)
      rw [l.length] at e
      exact r.val _ rfl (by rw [cut_whole e]; exact .tup t l)
  · obtain rfl := ov_str o
    split at hf
    · rename_i hl
      cases hf
      exact .inr (.inr ⟨_, rfl, lim_le hl, r.val _ rfl (.str _)⟩)
    · cases hf
  · cases hf
section
variable {X : Cx} {e a : Expr} {te ta : TE} {t u : WE} {pos p2 : Pos} {lo hi : Option Expr} {tl th : TO} {p q : WPt}
theorem q_none : SQ X none tNoPart wPNone := ⟨po_none, fun b G ρ σ H Q R s q k => k none ρ G H q .refl s⟩
theorem q_some (h : SE X e te t) : SQ X (some e) (tPart te) (wPSome t) := ⟨po_some h.pe, fun b G ρ σ H Q R s hq k => by
  refine h.snd b G ρ σ H _ _ s hq fun d kd ρ1 v G1 H1 q1 x1 s1 r1 => ?_
  have o := r1.ov s1
  split at q1
  · obtain rfl := ov_int o
    exact ⟨_, rfl, k _ _ _ _ q1 x1 s1⟩
  · exact q1.elim⟩
theorem e_slice (ha : SE X e te t) (hl : SQ X lo tl p) (hh : SQ X hi th q) : SE X (.Subscript e (.Slice lo hi none p2) pos) (tSl (rSlice X.K) te tl th) (wSlice t p q) := ⟨pe_slice (sl_list.or (sl_tupA.or sl_str)) ha.pe hl.po hh.po, snd_slice snd_dSlice ha.snd hl.snd hh.snd⟩
end
end VL

namespace VL
open PySem PySem.Spec PyProof.Rows L2
open Evl (Ex)
variable {K : PySem.W.Frag}
/-! ### the next draw: any number in its range -/
def nxAt : TE := tDGet (tVar 0) (tC (.str "at"))
def nxDr : TE := tDGet (tVar 0) (tC (.str "draws"))
def tNx (K : PySem.W.Frag) : TS :=
  tSeq (sDAug (tVar 0) (tC (.str "at")) (tC (.int 1)) L2.rAdd)
    (tSeq (tIfS (tTest (tOp (rI0 fun i j => .bl (decide (j < i))) nxAt (tCB (rLenD K) (tCons nxDr tNil)))) (tRet (tC (.int 0))) tNext)
      (tRet (tOp (rI (fun _ j => j ≠ 0) fun i j => .int (i.fmod j)) (tCB rInt1 (tCons (tOp (rIx K) nxDr (tOp (rI0 fun i j => .int (i - j)) nxAt (tC (.int 1)))) tNil)) (tVar 1))))
/-- a draw out of 0 .. m-1 -/
def spNext : FS := fun as q => ∃ m : Int, as = [.w, .d (.int m)] ∧ 0 < m ∧ ∀ r : Int, 0 ≤ r → r < m → q (.int r) .fz
section
variable {P : Program} {w : World} {mg : Str → Option Value} {base : Heap}
theorem get_at {ad : Addr} {t : Int} {H : Hp} {a : Addr} (h : H a = some (.dK [(.inr "draws", .ref ad), (.inr "at", .int t)])) : DGet H a (.str "at") (some (.int t)) := DGet.k (k := .inr "at") h
theorem get_dr {ad : Addr} {t : Int} {H : Hp} {a : Addr} (h : H a = some (.dK [(.inr "draws", .ref ad), (.inr "at", .int t)])) : DGet H a (.str "draws") (some (.ref ad)) := DGet.k (k := .inr "draws") h
theorem put_at {ad : Addr} {t u : Int} {H : Hp} {a : Addr} (h : H a = some (.dK [(.inr "draws", .ref ad), (.inr "at", .int t)])) : DPut H a (.str "at") (.int u) (upd H a (.dK [(.inr "draws", .ref ad), (.inr "at", .int u)])) := DPut.k (k := .inr "at") h (by rw [sizeLine_eq]; show 2 < 16777216; decide)
theorem next_ok {st : Stmt} {f : Addr} {fd : FuncData} (F : Fun K "_law_next" "_law_next" st f fd) (S : FnScope ["w", "many"] ["w", "many"] (defScope st))
    (hb : ∀ (cdv : Value) (A : Around) (outer : List Env) (s : Shared) (H : Hp) (E : XK), Room 0 (A.deeper (envOfC "_law_next" (defScope st) s.heap.objs.size f cdv)) → PSs (cxOf CX0 P w K mg base ["w", "many"] "_law_next" (defScope st) f cdv A outer s H E).nox (defBody st) (tNx K)) :
    FnOk P w K mg base CX0 1 f fd ["w", "many"] (toSp K spNext) := by
  refine F.ok S (fun vs H Q E h => ?_) fun cdv A outer s H vs Q E hr h => ?_
  · obtain ⟨aw, G, as, q, _, _, r, ⟨m, rfl, _⟩, _⟩ := h
    rw [Paired.len r]; rfl
  · obtain ⟨aw, G, as, q, g, hw, r, ⟨m, rfl, hm, hq⟩, back⟩ := h
    obtain ⟨v0, v1, rfl, r0, r1⟩ : ∃ v0 v1, vs = [v0, v1] ∧ RpA K ⟨aw, G, hd aw H⟩ G v0 .w ∧ RpA K ⟨aw, G, hd aw H⟩ G v1 (.d (.int m)) := by
      cases r with
      | cons a r => cases r with
        | cons b r => cases r with
          | nil => exact ⟨_, _, rfl, a, b⟩
    obtain ⟨a, ea, rfl⟩ := r0
    obtain rfl : v1 = .int m := ov_int (B := H) (Rp.ov (show Rp K G v1 (.int m) from r1) (g.trans hd_le))
    have ea : aw = some a := ea
    obtain ⟨ad, t, ns, h1, h2, h3, h4⟩ := hw a ea
    have hdk : hd aw (upd H a (.dK [(.inr "draws", .ref ad), (.inr "at", .int (t + 1))])) = hd aw H := by
      funext c
      unfold hd
      by_cases hc : aw = some c
      · rw [if_pos hc, if_pos hc]
      · rw [if_neg hc, if_neg hc]
        exact upd_ne fun z => hc (z ▸ ea)
    have H5 : (upd H a (.dK [(.inr "draws", .ref ad), (.inr "at", .int (t + 1))])) a = some (.dK [(.inr "draws", .ref ad), (.inr "at", .int (t + 1))]) := upd_same
    have e5 : Ex G (upd H a (.dK [(.inr "draws", .ref ad), (.inr "at", .int (t + 1))])) := (by rw [hdk]; exact g : Ex G (hd aw (upd H a (.dK [(.inr "draws", .ref ad), (.inr "at", .int (t + 1))])))).trans hd_le
    have sl : SqL K (upd H a (.dK [(.inr "draws", .ref ad), (.inr "at", .int (t + 1))])) ad (ns.map V.int) := Evl.ex_l e5 h3
    have fin : ∀ r : Int, 0 ≤ r → r < m → Q (.int r) (upd H a (.dK [(.inr "draws", .ref ad), (.inr "at", .int (t + 1))])) := fun r r0 r1 =>
      back (.int r) .fz (.int r) G _ (hq r r0 r1) (Ex.refl _) (by rw [hdk]; exact g) (by rw [hdk]; exact Ex.refl _) (fun _ _ _ e => e) (fun b eb => by
        obtain rfl : b = a := Option.some.inj (eb.symm.trans ea)
        exact ⟨ad, t + 1, ns, upd_same, by omega, h3, h4⟩) (.int r)
    refine ⟨tNx K, hb cdv A outer s H E hr, ?_⟩
    refine ⟨.ref a, rfl, a, .int t, rfl, get_at h1, t, 1, rfl, rfl, _, put_at h1, ?_⟩
    refine ⟨.ref a, rfl, a, _, rfl, get_at H5, .ref a, rfl, a, _, rfl, get_dr H5, .inl ⟨ad, _, rfl, .inl sl, t + 1, _, rfl, rfl, ?_⟩⟩
    refine ⟨_, rfl, ?_⟩
    rw [List.length_map]
    by_cases hl : (ns.length : Int) < t + 1
    · refine ite2 (fun _ => ?_) (fun e => absurd (decide_eq_true hl) e)
      exact fin 0 (by omega) hm
    · refine ite2 (fun e => absurd (of_decide_eq_true e) hl) (fun _ => ?_)
      have hlt : t.toNat < ns.length := by omega
      have e1 : atI (ns.map V.int) (t + 1 - 1) = some (.int ns[t.toNat]) := by
        rw [show t + 1 - 1 = ((t.toNat : Nat) : Int) by omega]
        exact atI_nat (by rw [List.getElem?_map, List.getElem?_eq_getElem hlt]; rfl)
      refine ⟨.ref a, rfl, a, _, rfl, get_dr H5, .ref a, rfl, a, _, rfl, get_at H5, t + 1, 1, rfl, rfl, .inl ⟨ad, _, _, _, rfl, rfl, sl, e1, .inl ⟨_, rfl, ?_⟩⟩⟩
      refine ⟨.int m, rfl, _, m, rfl, rfl, by omega, ?_⟩
      exact fin _ (Int.fmod_nonneg_of_pos _ hm) (Int.fmod_lt_of_pos _ hm)
end
theorem lim1 : (1 ≤ LIM) = True := eq_true (by unfold LIM; decide)
theorem lim2 : (2 ≤ LIM) = True := eq_true (by unfold LIM; decide)
theorem lim3 : (3 ≤ LIM) = True := eq_true (by unfold LIM; decide)
theorem lim4 : (4 ≤ LIM) = True := eq_true (by unfold LIM; decide)
theorem lim5 : (5 ≤ LIM) = True := eq_true (by unfold LIM; decide)
theorem lim6 : (6 ≤ LIM) = True := eq_true (by unfold LIM; decide)
theorem lim7 : (7 ≤ LIM) = True := eq_true (by unfold LIM; decide)
theorem lim8 : (8 ≤ LIM) = True := eq_true (by unfold LIM; decide)
end VL

namespace VL
open PySem PySem.Spec PyProof.Rows L2
open Evl (Ex)
/-! ### pure steps -/
theorem gs0 {α : Type} {x : α} {l : List α} : (x :: l)[0]? = some x := rfl
theorem gs1 {α : Type} {x : α} {l : List α} {n : Nat} : (x :: l)[n + 1]? = l[n]? := rfl
/-- ints at least 0 -/
def NN (ds : List D) : Prop := ∀ d ∈ ds, ∃ i : Int, d = .int i ∧ 0 ≤ i
theorem NN.snoc {ds : List D} {i : Int} (h : NN ds) (h0 : 0 ≤ i) : NN (ds ++ [.int i]) := fun d hd => by
  rcases List.mem_append.mp hd with h1 | h1
  · exact h d h1
  · obtain rfl := List.mem_singleton.mp h1
    exact ⟨i, rfl, h0⟩
def tD60 : WS := wIf (wTest (wBin bGtD (wVar 6) (wCon (.int 0)))) (wSeq (wMut 2 (wBin bMod (wCl cInt (wCons (wVar 6) wNil)) (wCon (.int 997))) fAppend)
  (wAsg 6 (wBin bDiv (wVar 6) (wCon (.int 997))))) wNext
def tDb : WS := wSeq (wAsg 5 (wCl cAbs (wCons (wCl cInt (wCons (wBin bSubs (wVar 0) (wVar 4)) wNil)) wNil)))
  (wSeq (wAsg 3 (wBin bMod (wCl cInt (wCons (wBin bAdd (wBin bAdd (wBin bMul (wVar 3) (wCon (.int 48271))) (wBin bMod (wVar 5) (wCon (.int 1000003)))) (wVar 4)) wNil)) (wCon (.int 65537))))
  (wSeq (wAsg 6 (wCon (.int 0)))
  (wSeq (wIf (wTest (wBin bGeD (wVar 5) (wBin bPow (wCon (.int 10)) (wCon (.int 18))))) (wAsg 6 (wVar 5)) (wSeq (wMut 2 (wBin bMod (wCl cInt (wCons (wVar 5) wNil)) (wCon (.int 997))) fAppend)
  (wMut 2 (wBin bMod (wBin bMod (wCl cInt (wCons (wBin bAdd (wBin bMul (wVar 3) (wCon (.int 69621))) (wCon (.int 5))) wNil)) (wCon (.int 65521))) (wCon (.int 997))) fAppend)))
  (wFor (wiR1 (wCons (wCon (.int 60)) wNil)) (wgName 7) tD60))))
def tDc : WS := wSeq (wAsg 3 (wBin bMod (wCl cInt (wCons (wBin bAdd (wBin bAdd (wBin bMul (wVar 3) (wCon (.int 16807))) (wVar 4)) (wCon (.int 1))) wNil)) (wCon (.int 65537))))
  (wMut 2 (wBin bMod (wCl cInt (wCons (wVar 3) wNil)) (wCon (.int 997))) fAppend)
def tDr : WS :=
  wSeq (wAsg 2 (wLst wNil))
  (wSeq (wAsg 3 (wCon (.int 7)))
  (wSeq (wFor (wiR1 (wCons (wCl cLen (wCons (wVar 0) wNil)) wNil)) (wgName 4) tDb)
  (wSeq (wFor (wiR1 (wCons (wVar 1) wNil)) (wgName 4) tDc)
  (wRet (wSlice (wVar 2) wPNone (wPSome (wVar 1)))))))
/-- the draws of a script -/
def spDraws : FS := fun as q => ∃ (ns : List Int) (m : Int), as = [.d (.fl (ns.map .int)), .d (.int m)] ∧ ns.length ≤ 63 ∧ 0 ≤ m ∧ m ≤ 10000 ∧ ∀ xs : List Int, (∀ x ∈ xs, 0 ≤ x) → q (.lst (xs.map .int)) .nw
theorem d60 {P : PEnds} {s m mx k c : Slot} : ∀ (xs : List D) (ds : List D) (rest : Int) (t : Slot), NN ds → ds.length + xs.length ≤ 60000 → 
    (∀ (ds' : List D) (r' : Int) (t' : Slot), NN ds' → ds'.length ≤ ds.length + xs.length → P.nx [s, m, .ow (.lst ds'), mx, k, c, .fz (.int r'), t']) → wLoop (wgName 7) tD60 P xs [s, m, .ow (.lst ds), mx, k, c, .fz (.int rest), t]
  | [], ds, rest, t, hn, hl, h => h ds rest t hn (Nat.le_refl _)
  | x :: xs, ds, rest, t, hn, hl, h => by
    have l1 : ds.length < LIM := by unfold LIM; simp at hl; omega
    unfold wLoop tD60
    simp (maxSteps := 4000000) only [wSeq, wAsg, wgN, wVar, wCon, wBin, wUn, wCl, wCons, wNil, wConsF, wTup, wLst, wTest, wIf, wFor, wiR1, wiR2, wgName, oB, toF, toN, wRet, wRetN, wNext, wDrop, wMut, fAppend, wPar, nCons, nNil, setAll, sl, wAugI, wAug, bAddI, bSub, bAdd, wAnd, wOr, wNot, wAndV, wOrV, wNotV, wBl, wIfE, wCall, xCons, xNil, xW, Kd.ret, wiF, wiO, seqOf, wgTup, wgCons, wgNil, wAsgT, wSlice, wPSome, wPNone, dSlice, bMul, bMod, bDiv, bPow, cInt, cAbs, cLen, cTuple, cList, cmpD, ozI, ozB, uNeg, wComp, wipeR, restR, wYes, wBreak, wCont, wLstRg, wTupRg, wRg1, wRg2, wExtend, bIs, bIsNot, isNonD, List.set_cons_zero, List.set_cons_succ, List.getElem?_cons_zero, List.getElem?_cons_succ, List.getD_cons_zero, List.getD_cons_succ, List.length_cons, List.length_nil, if_true, if_false, reduceCtorEq, ite_true, ite_false, and_true, true_and, rho0, VL.A.slot, List.map_cons, List.map_nil, List.cons_append, List.nil_append, List.replicate, Nat.add_eq, Nat.reduceAdd, Nat.reduceSub, Bool.false_eq_true, decide_eq_true_eq, Nat.zero_le, Nat.zero_add, lim1, lim2, lim3, lim4, lim5, lim6, lim7, lim8, Bool.not_true, Bool.not_false, decide_true, decide_false]
    by_cases h0 : 0 < rest
    · simp only [h0, if_true, decide_true]
      refine ⟨⟨_, rfl⟩, ?_⟩
      simp [l1]
      refine d60 xs _ _ _ (hn.snoc (Int.fmod_nonneg_of_pos _ (by decide))) (by simp at hl ⊢; omega) fun ds' r' t' a b => h ds' r' t' a (by simp at b ⊢; omega)
    · simp only [h0, if_false, decide_false]
      exact d60 xs _ _ _ hn (by simp at hl; omega) fun ds' r' t' a b => h ds' r' t' a (by simp at b ⊢; omega)
theorem atI_map {ns : List Int} {k : Nat} (h : k < ns.length) : atI (ns.map D.int) (k : Int) = some (.int ns[k]) := atI_nat (by rw [List.getElem?_map, List.getElem?_eq_getElem h]; rfl)
theorem subs_fl {xs : List D} {i : Int} {d : D} (h : atI xs i = some d) : bSubs (.fl xs) (.int i) = some (d, .fz) := by
  simp [bSubs, getD2, bIx, h]
theorem subs_lst {xs : List D} {i : Int} {d : D} (h : atI xs i = some d) : bSubs (.lst xs) (.int i) = some (d, .fz) := by
  simp [bSubs, getD2, bIx, h]
theorem subs_tup {xs : List D} {i : Int} {d : D} (h : atI xs i = some d) : bSubs (.tup xs) (.int i) = some (d, .fz) := by
  simp [bSubs, getD2, bIx, h]
theorem fm997 (i : Int) : 0 ≤ i.fmod 997 := Int.fmod_nonneg_of_pos _ (by decide)
theorem dB {P : PEnds} {ns : List Int} {m : Slot} (hns : ns.length ≤ 63) : ∀ (xs : List D) (ds : List D) (mx : Int) (k c r t : Slot), (∀ x ∈ xs, ∃ i : Nat, i < ns.length ∧ x = .int (i : Int)) → NN ds → ds.length + 62 * xs.length ≤ 40000 →
    (∀ (ds' : List D) (mx' : Int) (k' c' r' t' : Slot), NN ds' → ds'.length ≤ ds.length + 62 * xs.length → P.nx [.fz (.fl (ns.map .int)), m, .ow (.lst ds'), .fz (.int mx'), k', c', r', t']) → wLoop (wgName 4) tDb P xs [.fz (.fl (ns.map .int)), m, .ow (.lst ds), .fz (.int mx), k, c, r, t]
  | [], ds, mx, k, c, r, t, hx, hn, hl, h => h ds mx k c r t hn (Nat.le_refl _)
  | x :: xs, ds, mx, k, c, r, t, hx, hn, hl, h => by
    obtain ⟨i, hi, rfl⟩ := hx x (by simp)
    have l1 : ds.length < LIM := by unfold LIM; simp at hl; omega
    have l2 : ds.length + 1 < LIM := by unfold LIM; simp at hl; omega
    unfold wLoop tDb
    have e1 := subs_fl (atI_map hi)
    have e2 : (0 : Int) + (i : Int) = i := by omega
    have l60 : (rng 0 (60 : Int).toNat).length = 60 := by simp [rng]
    simp (maxSteps := 4000000) only [wSeq, wAsg, wgN, wVar, wCon, wBin, wUn, wCl, wCons, wNil, wConsF, wTup, wLst, wTest, wIf, wFor, wiR1, wiR2, wgName, oB, toF, toN, wRet, wRetN, wNext, wDrop, wMut, fAppend, wPar, nCons, nNil, setAll, sl, wAugI, wAug, bAddI, bSub, bAdd, wAnd, wOr, wNot, wAndV, wOrV, wNotV, wBl, wIfE, wCall, xCons, xNil, xW, Kd.ret, wiF, wiO, seqOf, wgTup, wgCons, wgNil, wAsgT, wSlice, wPSome, wPNone, dSlice, bMul, bMod, bDiv, bPow, cInt, cAbs, cLen, cTuple, cList, cmpD, ozI, ozB, uNeg, wComp, wipeR, restR, wYes, wBreak, wCont, wLstRg, wTupRg, wRg1, wRg2, wExtend, bIs, bIsNot, isNonD, List.set_cons_zero, List.set_cons_succ, List.getElem?_cons_zero, List.getElem?_cons_succ, List.getD_cons_zero, List.getD_cons_succ, List.length_cons, List.length_nil, if_true, if_false, reduceCtorEq, ite_true, ite_false, and_true, true_and, rho0, VL.A.slot, List.map_cons, List.map_nil, List.cons_append, List.nil_append, List.replicate, Nat.add_eq, Nat.reduceAdd, Nat.reduceSub, Bool.false_eq_true, decide_eq_true_eq, Nat.zero_le, Nat.zero_add, lim1, lim2, lim3, lim4, lim5, lim6, lim7, lim8, Bool.not_true, Bool.not_false, decide_true, decide_false, e1, bAdd, e2]
    generalize rng 0 (60 : Int).toNat = X60 at l60 ⊢
    have c1 : (mx.natAbs < 1000000000 ∨ (48271 : Int).natAbs < 1000000000) := .inr (by decide)
    simp only [c1, if_true, show (1000003 : Int) ≠ 0 by decide, show (65537 : Int) ≠ 0 by decide, ne_eq, not_false_eq_true]
    have hp : (0 : Int) ≤ 10 ∧ (18 : Int) ≤ 1000 ∧ (10 : Int).natAbs < 1000000 := by decide
    have c2 : (0 : Int) ≤ 18 ∧ (18 : Int) ≤ 1000 ∧ (10 : Int).natAbs < 1000000 := by decide
    simp only [bPow, ozI, c2, and_self, if_true, cmpD, ozB]
    by_cases h0 : (10 : Int) ^ (18 : Int).toNat ≤ (if ns[i] < 0 then -ns[i] else ns[i])
    · simp only [h0, decide_true, if_true]
      refine ⟨by unfold i62; decide, ?_⟩
      refine d60 _ _ _ _ hn (by rw [l60]; simp at hl; omega) fun ds' r' t' a b => ?_
      rw [l60] at b
      exact dB hns xs ds' _ _ _ _ _ (fun x hx' => hx x (by simp [hx'])) a (by simp at hl; omega) fun ds'' mx' k' c' r'' t'' a' b' => h ds'' mx' k' c' r'' t'' a' (by simp; omega)
    · simp only [h0, decide_false, if_false, Bool.false_eq_true]
      refine ⟨⟨_, rfl⟩, ?_⟩
      simp only [show (997 : Int) ≠ 0 by decide, ne_eq, not_false_eq_true, if_true, l1]
      refine ⟨⟨_, rfl⟩, ?_⟩
      have c3 : ∀ z : Int, (z.natAbs < 1000000000 ∨ (69621 : Int).natAbs < 1000000000) := fun z => .inr (by decide)
      simp only [c3, if_true, show (65521 : Int) ≠ 0 by decide, ne_eq, not_false_eq_true, List.length_append, List.length_cons, List.length_nil, Nat.zero_add, l2]
      refine ⟨by unfold i62; decide, ?_⟩
      refine d60 _ _ _ _ ?_ ?_ fun ds' r' t' a b => ?_
      · exact NN.snoc (NN.snoc hn (fm997 _)) (fm997 _)
      · rw [l60]
        simp only [List.length_append, List.length_cons, List.length_nil, Nat.zero_add] at hl ⊢
        omega
      rw [l60] at b
      simp only [List.length_append, List.length_cons, List.length_nil, Nat.zero_add] at b
      exact dB hns xs ds' _ _ _ _ _ (fun x hx' => hx x (by simp [hx'])) a (by simp at hl; omega) fun ds'' mx' k' c' r'' t'' a' b' => h ds'' mx' k' c' r'' t'' a' (by simp; omega)
theorem dC {P : PEnds} {s m : Slot} {c r t : Slot} : ∀ (xs : List D) (ds : List D) (mx : Int) (k : Slot), (∀ x ∈ xs, ∃ i : Int, x = .int i) → NN ds → ds.length + xs.length ≤ 60000 →
    (∀ (ds' : List D) (mx' : Int) (k' : Slot), NN ds' → P.nx [s, m, .ow (.lst ds'), .fz (.int mx'), k', c, r, t]) → wLoop (wgName 4) tDc P xs [s, m, .ow (.lst ds), .fz (.int mx), k, c, r, t]
  | [], ds, mx, k, hx, hn, hl, h => h ds mx k hn
  | x :: xs, ds, mx, k, hx, hn, hl, h => by
    obtain ⟨i, rfl⟩ := hx x (by simp)
    have l1 : ds.length < LIM := by unfold LIM; simp at hl; omega
    unfold wLoop tDc
    simp (maxSteps := 4000000) only [wSeq, wAsg, wgN, wVar, wCon, wBin, wUn, wCl, wCons, wNil, wConsF, wTup, wLst, wTest, wIf, wFor, wiR1, wiR2, wgName, oB, toF, toN, wRet, wRetN, wNext, wDrop, wMut, fAppend, wPar, nCons, nNil, setAll, sl, wAugI, wAug, bAddI, bSub, bAdd, wAnd, wOr, wNot, wAndV, wOrV, wNotV, wBl, wIfE, wCall, xCons, xNil, xW, Kd.ret, wiF, wiO, seqOf, wgTup, wgCons, wgNil, wAsgT, wSlice, wPSome, wPNone, dSlice, bMul, bMod, bDiv, bPow, cInt, cAbs, cLen, cTuple, cList, cmpD, ozI, ozB, uNeg, wComp, wipeR, restR, wYes, wBreak, wCont, wLstRg, wTupRg, wRg1, wRg2, wExtend, bIs, bIsNot, isNonD, List.set_cons_zero, List.set_cons_succ, List.getElem?_cons_zero, List.getElem?_cons_succ, List.getD_cons_zero, List.getD_cons_succ, List.length_cons, List.length_nil, if_true, if_false, reduceCtorEq, ite_true, ite_false, and_true, true_and, rho0, VL.A.slot, List.map_cons, List.map_nil, List.cons_append, List.nil_append, List.replicate, Nat.add_eq, Nat.reduceAdd, Nat.reduceSub, Bool.false_eq_true, decide_eq_true_eq, Nat.zero_le, Nat.zero_add, lim1, lim2, lim3, lim4, lim5, lim6, lim7, lim8, Bool.not_true, Bool.not_false, decide_true, decide_false, bAdd]
    have c1 : (mx.natAbs < 1000000000 ∨ (16807 : Int).natAbs < 1000000000) := .inr (by decide)
    simp only [c1, if_true, show (65537 : Int) ≠ 0 by decide, show (997 : Int) ≠ 0 by decide, ne_eq, not_false_eq_true]
    refine ⟨⟨_, rfl⟩, ?_⟩
    simp only [l1, if_true]
    exact dC xs _ _ _ (fun x hx' => hx x (by simp [hx'])) (hn.snoc (Int.fmod_nonneg_of_pos _ (by decide))) (by simp at hl ⊢; omega) h
theorem nn_ints : ∀ {ds : List D}, NN ds → ∃ xs : List Int, ds = xs.map .int ∧ ∀ x ∈ xs, 0 ≤ x
  | [], _ => ⟨[], rfl, by simp⟩
  | d :: ds, h => by
    obtain ⟨i, rfl, h0⟩ := h d (by simp)
    obtain ⟨xs, rfl, h1⟩ := nn_ints (ds := ds) fun d hd => h d (by simp [hd])
    exact ⟨i :: xs, rfl, by simpa using ⟨h0, h1⟩⟩
theorem rng_mem {lo : Int} {n : Nat} {x : D} (h : x ∈ rng lo n) : ∃ i : Nat, i < n ∧ x = .int (lo + i) := by
  unfold rng at h
  obtain ⟨i, h1, rfl⟩ := List.mem_map.mp h
  exact ⟨i, List.mem_range.mp h1, rfl⟩
theorem rng_len {lo : Int} {n : Nat} : (rng lo n).length = n := by simp [rng]
theorem draws_pure (as : List A) (q : D → Kd → Prop) (h : spDraws as q) : as.length = 2 ∧ tDr ⟨fun _ => q .non .fz, q, fun _ => False, fun _ => False⟩ (rho0 8 as) := by
  obtain ⟨ns, m, rfl, h1, h2, h3, hq⟩ := h
  refine ⟨rfl, ?_⟩
  unfold tDr
  simp (maxSteps := 4000000) only [wSeq, wAsg, wgN, wVar, wCon, wBin, wUn, wCl, wCons, wNil, wConsF, wTup, wLst, wTest, wIf, wFor, wiR1, wiR2, wgName, oB, toF, toN, wRet, wRetN, wNext, wDrop, wMut, fAppend, wPar, nCons, nNil, setAll, sl, wAugI, wAug, bAddI, bSub, bAdd, wAnd, wOr, wNot, wAndV, wOrV, wNotV, wBl, wIfE, wCall, xCons, xNil, xW, Kd.ret, wiF, wiO, seqOf, wgTup, wgCons, wgNil, wAsgT, wSlice, wPSome, wPNone, dSlice, bMul, bMod, bDiv, bPow, cInt, cAbs, cLen, cTuple, cList, cmpD, ozI, ozB, uNeg, wComp, wipeR, restR, wYes, wBreak, wCont, wLstRg, wTupRg, wRg1, wRg2, wExtend, bIs, bIsNot, isNonD, List.set_cons_zero, List.set_cons_succ, List.getElem?_cons_zero, List.getElem?_cons_succ, List.getD_cons_zero, List.getD_cons_succ, List.length_cons, List.length_nil, if_true, if_false, reduceCtorEq, ite_true, ite_false, and_true, true_and, rho0, VL.A.slot, List.map_cons, List.map_nil, List.cons_append, List.nil_append, List.replicate, Nat.add_eq, Nat.reduceAdd, Nat.reduceSub, Bool.false_eq_true, decide_eq_true_eq, Nat.zero_le, Nat.zero_add, lim1, lim2, lim3, lim4, lim5, lim6, lim7, lim8, Bool.not_true, Bool.not_false, decide_true, decide_false]
  refine ⟨by unfold i62; rw [List.length_map]; omega, ?_⟩
  rw [List.length_map, Int.toNat_natCast]
  refine dB h1 _ _ _ _ _ _ _ (fun x hx => ?_) (fun d hd => by cases hd) (by rw [rng_len]; simp; omega) fun ds' mx' k' c' r' t' a b => ?_
  · obtain ⟨i, hi, rfl⟩ := rng_mem hx
    exact ⟨i, hi, by rw [Int.zero_add]⟩
  · rw [rng_len] at b
    refine ⟨by unfold i62; omega, ?_⟩
    refine dC _ _ _ _ (fun x hx => ?_) a (by rw [rng_len]; simp at b; omega) fun ds'' mx'' k'' a' => ?_
    · obtain ⟨i, hi, rfl⟩ := rng_mem hx
      exact ⟨_, rfl⟩
    · simp (maxSteps := 4000000) only [wSeq, wAsg, wgN, wVar, wCon, wBin, wUn, wCl, wCons, wNil, wConsF, wTup, wLst, wTest, wIf, wFor, wiR1, wiR2, wgName, oB, toF, toN, wRet, wRetN, wNext, wDrop, wMut, fAppend, wPar, nCons, nNil, setAll, sl, wAugI, wAug, bAddI, bSub, bAdd, wAnd, wOr, wNot, wAndV, wOrV, wNotV, wBl, wIfE, wCall, xCons, xNil, xW, Kd.ret, wiF, wiO, seqOf, wgTup, wgCons, wgNil, wAsgT, wSlice, wPSome, wPNone, dSlice, bMul, bMod, bDiv, bPow, cInt, cAbs, cLen, cTuple, cList, cmpD, ozI, ozB, uNeg, wComp, wipeR, restR, wYes, wBreak, wCont, wLstRg, wTupRg, wRg1, wRg2, wExtend, bIs, bIsNot, isNonD, List.set_cons_zero, List.set_cons_succ, List.getElem?_cons_zero, List.getElem?_cons_succ, List.getD_cons_zero, List.getD_cons_succ, List.length_cons, List.length_nil, if_true, if_false, reduceCtorEq, ite_true, ite_false, and_true, true_and, rho0, VL.A.slot, List.map_cons, List.map_nil, List.cons_append, List.nil_append, List.replicate, Nat.add_eq, Nat.reduceAdd, Nat.reduceSub, Bool.false_eq_true, decide_eq_true_eq, Nat.zero_le, Nat.zero_add, lim1, lim2, lim3, lim4, lim5, lim6, lim7, lim8, Bool.not_true, Bool.not_false, decide_true, decide_false]
      have hn : NN (cutD ds'' none (some m)) := fun d hd => by
        unfold cutD at hd
        exact a' d (List.mem_of_mem_drop (List.mem_of_mem_take hd))
      obtain ⟨xs, hx, hnn⟩ := nn_ints hn
      rw [hx]
      exact hq xs hnn
end VL

namespace VL
open PySem PySem.Spec PyProof.Rows L2
open Evl (Ex)
variable {K : PySem.W.Frag}
/-- what every law promises -/
def spLaw (K : PySem.W.Frag) : Sp := fun vs H Q _ => ∃ (a : Addr) (ns : List Int), vs = [.ref a] ∧ SqL K H a (ns.map V.int) ∧ ns.length ≤ 63 ∧ ∀ H', Q (.bl true) H'
/-- w = {'draws': _law_draws(script, m), 'at': 0} -/
def wHead (m : Int) : WS := wAsg 1 (wDisp (pCons (wCon (.str "draws")) (wCall spDraws (xCons (wVar 0) (xCons (wCon (.int m)) xNil))) (pCons (wCon (.str "at")) (wCon (.int 0)) pNil)))
def wD (xs : List Int) : D := .dk [(.inr "draws", .lst (xs.map .int)), (.inr "at", .int 0)]
theorem head_pure {m : Int} (h0 : 0 ≤ m) (h1 : m ≤ 10000) {ns : List Int} (hl : ns.length ≤ 63) {P : PEnds} {ρ : Rho} (h : ∀ xs : List Int, (∀ x ∈ xs, 0 ≤ x) → P.nx (.fz (.fl (ns.map .int)) :: .ow (wD xs) :: ρ)) : wHead m P (.fz (.fl (ns.map .int)) :: .un :: ρ) := by
  unfold wHead wDisp pCons pNil
  simp (maxSteps := 4000000) only [wSeq, wAsg, wgN, wVar, wCon, wBin, wUn, wCl, wCons, wNil, wConsF, wTup, wLst, wTest, wIf, wFor, wiR1, wiR2, wgName, oB, toF, toN, wRet, wRetN, wNext, wDrop, wMut, fAppend, wPar, nCons, nNil, setAll, sl, wAugI, wAug, bAddI, bSub, bAdd, wAnd, wOr, wNot, wAndV, wOrV, wNotV, wBl, wIfE, wCall, xCons, xNil, xW, Kd.ret, wiF, wiO, seqOf, wgTup, wgCons, wgNil, wAsgT, wSlice, wPSome, wPNone, dSlice, bMul, bMod, bDiv, bPow, cInt, cAbs, cLen, cTuple, cList, cmpD, ozI, ozB, uNeg, wComp, wipeR, restR, wYes, wBreak, wCont, wLstRg, wTupRg, wRg1, wRg2, wExtend, bIs, bIsNot, isNonD, List.set_cons_zero, List.set_cons_succ, List.getElem?_cons_zero, List.getElem?_cons_succ, List.getD_cons_zero, List.getD_cons_succ, List.length_cons, List.length_nil, if_true, if_false, reduceCtorEq, ite_true, ite_false, and_true, true_and, rho0, VL.A.slot, List.map_cons, List.map_nil, List.cons_append, List.nil_append, List.replicate, Nat.add_eq, Nat.reduceAdd, Nat.reduceSub, Bool.false_eq_true, decide_eq_true_eq, Nat.zero_le, Nat.zero_add, lim1, lim2, lim3, lim4, lim5, lim6, lim7, lim8, Bool.not_true, Bool.not_false, decide_true, decide_false, keyOf, toF]
  refine ⟨ns, m, rfl, hl, h0, h1, fun xs hx => ⟨by decide, ?_⟩⟩
  exact h xs hx
theorem rp_ints {G : Hp} : ∀ {vs : List V} {xs : List Int}, RpL K G vs (xs.map .int) → vs = xs.map .int
  | [], [], _ => rfl
  | _, x :: xs, .cons a r => by
    rw [List.map_cons, ← rp_ints r]
    cases a
    rfl
  | _ :: _, [], r => by cases r
theorem rp_of_ints {G : Hp} : ∀ {xs : List Int}, RpL K G (xs.map V.int) (xs.map D.int)
  | [] => .nil
  | x :: xs => .cons (.int x) rp_of_ints
theorem ret_true {b : Bs} {G H : Hp} {k : Kd} {v : V} (r : Rr K b G H k v (.bl true)) : v = .bl true := by
  cases k with
  | fz => cases (show Rp K G v (.bl true) from r); rfl
  | nw => obtain ⟨a, _, _, _, _, h⟩ := r; exact h.elim
  | br i => exact r.elim
section
variable {P : Program} {w : World} {mg : Str → Option Value} {base : Heap}
theorem law_ok {st : Stmt} {f : Addr} {fd : FuncData} {N : List Str} {n k : Nat} {m : Int} {t : WS} (h0 : 0 ≤ m) (h1 : m ≤ 10000) (hn : N.length = n + 2) (F : Fun K "law" "law" st f fd) (S : FnScope N ["script"] (defScope st))
    (hb : ∀ (cdv : Value) (A : Around) (outer : List Env) (s : Shared) (H : Hp) (E : XK), Room k (A.deeper (envOfC "law" (defScope st) s.heap.objs.size f cdv)) →
      ∃ ts us, PSs (cxOf CX0 P w K mg base N "law" (defScope st) f cdv A outer s H E).nox (defBody st) (tSeq ts us) ∧ SndS K ts (wHead m) ∧ SndS K us t)
    (hs : ∀ ns : List Int, ns.length ≤ 63 → t ⟨fun _ => False, fun d _ => d = .bl true, fun _ => False, fun _ => False⟩ (.fz (.fl (ns.map .int)) :: .w :: List.replicate n .un)) : FnOk P w K mg base CX0 (k + 1) f fd ["script"] (spLaw K) := by
  refine F.ok S (fun vs H Q E h => ?_) fun cdv A outer s H vs Q E hr h => ?_
  · obtain ⟨a, ns, rfl, _⟩ := h
    rfl
  · obtain ⟨a, ns, rfl, hS, hl, back⟩ := h
    obtain ⟨ts, us, hp, s1, s2⟩ := hb cdv A outer s H E hr
    refine ⟨_, hp, ?_⟩
    have hst : L2.start N [V.ref a] = some (.ref a) :: none :: List.replicate n none := by
      unfold L2.start
      rw [hn]; rfl
    have sim0 : Sim K ⟨none, H, hd none H⟩ H (.fz (.fl (ns.map .int)) :: .un :: List.replicate n .un) (L2.start N [V.ref a]) H := by
      have hr : Paired (RpA K ⟨none, H, hd none H⟩ H) [V.ref a] [.d (.fl (ns.map .int))] := .cons (show Rp K H (.ref a) (.fl (ns.map .int)) from .fl hS rp_of_ints) .nil
      have e : Ex H (hd none H) := fun b u e => by rw [hd_ne (by simp)]; exact e
      have := start_sim (N := N) e (fun _ e => nomatch e) hr
      have er : rho0 N.length [VL.A.d (.fl (ns.map .int))] = .fz (.fl (ns.map .int)) :: .un :: List.replicate n .un := by
        rw [hn]; rfl
      rw [er] at this
      exact this
    refine s1 ⟨none, H, hd none H⟩ ⟨fun ρ => ∃ xs : List Int, (∀ x ∈ xs, 0 ≤ x) ∧ ρ = .fz (.fl (ns.map .int)) :: .ow (wD xs) :: List.replicate n .un, fun _ _ => False, fun _ => False, fun _ => False⟩ _ H _ _ H ⟨fun ρ σ G H' q1 z => ?_, fun _ _ _ _ _ _ _ q => q.elim, fun _ _ _ _ q => q.elim, fun _ _ _ _ q => q.elim⟩ sim0
      (head_pure h0 h1 hl fun xs hx => ⟨xs, hx, rfl⟩)
    obtain ⟨xs, hx, rfl⟩ := q1
    obtain ⟨p, e1, e2, e3, e4, vs, e5, e6⟩ := z.ow 1 _ rfl
    have hH : Ex H G := z.g0
    obtain ⟨v0, f1, f2⟩ := z.fz 0 _ rfl
    have hw : WOk K G H' p := by
      cases e6 with
      | cons a1 r1 => cases r1 with
        | cons a2 r2 =>
          cases r2
          cases a2
          cases a1 with
          | lst g r =>
            rw [rp_ints r] at g
            exact ⟨_, 0, xs, e5, by omega, .inl (.inl g), hx⟩
    have e5' : H' p = some (.dK vs) := e5
    have sub : Ex G (hd (some p) H') := fun c u e => by
      rw [hd_ne fun z => by cases z; rw [e4] at e; cases e]
      exact z.le c u e
    have sim1 : Sim K ⟨some p, G, hd (some p) H'⟩ G (.fz (.fl (ns.map .int)) :: .w :: List.replicate n .un) σ H' := by
      refine ⟨z.len, sub, Ex.refl _, Ex.refl _, fun _ _ _ e => e, fun i d e => ?_, fun i d e => ?_, fun i j d e v _ h1 => ?_, fun i e => ?_, fun c e => by cases e; exact hw⟩
      · match i with
        | 0 => cases e; exact ⟨v0, f1, f2⟩
        | 1 => cases e
        | i + 2 =>
          rw [List.getElem?_cons_succ, List.getElem?_cons_succ, List.getElem?_replicate] at e
          split at e <;> cases e
      · match i with
        | 0 => cases e
        | 1 => cases e
        | i + 2 =>
          rw [List.getElem?_cons_succ, List.getElem?_cons_succ, List.getElem?_replicate] at e
          split at e <;> cases e
      · match i with
        | 0 => cases h1
        | 1 => cases h1
        | i + 2 =>
          rw [List.getElem?_cons_succ, List.getElem?_cons_succ, List.getElem?_replicate] at h1
          split at h1 <;> cases h1
      · match i with
        | 0 => cases e
        | 1 => exact ⟨p, rfl, e1⟩
        | i + 2 =>
          rw [List.getElem?_cons_succ, List.getElem?_cons_succ, List.getElem?_replicate] at e
          split at e <;> cases e
    refine s2 ⟨some p, G, hd (some p) H'⟩ ⟨fun _ => False, fun d _ => d = .bl true, fun _ => False, fun _ => False⟩ _ G _ _ H' ⟨fun _ _ _ _ q => q.elim, fun d k v ρ σ G2 H2 q z2 rr => ?_, fun _ _ _ _ q => q.elim, fun _ _ _ _ q => q.elim⟩ sim1 (hs ns hl)
    have q : d = .bl true := q
    subst q
    obtain rfl := ret_true rr
    exact back H2
end
end VL

namespace VL
open PySem PySem.Spec PyProof.Rows L2
open Evl (Ex)
/-! ### pure library -/
mutual
/-- data with no truth values, no objects of other kinds: == is equality -/
def pl : D → Bool
  | .non => true
  | .int _ => true
  | .str _ => true
  | .tup xs => pls xs
  | .lst xs => pls xs
  | _ => false
def pls : List D → Bool
  | [] => true
  | x :: r => pl x && pls r
end
mutual
theorem eqv_pl : ∀ {a b : D}, pl a = true → pl b = true → (eqv a b = true ↔ a = b)
  | .non, b, h1, h2 => by cases b <;> simp [pl, eqv] at *
  | .int i, b, h1, h2 => by cases b <;> simp [pl, eqv] at *
  | .str i, b, h1, h2 => by cases b <;> simp [pl, eqv] at *
  | .tup xs, b, h1, h2 => by
    cases b <;> simp [pl, eqv] at *
    exact eqvs_pl h1 h2
  | .lst xs, b, h1, h2 => by
    cases b <;> simp [pl, eqv] at *
    exact eqvs_pl h1 h2
  | .bl _, b, h1, h2 => by simp [pl] at h1
  | .fl _, b, h1, h2 => by simp [pl] at h1
  | .ft _, b, h1, h2 => by simp [pl] at h1
  | .dk _, b, h1, h2 => by simp [pl] at h1
  | .dt _, b, h1, h2 => by simp [pl] at h1
theorem eqvs_pl : ∀ {a b : List D}, pls a = true → pls b = true → (eqvs a b = true ↔ a = b)
  | [], b, h1, h2 => by cases b <;> simp [eqvs]
  | x :: xs, b, h1, h2 => by
    cases b with
    | nil => simp [eqvs]
    | cons y ys =>
      simp only [pls, Bool.and_eq_true] at h1 h2
      simp only [eqvs, Bool.and_eq_true, eqv_pl h1.1 h2.1, eqvs_pl h1.2 h2.2, List.cons.injEq]
end
theorem pls_all {xs : List D} : pls xs = true ↔ ∀ x ∈ xs, pl x = true := by
  induction xs with
  | nil => simp [pls]
  | cons x xs ih => simp [pls, ih]
theorem okEs_all {n : Nat} {xs : List D} : okEs n xs = true ↔ ∀ x ∈ xs, okE n x = true := by
  induction xs with
  | nil => simp [okEs]
  | cons x xs ih => simp [okEs, ih]
theorem okE_tup {n : Nat} {xs : List D} : okE (n + 1) (.tup xs) = okEs n xs := by simp [okE]
theorem okE_lst {n : Nat} {xs : List D} : okE (n + 1) (.lst xs) = okEs n xs := by simp [okE]
theorem okE_int {n : Nat} {i : Int} : okE n (.int i) = true := by simp [okE]
theorem okEs_ints {n : Nat} {xs : List Int} : okEs n (xs.map .int) = true := by
  rw [okEs_all]; intro x h
  obtain ⟨i, _, rfl⟩ := List.mem_map.mp h
  exact okE_int
theorem pls_ints {xs : List Int} : pls (xs.map .int) = true := by
  rw [pls_all]; intro x h
  obtain ⟨i, _, rfl⟩ := List.mem_map.mp h
  rfl
/-- a tuple of ints -/
def tI (xs : List Int) : D := .tup (xs.map .int)
theorem okE_tI {n : Nat} {xs : List Int} : okE (n + 1) (tI xs) = true := by unfold tI; rw [okE_tup]; exact okEs_ints
theorem pl_tI {xs : List Int} : pl (tI xs) = true := by unfold tI pl; exact pls_ints
theorem ints_inj : ∀ {xs ys : List Int}, xs.map D.int = ys.map D.int → xs = ys
  | [], [], _ => rfl
  | [], _ :: _, h => by simp at h
  | _ :: _, [], h => by simp at h
  | x :: xs, y :: ys, h => by
    simp only [List.map_cons, List.cons.injEq, D.int.injEq] at h
    rw [h.1, ints_inj h.2]
theorem tI_inj {xs ys : List Int} (h : tI xs = tI ys) : xs = ys := by
  unfold tI at h
  exact ints_inj (D.tup.inj h)
theorem eqv_eq {a b : D} (ha : pl a = true) (hb : pl b = true) {p : Prop} [Decidable p] (h : a = b ↔ p) : eqv a b = decide p := by
  have := eqv_pl ha hb
  by_cases q : p
  · rw [decide_eq_true q]; exact this.mpr (h.mpr q)
  · rw [decide_eq_false q]
    cases e : eqv a b with
    | false => rfl
    | true => exact absurd (h.mp (this.mp e)) q
theorem bEq_ints (i j : Int) : bEq (.int i) (.int j) = ozB (decide (i = j)) := by
  unfold bEq
  rw [if_pos ⟨okE_int, okE_int⟩, eqv_eq rfl rfl (p := i = j) (by simp)]
theorem bNe_ints (i j : Int) : bNe (.int i) (.int j) = ozB (!decide (i = j)) := by
  unfold bNe
  rw [if_pos ⟨okE_int, okE_int⟩, eqv_eq rfl rfl (p := i = j) (by simp)]
theorem bEq_tI (i j : List Int) : bEq (tI i) (tI j) = ozB (decide (i = j)) := by
  unfold bEq
  rw [if_pos ⟨okE_tI, okE_tI⟩, eqv_eq pl_tI pl_tI (p := i = j) ⟨tI_inj, fun h => by rw [h]⟩]
theorem bEq_pl {a b : D} (h1 : okE 20 a = true) (h2 : okE 20 b = true) (h3 : pl a = true) (h4 : pl b = true) {p : Prop} [Decidable p] (h : a = b ↔ p) : bEq a b = ozB (decide p) := by
  unfold bEq
  rw [if_pos ⟨h1, h2⟩, eqv_eq h3 h4 h]
theorem bNe_pl {a b : D} (h1 : okE 20 a = true) (h2 : okE 20 b = true) (h3 : pl a = true) (h4 : pl b = true) {p : Prop} [Decidable p] (h : a = b ↔ p) : bNe a b = ozB (!decide p) := by
  unfold bNe
  rw [if_pos ⟨h1, h2⟩, eqv_eq h3 h4 h]
theorem rng_succ (lo : Int) (n : Nat) : rng lo (n + 1) = .int lo :: rng (lo + 1) n := by
  unfold rng
  rw [List.range_succ_eq_map, List.map_cons, List.map_map]
  have e : ((0 : Nat) : Int) = 0 := rfl
  rw [e, Int.add_zero]
  congr 1
  apply List.map_congr_left
  intro a _
  show D.int (lo + ((a + 1 : Nat) : Int)) = D.int (lo + 1 + (a : Int))
  congr 1
  omega
theorem rng_zero (lo : Int) : rng lo 0 = [] := rfl
/-- the ints lo, lo + 1, .. -/
def ir (lo : Int) : Nat → List Int
  | 0 => []
  | n + 1 => lo :: ir (lo + 1) n
theorem rng_ir : ∀ (n : Nat) (lo : Int), rng lo n = (ir lo n).map .int
  | 0, _ => rfl
  | n + 1, lo => by rw [rng_succ, rng_ir n]; rfl
theorem ir_len : ∀ (n : Nat) (lo : Int), (ir lo n).length = n
  | 0, _ => rfl
  | n + 1, lo => by unfold ir; rw [List.length_cons, ir_len n]
theorem ir_mem : ∀ {n : Nat} {lo i : Int}, i ∈ ir lo n ↔ lo ≤ i ∧ i < lo + n
  | 0, lo, i => by simp [ir]
  | n + 1, lo, i => by
    unfold ir
    rw [List.mem_cons, ir_mem (n := n)]
    constructor <;> intro h <;> omega
theorem bNe_bl (a b : Bool) : bNe (.bl a) (.bl b) = ozB (a != b) := by
  unfold bNe
  rw [if_pos ⟨by simp [okE], by simp [okE]⟩]
  simp [eqv, bne]
theorem bEq_bl (a b : Bool) : bEq (.bl a) (.bl b) = ozB (a == b) := by
  unfold bEq
  rw [if_pos ⟨by simp [okE], by simp [okE]⟩]
  simp [eqv]
theorem any_ints (xs : List Int) (i : Int) : ((xs.map D.int).any fun z => eqv z (.int i)) = decide (i ∈ xs) := by
  induction xs with
  | nil => simp
  | cons x xs ih =>
    rw [List.map_cons, List.any_cons, ih, eqv_eq rfl rfl (p := x = i) (by simp)]
    by_cases h : x = i <;> simp [h, eq_comm]
    intro h2; exact absurd h2.symm h
theorem inD_tI (xs : List Int) (i : Int) : inD (.int i) (.tup (xs.map .int)) = some (decide (i ∈ xs)) := by
  show (if okE 20 (.int i) = true ∧ okE 20 (.tup (xs.map .int)) = true then some ((xs.map D.int).any fun z => eqv z (.int i)) else none) = _
  rw [if_pos ⟨okE_int, by rw [okE_tup]; exact okEs_ints⟩, any_ints]
theorem inD_lI (xs : List Int) (i : Int) : inD (.int i) (.lst (xs.map .int)) = some (decide (i ∈ xs)) := by
  show (if okE 20 (.int i) = true ∧ okE 20 (.lst (xs.map .int)) = true then some ((xs.map D.int).any fun z => eqv z (.int i)) else none) = _
  rw [if_pos ⟨okE_int, by rw [okE_lst]; exact okEs_ints⟩, any_ints]
theorem bIn_tI (xs : List Int) (i : Int) : bIn (.int i) (.tup (xs.map .int)) = ozB (decide (i ∈ xs)) := by unfold bIn; rw [inD_tI]; rfl
theorem bNotIn_tI (xs : List Int) (i : Int) : bNotIn (.int i) (.tup (xs.map .int)) = ozB (!decide (i ∈ xs)) := by unfold bNotIn; rw [inD_tI]; rfl
theorem bIn_lI (xs : List Int) (i : Int) : bIn (.int i) (.lst (xs.map .int)) = ozB (decide (i ∈ xs)) := by unfold bIn; rw [inD_lI]; rfl
theorem bNotIn_lI (xs : List Int) (i : Int) : bNotIn (.int i) (.lst (xs.map .int)) = ozB (!decide (i ∈ xs)) := by unfold bNotIn; rw [inD_lI]; rfl
theorem next_go {m : Int} {q : D → Kd → Prop} (hm : 0 < m) (h : ∀ r : Int, 0 ≤ r → r < m → q (.int r) .fz) : spNext [.w, .d (.int m)] q := ⟨m, rfl, hm, h⟩
theorem intsOf_map (xs : List Int) : intsOf (xs.map .int) = some xs := by
  induction xs with
  | nil => rfl
  | cons x xs ih => rw [List.map_cons]; unfold intsOf; rw [ih]; rfl
theorem cSum_ints (xs : List Int) : cSum [.lst (xs.map .int)] = ozI xs.sum := by
  show (intsOf (xs.map .int)).bind (fun ns => ozI ns.sum) = _
  rw [intsOf_map]; rfl
theorem fmap_map {α β : Type} {f : α → D} {g : D → Option β} {h : α → β} (e : ∀ x, g (f x) = some (h x)) (l : List α) : (l.map f).filterMap g = l.map h := by
  induction l with
  | nil => rfl
  | cons x l ih => rw [List.map_cons, List.filterMap_cons, e, List.map_cons, ih]
theorem sq {t u : WS} {P : PEnds} {ρ : Rho} (h : t { P with nx := u P } ρ) : wSeq t u P ρ := h
theorem w64n {n : Nat} (h : n ≤ 100000) (z : Int) : (n : Int).natAbs < 1000000000 ∨ z.natAbs < 1000000000 := .inl (by omega)
theorem w64l {i : Int} (h1 : -100000000 ≤ i) (h2 : i ≤ 100000000) (z : Int) : i.natAbs < 1000000000 ∨ z.natAbs < 1000000000 := .inl (by omega)
theorem w64r {i : Int} (h1 : -100000000 ≤ i) (h2 : i ≤ 100000000) (z : Int) : z.natAbs < 1000000000 ∨ i.natAbs < 1000000000 := .inr (by omega)
/-! loops -/
theorem loop_inv {g : WG} {tb : WS} {P : PEnds} (I : List D → Rho → Prop) (hs : ∀ x r ρ, I (x :: r) ρ → ∀ J : Rho → Prop, (∀ ρ', I r ρ' → J ρ') → g x ρ fun ρ1 => tb ⟨J, P.rt, P.nx, J⟩ ρ1) (he : ∀ ρ, I [] ρ → P.nx ρ) : ∀ (xs : List D) (ρ : Rho), I xs ρ → wLoop g tb P xs ρ
  | [], ρ, h => he ρ h
  | x :: r, ρ, h => hs x r ρ h _ fun ρ' h' => loop_inv I hs he r ρ' h'
/-- what a comprehension may give: items by a relation, none for those left out -/
inductive PF (R : D → Option D → Prop) : List D → List D → Prop
  | nil : PF R [] []
  | some {x d : D} {xs ds : List D} : R x (some d) → PF R xs ds → PF R (x :: xs) (d :: ds)
  | none {x : D} {xs ds : List D} : R x none → PF R xs ds → PF R (x :: xs) ds
theorem comp_rel {g : WG} {tt : WT} {t : WE} {vs : List Nat} {ρ : Rho} (R : D → Option D → Prop) {Q : List D → Rho → Prop} : ∀ (xs acc : List D), acc.length + xs.length ≤ LIM →
    (hs : ∀ x ∈ xs, ∀ K : Option D → Rho → Prop, (∀ o, R x o → K o ρ) → g x ρ fun ρ1 => tt ρ1 fun c ρ2 => if c = true then t ρ2 (toF fun d ρ3 => K (some d) (wipeR ρ3 vs)) else K none (wipeR ρ2 vs)) →
    (∀ ds, PF R xs ds → Q (acc ++ ds) ρ) → wCompL g tt t vs xs acc ρ Q
  | [], acc, hl, hs, h => by
    have := h [] .nil
    rw [List.append_nil] at this
    exact this
  | x :: xs, acc, hl, hs, h => by
    refine hs x (by simp) (fun o ρ' => match o with
      | some d => acc.length < LIM ∧ wCompL g tt t vs xs (acc ++ [d]) ρ' Q
      | none => wCompL g tt t vs xs acc ρ' Q) fun o ho => ?_
    have hl' : acc.length + xs.length + 1 ≤ LIM := by simpa [Nat.add_assoc] using hl
    cases o with
    | none => exact comp_rel R xs acc (by omega) (fun y hy => hs y (by simp [hy])) fun ds hd => h ds (.none ho hd)
    | some d => exact ⟨by omega, comp_rel R xs (acc ++ [d]) (by simp; omega) (fun y hy => hs y (by simp [hy])) fun ds hd => by
        rw [List.append_assoc]
        exact h (d :: ds) (.some ho hd)⟩
theorem PF.fn {f : D → Option D} : ∀ {xs ds : List D}, PF (fun x o => o = f x) xs ds → ds = xs.filterMap f
  | _, _, .nil => rfl
  | _, _, .some (x := x) h r => by rw [List.filterMap_cons, ← h, ← PF.fn r]
  | _, _, .none (x := x) h r => by rw [List.filterMap_cons, ← h, ← PF.fn r]
theorem comp_fn {g : WG} {tt : WT} {t : WE} {vs : List Nat} {ρ : Rho} (f : D → Option D) {Q : List D → Rho → Prop} (xs : List D) (hl : xs.length ≤ LIM)
    (hs : ∀ x ∈ xs, ∀ K : Option D → Rho → Prop, K (f x) ρ → g x ρ fun ρ1 => tt ρ1 fun c ρ2 => if c = true then t ρ2 (toF fun d ρ3 => K (some d) (wipeR ρ3 vs)) else K none (wipeR ρ2 vs))
    (h : Q (xs.filterMap f) ρ) : wCompL g tt t vs xs [] ρ Q :=
  comp_rel (fun x o => o = f x) xs [] (by simpa using hl) (fun x hx K hk => hs x hx K (hk _ rfl)) fun ds hd => by rw [List.nil_append, hd.fn]; exact h
/-- all items, by a predicate -/
theorem PF.all {R : D → Option D → Prop} {p : D → Prop} (hp : ∀ x o, R x o → ∃ d, o = Option.some d ∧ p d) : ∀ {xs ds : List D}, PF R xs ds → ds.length = xs.length ∧ ∀ d ∈ ds, p d
  | _, _, .nil => ⟨rfl, by simp⟩
  | _, _, .some h r => by
    obtain ⟨a, b⟩ := PF.all hp r
    obtain ⟨d', e, q⟩ := hp _ _ h
    cases e
    exact ⟨by simp [a], by simpa using ⟨q, b⟩⟩
  | _, _, .none h r => by obtain ⟨d', e, q⟩ := hp _ _ h; cases e
theorem PF.any {R : D → Option D → Prop} {p : D → Prop} (hp : ∀ x d, R x (Option.some d) → p d) : ∀ {xs ds : List D}, PF R xs ds → ds.length ≤ xs.length ∧ ∀ d ∈ ds, p d
  | _, _, .nil => ⟨Nat.le_refl _, by simp⟩
  | _, _, .some h r => by
    obtain ⟨a, b⟩ := PF.any hp r
    exact ⟨by simp; omega, by simpa using ⟨hp _ _ h, b⟩⟩
  | _, _, .none h r => by
    obtain ⟨a, b⟩ := PF.any hp r
    exact ⟨by simp; omega, b⟩
theorem ints_of {ds : List D} {p : Int → Prop} (h : ∀ d ∈ ds, ∃ i : Int, d = .int i ∧ p i) : ∃ xs : List Int, ds = xs.map .int ∧ ∀ x ∈ xs, p x := by
  induction ds with
  | nil => exact ⟨[], rfl, by simp⟩
  | cons d ds ih =>
    obtain ⟨i, rfl, h0⟩ := h d (by simp)
    obtain ⟨xs, rfl, h1⟩ := ih fun d hd => h d (by simp [hd])
    exact ⟨i :: xs, rfl, by simpa using ⟨h0, h1⟩⟩
/-! order -/
mutual
theorem ordOk_sh : ∀ (sh : Sh) {d e : D}, hasSh sh d = true → hasSh sh e = true → ordOk d e = true
  | .int, d, e, h1, h2 => by cases d <;> simp [hasSh] at h1; cases e <;> simp [hasSh] at h2; rfl
  | .str, d, e, h1, h2 => by cases d <;> simp [hasSh] at h1; cases e <;> simp [hasSh] at h2; rfl
  | .seq s, d, e, h1, h2 => by
    cases d <;> simp [hasSh] at h1
    cases e <;> simp [hasSh] at h2
    rename_i xs ys
    unfold ordOk
    induction xs generalizing ys with
    | nil => cases ys <;> rfl
    | cons x xs ih =>
      cases ys with
      | nil => rfl
      | cons y ys =>
        unfold ordOks
        rw [ordOk_sh s (h1 x (by simp)) (h2 y (by simp)), Bool.true_and]
        exact ih (fun z hz => h1 z (by simp [hz])) ys (fun z hz => h2 z (by simp [hz]))
  | .prod ss, d, e, h1, h2 => by
    cases d <;> simp [hasSh] at h1
    cases e <;> simp [hasSh] at h2
    unfold ordOk
    exact ordOks_pr ss h1 h2
theorem ordOks_pr : ∀ (ss : List Sh) {xs ys : List D}, hasPr ss xs = true → hasPr ss ys = true → ordOks xs ys = true
  | [], xs, ys, h1, h2 => by
    cases xs with
    | nil => cases ys <;> rfl
    | cons x xs => simp [hasPr] at h1
  | s :: ss, xs, ys, h1, h2 => by
    cases xs with
    | nil => simp [hasPr] at h1
    | cons x xs =>
      cases ys with
      | nil => simp [hasPr] at h2
      | cons y ys =>
        simp only [hasPr, Bool.and_eq_true] at h1 h2
        unfold ordOks
        rw [ordOk_sh s h1.1 h2.1, ordOks_pr ss h1.2 h2.2]; rfl
end
theorem allOrd_sh {sh : Sh} {xs : List D} (hd : depSh sh ≤ 20) (h : ∀ d ∈ xs, hasSh sh d = true) : allOrd xs = true := by
  unfold allOrd
  simp only [Bool.and_eq_true, List.all_eq_true]
  exact ⟨okEs_all.mpr fun x hx => notEmp_ok 20 x sh (h x hx) hd, fun x hx y hy => ordOk_sh sh (h x hx) (h y hy)⟩
theorem maxDD_spec {sh : Sh} : ∀ (xs : List D) (x : D), hasSh sh x = true → (∀ d ∈ xs, hasSh sh d = true) → maxDD x xs ∈ x :: xs ∧ ∀ y ∈ x :: xs, dlt (maxDD x xs) y = false
  | [], x, hx, _ => ⟨by simp [maxDD], fun y hy => by
      obtain rfl := List.mem_singleton.mp hy
      exact (sh_ord sh).irr _ hx⟩
  | z :: xs, x, hx, h => by
    have hz := h z (by simp)
    have O := sh_ord sh
    unfold maxDD
    rw [List.foldl_cons]
    by_cases c : dlt x z = true
    · rw [if_pos c]
      obtain ⟨a, b⟩ := maxDD_spec xs z hz fun d hd => h d (by simp [hd])
      unfold maxDD at a b
      refine ⟨by simp at a ⊢; exact .inr a, fun y hy => ?_⟩
      rcases List.mem_cons.mp hy with rfl | hy
      · have hm : hasSh sh (List.foldl (fun a y => if dlt a y = true then y else a) z xs) = true := by
          rcases List.mem_cons.mp a with e | e
          · rw [e]; exact hz
          · exact h _ (by simp [e])
        cases q : dlt (List.foldl (fun a y => if dlt a y = true then y else a) z xs) y with
        | false => rfl
        | true =>
          have t := O.tr _ y z hm hx hz q c
          rw [b z (by simp)] at t; cases t
      · exact b y hy
    · rw [if_neg c]
      obtain ⟨a, b⟩ := maxDD_spec xs x hx fun d hd => h d (by simp [hd])
      unfold maxDD at a b
      refine ⟨by simp at a ⊢; rcases a with a | a <;> simp [a], fun y hy => ?_⟩
      rcases List.mem_cons.mp hy with rfl | hy
      · exact b _ (by simp)
      · rcases List.mem_cons.mp hy with rfl | hy
        · have hm : hasSh sh (List.foldl (fun a y => if dlt a y = true then y else a) x xs) = true := by
            rcases List.mem_cons.mp a with e | e
            · rw [e]; exact hx
            · exact h _ (by simp [e])
          cases q : dlt (List.foldl (fun a y => if dlt a y = true then y else a) x xs) y with
          | false => rfl
          | true =>
            have bx := b x (by simp)
            rcases O.tot x (List.foldl (fun a y => if dlt a y = true then y else a) x xs) hx hm with t | t | t
            · exact absurd (O.tr _ _ _ hx hm hz t q) c
            · rw [← t] at q; exact absurd q c
            · rw [bx] at t; cases t
        · exact b y (by simp [hy])
end VL

namespace VL
open PySem PySem.Spec PyProof.Rows L2
open Evl (Ex)
/-! ### all sets of some things, by their sizes -/
def tSets_c1 : WE := wBin bAdd (wVar 3) (wTup (wConsF (wVar 2) wNil))
def tSets_f1 : WS := wAsg 1 (wBin bAdd (wVar 1) (wComp (wiO (wVar 1)) (wgName 3) wYes tSets_c1 [3]))
def tSets_c2 : WE := wTup (wConsF (wCl cLen (wCons (wVar 3) wNil)) (wConsF (wVar 3) wNil))
def tSets : WS :=
  wSeq (wAsg 1 (wLst (wConsF (wTup wNil) wNil)))
  (wSeq (wFor (wiF (wVar 0)) (wgName 2) tSets_f1)
  (wRet (wComp (wiO (wClP PSort (wCons (wComp (wiO (wVar 1)) (wgName 3) wYes tSets_c2 [3]) wNil))) (wgTup 2 (wgCons (wgName 4) (wgCons (wgName 3) wgNil))) wYes (wVar 3) [4, 3])))
def subGo : List D → List (List D) → List (List D)
  | [], rows => rows
  | t :: ts, rows => subGo ts (rows ++ rows.map (· ++ [t]))
def subsD (ts : List D) : List (List D) := subGo ts [[]]
def pairD (r : List D) : D := .tup [.int r.length, .tup r]
def setsD (ts : List D) : List D := (isort ((subsD ts).map pairD)).filterMap fun d => match d with
  | .tup [_, r] => some r
  | _ => none
theorem subGo_len : ∀ (ts : List D) (rows : List (List D)), (subGo ts rows).length = rows.length * 2 ^ ts.length
  | [], rows => by simp [subGo]
  | t :: ts, rows => by
    unfold subGo
    rw [subGo_len ts, List.length_append, List.length_map, List.length_cons, Nat.pow_succ]
    have : rows.length + rows.length = rows.length * 2 := by omega
    rw [this, Nat.mul_assoc, Nat.mul_comm 2]
theorem subGo_mem : ∀ {ts : List D} {rows : List (List D)} {r : List D}, r ∈ subGo ts rows ↔ ∃ a b, a ∈ rows ∧ b.Sublist ts ∧ r = a ++ b
  | [], rows, r => by
    unfold subGo
    constructor
    · intro h; exact ⟨r, [], h, .slnil, by simp⟩
    · rintro ⟨a, b, h, h2, rfl⟩
      rw [List.sublist_nil.mp h2, List.append_nil]; exact h
  | t :: ts, rows, r => by
    unfold subGo
    rw [subGo_mem (ts := ts)]
    constructor
    · rintro ⟨a, b, h, h2, rfl⟩
      rcases List.mem_append.mp h with h | h
      · exact ⟨a, b, h, h2.cons t, rfl⟩
      · obtain ⟨c, hc, rfl⟩ := List.mem_map.mp h
        exact ⟨c, t :: b, hc, h2.cons_cons t, by simp⟩
    · rintro ⟨a, b, h, h2, rfl⟩
      cases h2 with
      | cons _ h3 => exact ⟨a, b, List.mem_append.mpr (.inl h), h3, rfl⟩
      | cons_cons _ h3 => exact ⟨a ++ [t], _, List.mem_append.mpr (.inr (List.mem_map.mpr ⟨a, h, rfl⟩)), h3, by simp⟩
theorem subsD_mem {ts : List D} {r : List D} : r ∈ subsD ts ↔ r.Sublist ts := by
  unfold subsD
  rw [subGo_mem]
  constructor
  · rintro ⟨a, b, h, h2, rfl⟩
    obtain rfl := List.mem_singleton.mp h
    exact h2
  · intro h
    exact ⟨[], r, by simp, h, rfl⟩
theorem setsD_mem {ts : List D} {d : D} : d ∈ setsD ts ↔ ∃ r, r.Sublist ts ∧ d = .tup r := by
  unfold setsD
  rw [List.mem_filterMap]
  constructor
  · rintro ⟨x, hx, e⟩
    obtain ⟨r, hr, rfl⟩ := List.mem_map.mp ((isort_perm _).mem_iff.mp hx)
    cases e
    exact ⟨r, subsD_mem.mp hr, rfl⟩
  · rintro ⟨r, hr, rfl⟩
    exact ⟨pairD r, (isort_perm _).mem_iff.mpr (List.mem_map.mpr ⟨r, subsD_mem.mpr hr, rfl⟩), rfl⟩
theorem setsD_len {ts : List D} : (setsD ts).length = 2 ^ ts.length := by
  have h : ∀ l : List D, (∀ x ∈ l, ∃ r, x = pairD r) → (l.filterMap fun d => match d with
      | .tup [_, r] => some r
      | _ => none).length = l.length := fun l h => by
    induction l with
    | nil => rfl
    | cons x l ih =>
      obtain ⟨r, rfl⟩ := h x (by simp)
      rw [List.filterMap_cons]
      show (List.filterMap _ l).length + 1 = _
      rw [ih fun y hy => h y (by simp [hy])]; rfl
  unfold setsD
  rw [h _ fun x hx => ?_, (isort_perm _).length_eq, List.length_map]
  · unfold subsD; rw [subGo_len]; simp
  · obtain ⟨r, hr, rfl⟩ := List.mem_map.mp ((isort_perm _).mem_iff.mp hx)
    exact ⟨r, rfl⟩
def spSets : FS := fun as q => ∃ (x : D) (ts : List D) (sh : Sh), as = [.d x] ∧ seqOf x = some ts ∧ ts.length ≤ 12 ∧ depSh sh ≤ 10 ∧ (∀ t ∈ ts, hasSh sh t = true) ∧ q (.lst (setsD ts)) .nw
theorem sets_loop {P : PEnds} {x0 x4 : Slot} : ∀ (ts : List D) (rows : List (List D)) (t2 : Slot), rows.length * 2 ^ ts.length ≤ 5000 → (∀ r ∈ rows, r.length + ts.length ≤ 100) →
    (∀ t2, P.nx [x0, .ow (.lst ((subGo ts rows).map .tup)), t2, .un, x4]) → wLoop (wgName 2) tSets_f1 P ts [x0, .ow (.lst (rows.map .tup)), t2, .un, x4]
  | [], rows, t2, _, _, h => h t2
  | t :: ts, rows, t2, hl, hr, h => by
    have hl' : (rows.length + rows.length) * 2 ^ ts.length ≤ 5000 := by
      rw [List.length_cons, Nat.pow_succ] at hl
      calc (rows.length + rows.length) * 2 ^ ts.length = rows.length * (2 ^ ts.length * 2) := by rw [Nat.mul_comm (2 ^ ts.length) 2, ← Nat.mul_assoc]; congr 1; omega
        _ ≤ 5000 := hl
    have h1 : rows.length + rows.length ≤ 5000 := Nat.le_trans (Nat.le_mul_of_pos_right _ (Nat.pow_pos (by decide))) hl'
    unfold wLoop tSets_f1
    simp (maxSteps := 4000000) only [wSeq, wAsg, wgN, wVar, wCon, wBin, wUn, wCl, wCons, wNil, wConsF, wTup, wLst, wTest, wIf, wFor, wiR1, wiR2, wgName, oB, toF, toN, wRet, wRetN, wNext, wDrop, wMut, fAppend, wPar, nCons, nNil, setAll, sl, wAugI, wAug, bAddI, bSub, bAdd, wAnd, wOr, wNot, wAndV, wOrV, wNotV, wBl, wIfE, wCall, xCons, xNil, xW, Kd.ret, wiF, wiO, seqOf, wgTup, wgCons, wgNil, wAsgT, wSlice, wPSome, wPNone, dSlice, bMul, bMod, bDiv, bPow, cInt, cAbs, cLen, cTuple, cList, cmpD, ozI, ozB, uNeg, wComp, wipeR, restR, wYes, wBreak, wCont, wLstRg, wTupRg, wRg1, wRg2, wExtend, bIs, bIsNot, isNonD, List.set_cons_zero, List.set_cons_succ, List.getElem?_cons_zero, List.getElem?_cons_succ, List.getD_cons_zero, List.getD_cons_succ, List.length_cons, List.length_nil, if_true, if_false, reduceCtorEq, ite_true, ite_false, and_true, true_and, rho0, VL.A.slot, List.map_cons, List.map_nil, List.cons_append, List.nil_append, List.replicate, Nat.add_eq, Nat.reduceAdd, Nat.reduceSub, Bool.false_eq_true, decide_eq_true_eq, Nat.zero_le, Nat.zero_add, lim1, lim2, lim3, lim4, lim5, lim6, lim7, lim8, Bool.not_true, Bool.not_false, decide_true, decide_false]
    refine comp_fn (fun d => match d with
      | .tup r => some (.tup (r ++ [t]))
      | _ => none) _ (by rw [List.length_map]; unfold LIM; omega) (fun x hx K hK => ?_) ?_
    · obtain ⟨r, hr', rfl⟩ := List.mem_map.mp hx
      have := hr r hr'
      unfold tSets_c1
      simp (maxSteps := 4000000) only [wSeq, wAsg, wgN, wVar, wCon, wBin, wUn, wCl, wCons, wNil, wConsF, wTup, wLst, wTest, wIf, wFor, wiR1, wiR2, wgName, oB, toF, toN, wRet, wRetN, wNext, wDrop, wMut, fAppend, wPar, nCons, nNil, setAll, sl, wAugI, wAug, bAddI, bSub, bAdd, wAnd, wOr, wNot, wAndV, wOrV, wNotV, wBl, wIfE, wCall, xCons, xNil, xW, Kd.ret, wiF, wiO, seqOf, wgTup, wgCons, wgNil, wAsgT, wSlice, wPSome, wPNone, dSlice, bMul, bMod, bDiv, bPow, cInt, cAbs, cLen, cTuple, cList, cmpD, ozI, ozB, uNeg, wComp, wipeR, restR, wYes, wBreak, wCont, wLstRg, wTupRg, wRg1, wRg2, wExtend, bIs, bIsNot, isNonD, List.set_cons_zero, List.set_cons_succ, List.getElem?_cons_zero, List.getElem?_cons_succ, List.getD_cons_zero, List.getD_cons_succ, List.length_cons, List.length_nil, if_true, if_false, reduceCtorEq, ite_true, ite_false, and_true, true_and, rho0, VL.A.slot, List.map_cons, List.map_nil, List.cons_append, List.nil_append, List.replicate, Nat.add_eq, Nat.reduceAdd, Nat.reduceSub, Bool.false_eq_true, decide_eq_true_eq, Nat.zero_le, Nat.zero_add, lim1, lim2, lim3, lim4, lim5, lim6, lim7, lim8, Bool.not_true, Bool.not_false, decide_true, decide_false]
      have h2 : r.length + 1 ≤ LIM := by unfold LIM; simp at this; omega
      simp only [h2, if_true]
      exact hK
    · have e : (List.filterMap (fun d => match d with
          | D.tup r => some (D.tup (r ++ [t]))
          | _ => none) (rows.map .tup)) = (rows.map (· ++ [t])).map .tup := by
        rw [List.filterMap_map, List.map_map]
        rw [← List.filterMap_eq_map]
        rfl
      rw [e]
      have h2 : (rows.map D.tup).length + ((rows.map (· ++ [t])).map D.tup).length ≤ LIM := by simp; unfold LIM; omega
      simp (maxSteps := 4000000) only [wSeq, wAsg, wgN, wVar, wCon, wBin, wUn, wCl, wCons, wNil, wConsF, wTup, wLst, wTest, wIf, wFor, wiR1, wiR2, wgName, oB, toF, toN, wRet, wRetN, wNext, wDrop, wMut, fAppend, wPar, nCons, nNil, setAll, sl, wAugI, wAug, bAddI, bSub, bAdd, wAnd, wOr, wNot, wAndV, wOrV, wNotV, wBl, wIfE, wCall, xCons, xNil, xW, Kd.ret, wiF, wiO, seqOf, wgTup, wgCons, wgNil, wAsgT, wSlice, wPSome, wPNone, dSlice, bMul, bMod, bDiv, bPow, cInt, cAbs, cLen, cTuple, cList, cmpD, ozI, ozB, uNeg, wComp, wipeR, restR, wYes, wBreak, wCont, wLstRg, wTupRg, wRg1, wRg2, wExtend, bIs, bIsNot, isNonD, List.set_cons_zero, List.set_cons_succ, List.getElem?_cons_zero, List.getElem?_cons_succ, List.getD_cons_zero, List.getD_cons_succ, List.length_cons, List.length_nil, if_true, if_false, reduceCtorEq, ite_true, ite_false, and_true, true_and, rho0, VL.A.slot, List.map_cons, List.map_nil, List.cons_append, List.nil_append, List.replicate, Nat.add_eq, Nat.reduceAdd, Nat.reduceSub, Bool.false_eq_true, decide_eq_true_eq, Nat.zero_le, Nat.zero_add, lim1, lim2, lim3, lim4, lim5, lim6, lim7, lim8, Bool.not_true, Bool.not_false, decide_true, decide_false, h2]
      rw [← List.map_append]
      refine sets_loop ts _ _ (by simpa using hl') (fun r hr' => ?_) h
      rcases List.mem_append.mp hr' with h3 | h3
      · have := hr r h3; simp at this; omega
      · obtain ⟨c, hc, rfl⟩ := List.mem_map.mp h3
        have := hr c hc; simp at this ⊢; omega
theorem pair_sh {sh : Sh} {r ts : List D} (h : ∀ t ∈ ts, hasSh sh t = true) (hs : r.Sublist ts) : hasSh (.prod [.int, .seq sh]) (pairD r) = true := by
  unfold pairD
  simp only [hasSh, hasPr, Bool.true_and, Bool.and_true, List.all_eq_true]
  exact fun x hx => h x (hs.subset hx)
theorem sets_pure (as : List VL.A) (q : D → Kd → Prop) (h : spSets as q) : as.length = 1 ∧ tSets ⟨fun _ => q .non .fz, q, fun _ => False, fun _ => False⟩ (rho0 5 as) := by
  obtain ⟨x, ts, sh, rfl, hx, h1, h2, h3, hq⟩ := h
  refine ⟨rfl, ?_⟩
  unfold tSets
  simp (maxSteps := 4000000) only [wSeq, wAsg, wgN, wVar, wCon, wBin, wUn, wCl, wCons, wNil, wConsF, wTup, wLst, wTest, wIf, wFor, wiR1, wiR2, wgName, oB, toF, toN, wRet, wRetN, wNext, wDrop, wMut, fAppend, wPar, nCons, nNil, setAll, sl, wAugI, wAug, bAddI, bSub, bAdd, wAnd, wOr, wNot, wAndV, wOrV, wNotV, wBl, wIfE, wCall, xCons, xNil, xW, Kd.ret, wiF, wiO, seqOf, wgTup, wgCons, wgNil, wAsgT, wSlice, wPSome, wPNone, dSlice, bMul, bMod, bDiv, bPow, cInt, cAbs, cLen, cTuple, cList, cmpD, ozI, ozB, uNeg, wComp, wipeR, restR, wYes, wBreak, wCont, wLstRg, wTupRg, wRg1, wRg2, wExtend, bIs, bIsNot, isNonD, List.set_cons_zero, List.set_cons_succ, List.getElem?_cons_zero, List.getElem?_cons_succ, List.getD_cons_zero, List.getD_cons_succ, List.length_cons, List.length_nil, if_true, if_false, reduceCtorEq, ite_true, ite_false, and_true, true_and, rho0, VL.A.slot, List.map_cons, List.map_nil, List.cons_append, List.nil_append, List.replicate, Nat.add_eq, Nat.reduceAdd, Nat.reduceSub, Bool.false_eq_true, decide_eq_true_eq, Nat.zero_le, Nat.zero_add, lim1, lim2, lim3, lim4, lim5, lim6, lim7, lim8, Bool.not_true, Bool.not_false, decide_true, decide_false]
  unfold seqOf at hx
  rw [hx]
  have hp : 2 ^ ts.length ≤ 4096 := Nat.le_trans (Nat.pow_le_pow_right (by decide) h1) (by decide)
  show wLoop (wgName 2) tSets_f1 _ ts [.fz x, .ow (.lst (([[]] : List (List D)).map .tup)), .un, .un, .un]
  refine sets_loop ts _ _ (by simp; omega) (by simp; omega) fun t2 => ?_
  simp (maxSteps := 4000000) only [wSeq, wAsg, wgN, wVar, wCon, wBin, wUn, wCl, wCons, wNil, wConsF, wTup, wLst, wTest, wIf, wFor, wiR1, wiR2, wgName, oB, toF, toN, wRet, wRetN, wNext, wDrop, wMut, fAppend, wPar, nCons, nNil, setAll, sl, wAugI, wAug, bAddI, bSub, bAdd, wAnd, wOr, wNot, wAndV, wOrV, wNotV, wBl, wIfE, wCall, xCons, xNil, xW, Kd.ret, wiF, wiO, seqOf, wgTup, wgCons, wgNil, wAsgT, wSlice, wPSome, wPNone, dSlice, bMul, bMod, bDiv, bPow, cInt, cAbs, cLen, cTuple, cList, cmpD, ozI, ozB, uNeg, wComp, wipeR, restR, wYes, wBreak, wCont, wLstRg, wTupRg, wRg1, wRg2, wExtend, bIs, bIsNot, isNonD, List.set_cons_zero, List.set_cons_succ, List.getElem?_cons_zero, List.getElem?_cons_succ, List.getD_cons_zero, List.getD_cons_succ, List.length_cons, List.length_nil, if_true, if_false, reduceCtorEq, ite_true, ite_false, and_true, true_and, rho0, VL.A.slot, List.map_cons, List.map_nil, List.cons_append, List.nil_append, List.replicate, Nat.add_eq, Nat.reduceAdd, Nat.reduceSub, Bool.false_eq_true, decide_eq_true_eq, Nat.zero_le, Nat.zero_add, lim1, lim2, lim3, lim4, lim5, lim6, lim7, lim8, Bool.not_true, Bool.not_false, decide_true, decide_false]
  have hl : (subsD ts).length ≤ 4096 := by unfold subsD; rw [subGo_len]; simpa using hp
  refine comp_fn (fun d => match d with
      | .tup r => some (pairD r)
      | _ => none) _ (by rw [List.length_map]; unfold LIM; exact Nat.le_trans hl (by decide)) (fun x hx K hK => ?_) ?_
  · obtain ⟨r, hr', rfl⟩ := List.mem_map.mp hx
    unfold tSets_c2
    simp (maxSteps := 4000000) only [wSeq, wAsg, wgN, wVar, wCon, wBin, wUn, wCl, wCons, wNil, wConsF, wTup, wLst, wTest, wIf, wFor, wiR1, wiR2, wgName, oB, toF, toN, wRet, wRetN, wNext, wDrop, wMut, fAppend, wPar, nCons, nNil, setAll, sl, wAugI, wAug, bAddI, bSub, bAdd, wAnd, wOr, wNot, wAndV, wOrV, wNotV, wBl, wIfE, wCall, xCons, xNil, xW, Kd.ret, wiF, wiO, seqOf, wgTup, wgCons, wgNil, wAsgT, wSlice, wPSome, wPNone, dSlice, bMul, bMod, bDiv, bPow, cInt, cAbs, cLen, cTuple, cList, cmpD, ozI, ozB, uNeg, wComp, wipeR, restR, wYes, wBreak, wCont, wLstRg, wTupRg, wRg1, wRg2, wExtend, bIs, bIsNot, isNonD, List.set_cons_zero, List.set_cons_succ, List.getElem?_cons_zero, List.getElem?_cons_succ, List.getD_cons_zero, List.getD_cons_succ, List.length_cons, List.length_nil, if_true, if_false, reduceCtorEq, ite_true, ite_false, and_true, true_and, rho0, VL.A.slot, List.map_cons, List.map_nil, List.cons_append, List.nil_append, List.replicate, Nat.add_eq, Nat.reduceAdd, Nat.reduceSub, Bool.false_eq_true, decide_eq_true_eq, Nat.zero_le, Nat.zero_add, lim1, lim2, lim3, lim4, lim5, lim6, lim7, lim8, Bool.not_true, Bool.not_false, decide_true, decide_false]
    exact hK
  · have e : (List.filterMap (fun d => match d with
          | D.tup r => some (pairD r)
          | _ => none) ((subsD ts).map .tup)) = (subsD ts).map pairD := by
        rw [List.filterMap_map, ← List.filterMap_eq_map]
        rfl
    unfold subsD at e
    rw [e]
    simp (maxSteps := 4000000) only [wSeq, wAsg, wgN, wVar, wCon, wBin, wUn, wCl, wCons, wNil, wConsF, wTup, wLst, wTest, wIf, wFor, wiR1, wiR2, wgName, oB, toF, toN, wRet, wRetN, wNext, wDrop, wMut, fAppend, wPar, nCons, nNil, setAll, sl, wAugI, wAug, bAddI, bSub, bAdd, wAnd, wOr, wNot, wAndV, wOrV, wNotV, wBl, wIfE, wCall, xCons, xNil, xW, Kd.ret, wiF, wiO, seqOf, wgTup, wgCons, wgNil, wAsgT, wSlice, wPSome, wPNone, dSlice, bMul, bMod, bDiv, bPow, cInt, cAbs, cLen, cTuple, cList, cmpD, ozI, ozB, uNeg, wComp, wipeR, restR, wYes, wBreak, wCont, wLstRg, wTupRg, wRg1, wRg2, wExtend, bIs, bIsNot, isNonD, List.set_cons_zero, List.set_cons_succ, List.getElem?_cons_zero, List.getElem?_cons_succ, List.getD_cons_zero, List.getD_cons_succ, List.length_cons, List.length_nil, if_true, if_false, reduceCtorEq, ite_true, ite_false, and_true, true_and, rho0, VL.A.slot, List.map_cons, List.map_nil, List.cons_append, List.nil_append, List.replicate, Nat.add_eq, Nat.reduceAdd, Nat.reduceSub, Bool.false_eq_true, decide_eq_true_eq, Nat.zero_le, Nat.zero_add, lim1, lim2, lim3, lim4, lim5, lim6, lim7, lim8, Bool.not_true, Bool.not_false, decide_true, decide_false, wClP]
    refine ⟨_, _, ⟨_, .prod [.int, .seq sh], rfl, ⟨by simp [depSh, depShs]; omega, fun d hd => ?_⟩, rfl, rfl⟩, ?_⟩
    · obtain ⟨r, hr, rfl⟩ := List.mem_map.mp hd
      exact ⟨pair_sh h3 (subsD_mem.mp hr), rfl⟩
    · simp (maxSteps := 4000000) only [wSeq, wAsg, wgN, wVar, wCon, wBin, wUn, wCl, wCons, wNil, wConsF, wTup, wLst, wTest, wIf, wFor, wiR1, wiR2, wgName, oB, toF, toN, wRet, wRetN, wNext, wDrop, wMut, fAppend, wPar, nCons, nNil, setAll, sl, wAugI, wAug, bAddI, bSub, bAdd, wAnd, wOr, wNot, wAndV, wOrV, wNotV, wBl, wIfE, wCall, xCons, xNil, xW, Kd.ret, wiF, wiO, seqOf, wgTup, wgCons, wgNil, wAsgT, wSlice, wPSome, wPNone, dSlice, bMul, bMod, bDiv, bPow, cInt, cAbs, cLen, cTuple, cList, cmpD, ozI, ozB, uNeg, wComp, wipeR, restR, wYes, wBreak, wCont, wLstRg, wTupRg, wRg1, wRg2, wExtend, bIs, bIsNot, isNonD, List.set_cons_zero, List.set_cons_succ, List.getElem?_cons_zero, List.getElem?_cons_succ, List.getD_cons_zero, List.getD_cons_succ, List.length_cons, List.length_nil, if_true, if_false, reduceCtorEq, ite_true, ite_false, and_true, true_and, rho0, VL.A.slot, List.map_cons, List.map_nil, List.cons_append, List.nil_append, List.replicate, Nat.add_eq, Nat.reduceAdd, Nat.reduceSub, Bool.false_eq_true, decide_eq_true_eq, Nat.zero_le, Nat.zero_add, lim1, lim2, lim3, lim4, lim5, lim6, lim7, lim8, Bool.not_true, Bool.not_false, decide_true, decide_false]
      refine comp_fn (fun d => match d with
        | .tup [_, r] => some r
        | _ => none) _ (by rw [(isort_perm _).length_eq, List.length_map]; unfold LIM; exact Nat.le_trans hl (by decide)) (fun x hx K hK => ?_) ?_
      · obtain ⟨r, hr, rfl⟩ := List.mem_map.mp ((isort_perm _).mem_iff.mp hx)
        unfold pairD
        simp (maxSteps := 4000000) only [wSeq, wAsg, wgN, wVar, wCon, wBin, wUn, wCl, wCons, wNil, wConsF, wTup, wLst, wTest, wIf, wFor, wiR1, wiR2, wgName, oB, toF, toN, wRet, wRetN, wNext, wDrop, wMut, fAppend, wPar, nCons, nNil, setAll, sl, wAugI, wAug, bAddI, bSub, bAdd, wAnd, wOr, wNot, wAndV, wOrV, wNotV, wBl, wIfE, wCall, xCons, xNil, xW, Kd.ret, wiF, wiO, seqOf, wgTup, wgCons, wgNil, wAsgT, wSlice, wPSome, wPNone, dSlice, bMul, bMod, bDiv, bPow, cInt, cAbs, cLen, cTuple, cList, cmpD, ozI, ozB, uNeg, wComp, wipeR, restR, wYes, wBreak, wCont, wLstRg, wTupRg, wRg1, wRg2, wExtend, bIs, bIsNot, isNonD, List.set_cons_zero, List.set_cons_succ, List.getElem?_cons_zero, List.getElem?_cons_succ, List.getD_cons_zero, List.getD_cons_succ, List.length_cons, List.length_nil, if_true, if_false, reduceCtorEq, ite_true, ite_false, and_true, true_and, rho0, VL.A.slot, List.map_cons, List.map_nil, List.cons_append, List.nil_append, List.replicate, Nat.add_eq, Nat.reduceAdd, Nat.reduceSub, Bool.false_eq_true, decide_eq_true_eq, Nat.zero_le, Nat.zero_add, lim1, lim2, lim3, lim4, lim5, lim6, lim7, lim8, Bool.not_true, Bool.not_false, decide_true, decide_false]
        exact hK
      · exact hq
end VL

namespace VL
open PySem PySem.Spec PyProof.Rows L2
open Evl (Ex)
/-! ### a comprehension within a comprehension -/
/-- its block's names, by the outer block's -/
def relS (scope sc : Scope) : Scope :=
  { scope with names := scope.names.map fun p => if (p.2 == .free && sc.kind == .function && sc.names.lookup p.1 == some .cell) = true then (p.1, .cell) else p }
theorem relS_eq {scope sc : Scope} {cl : List (Str × Addr)} {C : Addr} {env : Env} (he : env.scope = sc) : (compEnvC scope cl C env).scope = relS scope sc := by
  subst he
  rfl
theorem blkOk_in {N : List Str} {sc scope inner : Scope} {own : List (Str × Nat)} {env : Env} {cl : List (Str × Addr)} {C : Addr} (he : env.scope = sc) (h : blkC N (relS scope sc) inner own = true) : BlkOk N (compEnvC scope cl C env).scope inner own := by
  rw [relS_eq he]
  exact blkOk_by h
/-! ### xs[i] = v -/
def lputD (d k v : D) : Option D := match d, k with
  | .lst xs, .int i => (ixN xs.length i).map fun j => .lst (xs.set j v)
  | _, _ => none
def wLPut (j : Nat) (wk wv : WE) : WS := fun P ρ => wv ρ (toF fun v ρ1 => (∃ d, ρ1[j]? = some (.ow d)) ∧ wk ρ1 fun k _ ρ2 => match ρ2[j]? with
  | some (.ow d) => match lputD d k v with
    | some z => P.nx (ρ2.set j (.ow z))
    | none => False
  | _ => False)
variable {K : PySem.W.Frag}
theorem snd_lput {j : Nat} {tk tv : TE} {wk wv : WE} (hk : SndE K tk wk) (hv : SndE K tv wv) : SndS K (tAsg tv (gSub (tVar j) tk rSetL)) (wLPut j wk wv) := fun b P E G ρ σ H e s hq => by
  refine hv b G ρ σ H _ _ s hq fun d kd ρ1 v G1 H1 q1 x1 s1 r1 => ?_
  refine frozen (R := fun v H' => gSub (tVar j) tk rSetL v σ H' E.nx) q1 x1 s s1 r1 fun d ρ1 v G1 q1 x1 s1 r1 => ?_
  obtain ⟨⟨d0, e0⟩, q1⟩ := q1
  obtain ⟨a, h1, _⟩ := s1.ow j d0 e0
  refine ⟨_, h1, ?_⟩
  refine hk b G1 ρ1 σ H1 _ _ s1 q1 fun k kk ρ2 u G2 H2 q2 x2 s2 r2 => ?_
  have ok := r2.ov s2
  split at q2
  · rename_i dd e2
    split at q2
    · rename_i z ez
      obtain ⟨a', c1, c2, c3, c4, c5⟩ := s2.ow j dd e2
      rw [h1] at c1; cases c1
      have rv := r1.mono x2.g
      unfold lputD at ez
      split at ez
      · rename_i xs i
        obtain ⟨vs, c6, c7⟩ := c5
        obtain rfl := ov_int ok
        cases hi : ixN xs.length i with
        | none => rw [hi] at ez; cases ez
        | some n =>
          rw [hi] at ez; cases ez
          refine ⟨a, vs, i, n, rfl, rfl, c6, by rw [c7.length]; exact hi, ?_⟩
          exact e.nx _ σ G2 _ q2 (s2.put e2 h1 ⟨_, upd_same, RpL.set rv n c7⟩)
      · cases ez
    · exact q2.elim
  · exact q2.elim
section
variable {X : Cx} {e a b c : Expr} {te ta tb : TE} {t u : WE} {pos : Pos}
theorem s_lput (j : Nat) {n : Str} {np pos' : Pos} (hk : SE X b tb u) (hv : SE X a ta t) (hN : X.N[j]? = some n := by rfl) (hv' : Vis X.env.scope n := by first | exact Or.inl rfl | exact Or.inr (Or.inl rfl) | exact Or.inr (Or.inr rfl)) (hd : (n == ("__debug__" : Str)) = false := by decide) (hcd : (n == ("__classdict__" : Str)) = false := by decide)
    (hs : swapsWithSole [.Subscript (.Name n np) b pos'] a pos.line X.env = pure false := by rfl) (hw : swappedStores [.Subscript (.Name n np) b pos'] a X.env = pure none := by rfl)
    (h1 : (assignEach [.Subscript (.Name n np) b pos'] X.env).map (·.2) = [assign (.Subscript (.Name n np) b pos') X.env] := by rfl)
    (ha : ∀ v, assign (.Subscript (.Name n np) b pos') X.env v = (do
      let ov ← holding [v] (eval (.Name n np) X.env)
      let iv ← holding [v, ov] (eval b X.env)
      standAt pos'
      holding [v, ov, iv] (setItem ov iv v)
      release [v, ov, iv] []) := by intro _; rfl) : SS X (.Assign [.Subscript (.Name n np) b pos'] a pos) (tAsg ta (gSub (tVar j) tb rSetL)) (wLPut j u t) :=
  ⟨ps_asg hv.pe (pg_sub (pe_var hN hv' hd hcd) hk.pe set_list ha) hs hw h1, snd_lput hk.snd hv.snd⟩
end
end VL

namespace VL
open PySem PySem.Spec PyProof.Rows L2
open Evl (Ex)
/-! ### more of the pure library -/
/-- data that == may be asked of and is equality on -/
def Gd (n : Nat) (d : D) : Prop := okE n d = true ∧ pl d = true
theorem Gd.int {n : Nat} {i : Int} : Gd n (.int i) := ⟨okE_int, rfl⟩
theorem Gd.non {n : Nat} : Gd n .non := ⟨by simp [okE], rfl⟩
theorem Gd.str {n : Nat} {s : Str} (h : s.cps.all (· < 0x110000) = true) : Gd n (.str s) := ⟨by simpa [okE] using h, rfl⟩
theorem Gd.tup {n : Nat} {xs : List D} (h : ∀ x ∈ xs, Gd n x) : Gd (n + 1) (.tup xs) := ⟨by rw [okE_tup, okEs_all]; exact fun x hx => (h x hx).1, by unfold pl; rw [pls_all]; exact fun x hx => (h x hx).2⟩
theorem Gd.lst {n : Nat} {xs : List D} (h : ∀ x ∈ xs, Gd n x) : Gd (n + 1) (.lst xs) := ⟨by rw [okE_lst, okEs_all]; exact fun x hx => (h x hx).1, by unfold pl; rw [pls_all]; exact fun x hx => (h x hx).2⟩
theorem Gd.tI {n : Nat} {xs : List Int} : Gd (n + 1) (tI xs) := ⟨okE_tI, pl_tI⟩
theorem Gd.up {n m : Nat} (hm : n ≤ m) {d : D} (h : Gd n d) : Gd m d := by
  obtain ⟨h1, h2⟩ := h
  refine ⟨?_, h2⟩
  clear h2
  have key : ∀ (n : Nat), (∀ (m : Nat) (d : D), n ≤ m → okE n d = true → okE m d = true) := fun n => by
    induction n with
    | zero =>
      intro m d hm h
      cases d <;> simp [okE] at h ⊢
      exact h
    | succ n ih =>
      intro m d hm h
      obtain ⟨m, rfl⟩ : ∃ k, m = k + 1 := ⟨m - 1, by omega⟩
      have hm : n ≤ m := by omega
      cases d <;> simp only [okE] at h ⊢ <;> first | exact h | (rw [okEs_all] at h ⊢; exact fun x hx => ih m x hm (h x hx)) | skip
      all_goals simp [okE] at h
  exact key n m d hm h1
theorem bEq_gd {n m : Nat} {a b : D} (h1 : Gd n a) (h2 : Gd m b) {p : Prop} [Decidable p] (h : a = b ↔ p) (hn : n ≤ 20 := by decide) (hm : m ≤ 20 := by decide) : bEq a b = ozB (decide p) := bEq_pl (h1.up hn).1 (h2.up hm).1 h1.2 h2.2 h
theorem bNe_gd {n m : Nat} {a b : D} (h1 : Gd n a) (h2 : Gd m b) {p : Prop} [Decidable p] (h : a = b ↔ p) (hn : n ≤ 20 := by decide) (hm : m ≤ 20 := by decide) : bNe a b = ozB (!decide p) := bNe_pl (h1.up hn).1 (h2.up hm).1 h1.2 h2.2 h
/-- pairs of ints -/
def pI (p : Int × Int) : D := .tup [.int p.1, .int p.2]
theorem pI_inj {a b : Int × Int} (h : pI a = pI b) : a = b := by
  unfold pI at h
  simp only [D.tup.injEq, List.cons.injEq, D.int.injEq, and_true] at h
  exact Prod.ext h.1 h.2
theorem Gd.pI {n : Nat} {a : Int × Int} : Gd (n + 1) (pI a) := .tup fun x hx => by
  simp at hx; rcases hx with rfl | rfl <;> exact .int
theorem map_inj {α : Type} {f : α → D} (hf : ∀ a b, f a = f b → a = b) : ∀ {xs ys : List α}, xs.map f = ys.map f → xs = ys
  | [], [], _ => rfl
  | [], _ :: _, h => by simp at h
  | _ :: _, [], h => by simp at h
  | x :: xs, y :: ys, h => by
    simp only [List.map_cons, List.cons.injEq] at h
    rw [hf _ _ h.1, map_inj hf h.2]
theorem Gd.map {α : Type} {f : α → D} {n : Nat} (hf : ∀ a, Gd n (f a)) (xs : List α) : Gd (n + 1) (.tup (xs.map f)) := .tup fun x hx => by
  obtain ⟨a, _, rfl⟩ := List.mem_map.mp hx; exact hf a
theorem Gd.mapL {α : Type} {f : α → D} {n : Nat} (hf : ∀ a, Gd n (f a)) (xs : List α) : Gd (n + 1) (.lst (xs.map f)) := .lst fun x hx => by
  obtain ⟨a, _, rfl⟩ := List.mem_map.mp hx; exact hf a
theorem PF.sub {R : D → Option D → Prop} (hp : ∀ x d, R x (Option.some d) → d = x) : ∀ {xs ds : List D}, PF R xs ds → ds.Sublist xs
  | _, _, .nil => .slnil
  | _, _, .some h r => by
    obtain rfl := hp _ _ h
    exact (PF.sub hp r).cons_cons _
  | _, _, .none h r => (PF.sub hp r).cons _
/-- all sublists -/
def subI : List Int → List (List Int)
  | [] => [[]]
  | x :: xs => subI xs ++ (subI xs).map (x :: ·)
theorem subI_mem : ∀ {xs r : List Int}, r.Sublist xs → r ∈ subI xs
  | [], r, h => by rw [List.sublist_nil.mp h]; simp [subI]
  | x :: xs, r, h => by
    unfold subI
    cases h with
    | cons _ h => exact List.mem_append.mpr (.inl (subI_mem h))
    | cons_cons _ h => exact List.mem_append.mpr (.inr (List.mem_map.mpr ⟨_, subI_mem h, rfl⟩))
theorem subI_sub : ∀ {xs r : List Int}, r ∈ subI xs → r.Sublist xs
  | [], r, h => by simp [subI] at h; rw [h]; exact .slnil
  | x :: xs, r, h => by
    unfold subI at h
    rcases List.mem_append.mp h with h | h
    · exact (subI_sub h).cons x
    · obtain ⟨s, hs, rfl⟩ := List.mem_map.mp h
      exact (subI_sub hs).cons_cons x
theorem fdiv_nn {a b : Int} (ha : 0 ≤ a) (hb : 0 ≤ b) : a.fdiv b = a / b := Int.fdiv_eq_ediv_of_nonneg a hb
theorem fdiv_nn' {a b : Int} (hb : 0 ≤ b) : a.fdiv b = a / b := Int.fdiv_eq_ediv_of_nonneg a hb
theorem fmod_nn {a b : Int} (hb : 0 ≤ b) : a.fmod b = a % b := Int.fmod_eq_emod_of_nonneg a hb
theorem minDD_spec {sh : Sh} : ∀ (xs : List D) (x : D), hasSh sh x = true → (∀ d ∈ xs, hasSh sh d = true) → minDD x xs ∈ x :: xs ∧ ∀ y ∈ x :: xs, dlt y (minDD x xs) = false
  | [], x, hx, _ => ⟨by simp [minDD], fun y hy => by
      obtain rfl := List.mem_singleton.mp hy
      exact (sh_ord sh).irr _ hx⟩
  | z :: xs, x, hx, h => by
    have hz := h z (by simp)
    have O := sh_ord sh
    unfold minDD
    rw [List.foldl_cons]
    by_cases c : dlt z x = true
    · rw [if_pos c]
      obtain ⟨a, b⟩ := minDD_spec xs z hz fun d hd => h d (by simp [hd])
      unfold minDD at a b
      refine ⟨by simp at a ⊢; exact .inr a, fun y hy => ?_⟩
      rcases List.mem_cons.mp hy with rfl | hy
      · have hm : hasSh sh (List.foldl (fun a y => if dlt y a = true then y else a) z xs) = true := by
          rcases List.mem_cons.mp a with e | e
          · rw [e]; exact hz
          · exact h _ (by simp [e])
        cases q : dlt y (List.foldl (fun a y => if dlt y a = true then y else a) z xs) with
        | false => rfl
        | true =>
          have t := O.tr _ _ _ hz hx hm c q
          rw [b z (by simp)] at t; cases t
      · exact b y hy
    · rw [if_neg c]
      obtain ⟨a, b⟩ := minDD_spec xs x hx fun d hd => h d (by simp [hd])
      unfold minDD at a b
      refine ⟨by simp at a ⊢; rcases a with a | a <;> simp [a], fun y hy => ?_⟩
      rcases List.mem_cons.mp hy with rfl | hy
      · exact b _ (by simp)
      · rcases List.mem_cons.mp hy with rfl | hy
        · have hm : hasSh sh (List.foldl (fun a y => if dlt y a = true then y else a) x xs) = true := by
            rcases List.mem_cons.mp a with e | e
            · rw [e]; exact hx
            · exact h _ (by simp [e])
          cases q : dlt y (List.foldl (fun a y => if dlt y a = true then y else a) x xs) with
          | false => rfl
          | true =>
            have bx := b x (by simp)
            rcases O.tot x (List.foldl (fun a y => if dlt y a = true then y else a) x xs) hx hm with t | t | t
            · rw [bx] at t; cases t
            · rw [← t] at q; exact absurd q c
            · exact absurd (O.tr _ _ _ hz hm hx q t) c
        · exact b y (by simp [hy])
/-- min of ints: by a least one -/
theorem cMin_ints {xs : List Int} {m : Int} (hm : m ∈ xs) (h : ∀ x ∈ xs, m ≤ x) : cMin [.lst (xs.map .int)] = ozI m := by
  cases xs with
  | nil => cases hm
  | cons a as =>
    have hs : ∀ d ∈ as.map D.int, hasSh .int d = true := fun d hd => by obtain ⟨i, _, rfl⟩ := List.mem_map.mp hd; rfl
    have ho : allOrd ((a :: as).map .int) = true := allOrd_sh (sh := .int) (by decide) fun d hd => by obtain ⟨i, _, rfl⟩ := List.mem_map.mp hd; rfl
    show (if allOrd ((a :: as).map .int) = true then some (minDD (.int a) (as.map .int), Kd.fz) else none) = _
    rw [if_pos ho]
    obtain ⟨m1, m2⟩ := minDD_spec (sh := .int) (as.map .int) (.int a) rfl hs
    have m1' : minDD (.int a) (as.map .int) ∈ (a :: as).map D.int := m1
    obtain ⟨c, hc, ec⟩ := List.mem_map.mp m1'
    rw [← ec] at m2 ⊢
    have h1 := m2 (.int m) (show D.int m ∈ (a :: as).map D.int from List.mem_map.mpr ⟨m, hm, rfl⟩)
    have h2 : ¬ m < c := of_decide_eq_false (by simpa [dlt] using h1)
    have h3 := h c hc
    have : c = m := by omega
    rw [this]; rfl
/-- a comprehension over images -/
theorem comp_mpA {α : Type} {g : WG} {tt : WT} {t : WE} {vs : List Nat} {ρ : Rho} (e : α → D) (f : α → Option D) {Q : List D → Rho → Prop} : ∀ (l : List α) (acc : List D), acc.length + l.length ≤ LIM →
    (hs : ∀ a ∈ l, ∀ K : Option D → Rho → Prop, K (f a) ρ → g (e a) ρ fun ρ1 => tt ρ1 fun c ρ2 => if c = true then t ρ2 (toF fun d ρ3 => K (some d) (wipeR ρ3 vs)) else K none (wipeR ρ2 vs)) →
    Q (acc ++ l.filterMap f) ρ → wCompL g tt t vs (l.map e) acc ρ Q
  | [], acc, hl, hs, h => by
    rw [List.filterMap_nil, List.append_nil] at h
    exact h
  | x :: xs, acc, hl, hs, h => by
    refine hs x (by simp) (fun o ρ' => match o with
      | some d => acc.length < LIM ∧ wCompL g tt t vs (xs.map e) (acc ++ [d]) ρ' Q
      | none => wCompL g tt t vs (xs.map e) acc ρ' Q) ?_
    have hl' : acc.length + xs.length + 1 ≤ LIM := by simpa [Nat.add_assoc] using hl
    cases hf : f x with
    | none =>
      rw [List.filterMap_cons_none hf] at h
      exact comp_mpA e f xs acc (by omega) (fun y hy => hs y (by simp [hy])) h
    | some d =>
      rw [List.filterMap_cons_some hf] at h
      exact ⟨by omega, comp_mpA e f xs (acc ++ [d]) (by simp; omega) (fun y hy => hs y (by simp [hy])) (by rw [List.append_assoc]; exact h)⟩
theorem comp_mp {α : Type} {g : WG} {tt : WT} {t : WE} {vs : List Nat} {ρ : Rho} (e : α → D) (f : α → Option D) {Q : List D → Rho → Prop} (l : List α) (hl : l.length ≤ LIM)
    (hs : ∀ a ∈ l, ∀ K : Option D → Rho → Prop, K (f a) ρ → g (e a) ρ fun ρ1 => tt ρ1 fun c ρ2 => if c = true then t ρ2 (toF fun d ρ3 => K (some d) (wipeR ρ3 vs)) else K none (wipeR ρ2 vs))
    (h : Q (l.filterMap f) ρ) : wCompL g tt t vs (l.map e) [] ρ Q := comp_mpA e f l [] (by simpa using hl) hs (by simpa using h)
theorem sub_ints {ds : List D} {l : List Int} (h : ds.Sublist (l.map .int)) : ∃ g : List Int, ds = g.map .int ∧ g.Sublist l := by
  obtain ⟨g, h1, h2⟩ := List.sublist_map_iff.mp h
  exact ⟨g, h2, h1⟩
/-- all sets of some ints -/
theorem sets_of (ts : List Int) : ∃ Ls : List (List Int), setsD (ts.map .int) = Ls.map tI ∧ (∀ R, R ∈ Ls ↔ R.Sublist ts) ∧ Ls.length = 2 ^ ts.length := by
  have h : ∀ l : List D, (∀ d ∈ l, ∃ R : List Int, d = tI R) → ∃ Ls : List (List Int), l = Ls.map tI := fun l h => by
    induction l with
    | nil => exact ⟨[], rfl⟩
    | cons d l ih =>
      obtain ⟨R, rfl⟩ := h d (by simp)
      obtain ⟨Ls, rfl⟩ := ih fun d hd => h d (by simp [hd])
      exact ⟨R :: Ls, rfl⟩
  have inv : ∀ d, d ∈ setsD (ts.map .int) ↔ ∃ R : List Int, R.Sublist ts ∧ d = tI R := fun d => by
    rw [setsD_mem]
    constructor
    · rintro ⟨r, hr, rfl⟩
      obtain ⟨R, hR, rfl⟩ := List.sublist_map_iff.mp hr
      exact ⟨R, hR, rfl⟩
    · rintro ⟨R, hR, rfl⟩
      exact ⟨R.map .int, hR.map _, rfl⟩
  obtain ⟨Ls, e⟩ := h _ fun d hd => by
    obtain ⟨R, _, e⟩ := (inv d).mp hd
    exact ⟨R, e⟩
  refine ⟨Ls, e, fun R => ?_, ?_⟩
  · constructor
    · intro hR
      have : tI R ∈ setsD (ts.map .int) := by rw [e]; exact List.mem_map.mpr ⟨R, hR, rfl⟩
      obtain ⟨R', h1, h2⟩ := (inv _).mp this
      rw [tI_inj h2]; exact h1
    · intro hR
      have : tI R ∈ setsD (ts.map .int) := (inv _).mpr ⟨R, hR, rfl⟩
      rw [e] at this
      obtain ⟨R', h1, h2⟩ := List.mem_map.mp this
      rw [← tI_inj h2]; exact h1
  · have := setsD_len (ts := ts.map .int)
    rw [e, List.length_map, List.length_map] at this
    exact this
theorem ixN_last (n : Nat) : ixN (n + 1) (-1) = some n := by
  unfold ixN
  rw [if_neg (by decide), if_pos (by omega)]
  congr 1
  omega
theorem atI_end {α : Type} (xs : List α) (x : α) : atI (xs ++ [x]) (-1) = some x := by
  unfold atI
  rw [List.length_append, List.length_cons, List.length_nil, Nat.zero_add, ixN_last]
  simp
theorem lput_end (xs : List D) (x v : D) : lputD (.lst (xs ++ [x])) (.int (-1)) v = some (.lst (xs ++ [v])) := by
  unfold lputD
  simp only [List.length_append, List.length_cons, List.length_nil, Nat.zero_add, ixN_last, Option.map_some]
  simp
theorem loop_mem {g : WG} {tb : WS} {P : PEnds} (p : D → Prop) (I : Rho → Prop) (hs : ∀ x ρ, p x → I ρ → ∀ J : Rho → Prop, (∀ ρ', I ρ' → J ρ') → g x ρ fun ρ1 => tb ⟨J, P.rt, P.nx, J⟩ ρ1) (he : ∀ ρ, I ρ → P.nx ρ) (xs : List D) (ρ : Rho) (hp : ∀ x ∈ xs, p x) (h : I ρ) : wLoop g tb P xs ρ :=
  loop_inv (fun l ρ => (∀ x ∈ l, p x) ∧ I ρ) (fun x r ρ hI J hJ => hs x ρ (hI.1 x (by simp)) hI.2 J fun ρ' h' => hJ ρ' ⟨fun y hy => hI.1 y (by simp [hy]), h'⟩) (fun ρ hI => he ρ hI.2) xs ρ ⟨hp, h⟩
theorem bNe_self {n : Nat} {a : D} (h : Gd n a) (hn : n ≤ 20 := by decide) : bNe a a = ozB false := bNe_gd h h (p := True) (by simp) hn hn
theorem bEq_self {n : Nat} {a : D} (h : Gd n a) (hn : n ≤ 20 := by decide) : bEq a a = ozB true := bEq_gd h h (p := True) (by simp) hn hn
end VL

namespace VL
open PySem PySem.Spec PyProof.Rows L2
open Evl (Ex)
variable {K : PySem.W.Frag}
/-! ### isinstance -/
def tyD : D → Option String
  | .non => some "NoneType"
  | .bl _ => some "bool"
  | .int _ => some "int"
  | .str _ => some "str"
  | .lst _ => some "list"
  | .tup _ => some "tuple"
  | .dk _ => some "dict"
  | .dt _ => some "dict"
  | _ => none
def isB (a n : String) : Bool := a == n || (a == "bool" && n == "int")
theorem kitB_ok : (["NoneType", "bool", "int", "str", "list", "tuple", "dict"].all fun a => ["bool", "int", "str", "list", "tuple", "dict"].all fun n => decide (kitB a n = some (isB a n))) = true := by decide +kernel
def okTy (n : String) : Bool := ["bool", "int", "str", "list", "tuple", "dict"].contains n
theorem kitB_at {d : D} {a n : String} (h : tyD d = some a) (hn : okTy n = true) : kitB a n = some (isB a n) := by
  have ha : a ∈ ["NoneType", "bool", "int", "str", "list", "tuple", "dict"] := by
    cases d <;> simp [tyD] at h <;> subst h <;> simp
  have hn' : n ∈ ["bool", "int", "str", "list", "tuple", "dict"] := by simpa [okTy] using hn
  exact of_decide_eq_true (List.all_eq_true.mp (List.all_eq_true.mp kitB_ok a ha) n hn')
theorem ty_at {G B H : Hp} {v : V} {d : D} {a : String} (g : Ex G B) (g2 : Ex B H) (o : Ov K G B v d) (h : tyD d = some a) : TyX K H v (.type a) := by
  cases d with
  | non => obtain rfl := ov_non o; cases h; exact .base .non
  | bl x => obtain rfl := ov_bl o; cases h; exact .base (.bl x)
  | int x => obtain rfl := ov_int o; cases h; exact .base (.int x)
  | str x => obtain rfl := ov_str o; cases h; exact .base (.str x)
  | lst x => obtain ⟨p, vs, rfl, e, _⟩ := o; cases h; exact .base (.lst (g2 _ _ e))
  | dk x =>
    obtain ⟨p, vs, rfl, e, _⟩ := o; cases h
    rcases rd_mono g2 e with e | ⟨o, e⟩
    · exact .base (.dK e)
    · exact .fDict e
  | dt x => obtain ⟨p, vs, rfl, e, _⟩ := o; cases h; exact .base (.dT (g2 _ _ e))
  | tup x =>
    cases (show Rp K G v (.tup x) from o) with
    | tup e r => cases h; exact .base (.tup (g2 _ _ (g _ _ e)))
  | fl x => cases h
  | ft x => cases h
def wIs (n : String) (t : WE) : WE := fun ρ Q => t ρ fun d _ ρ1 => match tyD d with
  | some a => Q (.bl (isB a n)) .fz ρ1
  | none => False
section
variable {X : Cx} {e a b c : Expr} {te ta tb : TE} {t u : WE} {pos pp p2 : Pos}
theorem c_isi (n : String) {T : Str} (he : SE X e te t) (hm : X.mg "isinstance" = none) (hm2 : X.mg T = none) (hn : okTy n = true := by decide) (hv : bootBuiltins T = some (.type n) := by decide +kernel) (hT : T ≠ "__name__" := by decide) (hTd : (T == ("__debug__" : Str)) = false := by decide) (hg : Gl X "isinstance" := by rfl) (hg2 : Gl X T := by rfl)
    (h1 : starEach [e, .Name T p2] X.env = (false, eval e X.env) :: starEach [.Name T p2] X.env := by rfl) (h2 : starEach [.Name T p2] X.env = (false, eval (.Name T p2) X.env) :: starEach [] X.env := by rfl) (hpl : (backTo pos (starEach [.Name T p2] X.env)).any (·.1) = false := by rfl) :
    SE X (.Call (.Name "isinstance" pp) [e, .Name T p2] [] pos) (tCB (rIsi X.K) (tCons te (tCons (tC (.ty n)) tNil))) (wIs n t) :=
  ⟨pe_callB call_isi hg hm (by decide +kernel) (pa_cons he.pe (pa_cons (pe_bltn hg2 hm2 hv rfl hT hTd) pa_nil h2) h1) (by decide) (by decide) h1 hpl, fun b G ρ σ H Q R s hq k => by
    refine he.snd b G ρ σ H _ _ s hq fun d kd ρ1 v G1 H1 q1 x1 s1 r1 => ?_
    split at q1
    · rename_i a ha
      exact ⟨v, .ty n, .type a, .type n, isB a n, rfl, .ty n, ty_at s1.sub hd_le (r1.ov s1) ha, kit_ty (kitB_at ha hn), k _ .fz _ _ _ _ q1 x1 s1 (.bl _)⟩
    · exact q1.elim⟩
/-! ### what is never reached -/
def wNo : WE := fun _ _ => False
theorem e_no (h : PE X e te) : SE X e te wNo := ⟨h, fun b G ρ σ H Q R s q k => q.elim⟩
def wiNo : WI := fun _ _ => False
theorem io_no {tg : Expr} {wi : TI} (h : PI X tg e wi) : SIO X tg e wi wiNo := ⟨h, fun b G ρ σ H Q R s q k => q.elim⟩
theorem if_no {tg : Expr} {wi : TI} (h : PI X tg e wi) : SIF X tg e wi wiNo := ⟨h, fun b G ρ σ H Q R s q k => q.elim⟩
def wsNo : WS := fun _ _ => False
theorem s_no {st : Stmt} {ts : TS} (h : PS X st ts) : SS X st ts wsNo := ⟨h, fun b P E G ρ σ H e s q => q.elim⟩
theorem io_keysNo {tg : Expr} (h : SE X e te t) : SIO X tg e (iKeys te) wiNo := io_no (pi_keys h.pe)
theorem c_dictNo {es : List Expr} {xa : TA} {x : WA} (hm : X.mg "dict" = none) (ha : SO X (e :: es) xa x) (hg : Gl X "dict" := by rfl) (he : starEach (e :: es) X.env = (false, eval e X.env) :: starEach es X.env := by rfl) (hpl : (backTo pos (starEach es X.env)).any (·.1) = false := by rfl) (hc : X.calm = true := by rfl) :
    SE X (.Call (.Name "dict" pp) (e :: es) [] pos) (tCB (fun xs H Q => ∃ (a : Addr) (ps : List Addr) (kvs : List (Key × V)), xs = [.ref a] ∧ SqL X.K H a (ps.map V.ref) ∧ Paired (fun p kv => SqT X.K H p [kV kv.1, kv.2]) ps kvs ∧
    ∀ p, H p = none → Q (.ref p) (upd H p (.dK (mergeK [] kvs)))) xa) wNo := e_no (pe_callTy (call_dictP hc) hg hm (by decide +kernel) ha.pa (by decide) (by decide) he hpl)
/-! ### g = xs.pop() -/
def wPopT (j : Nat) (g : WG) : WS := fun P ρ => match ρ[j]? with
  | some (.ow (.lst ds)) => match ds.getLast? with
    | some d => g d (ρ.set j (.ow (.lst ds.dropLast))) P.nx
    | none => False
  | _ => False
theorem RpL.dropLast {G : Hp} : ∀ {vs : List V} {ds : List D}, RpL K G vs ds → RpL K G vs.dropLast ds.dropLast
  | _, _, .nil => .nil
  | _, _, .cons a .nil => .nil
  | _, _, .cons a (.cons b r) => .cons a (RpL.dropLast (.cons b r))
theorem snd_popT {j : Nat} {tg : TG} {g : WG} (hg : SndG K tg g) : SndS K (tAsg (tBM0 K "list" rPop (tVar j)) tg) (wPopT j g) := fun b P E G ρ σ H e s hq => by
  unfold wPopT at hq
  split at hq
  · rename_i ds ej
    split at hq
    · rename_i d ed
      obtain ⟨a, h1, h2, h3, h4, vs, h5, h6⟩ := s.ow j _ ej
      have h5 : H a = some (.lst vs) := h5
      refine ⟨_, h1, .inl ⟨rfl, _, .inl (.inl h5)⟩, ?_⟩
      rw [List.getLast?_eq_getElem?] at ed
      obtain ⟨v, ev, rv⟩ := h6.get ed
      rw [← h6.length] at ev
      have s2 := s.put (o := .lst vs.dropLast) ej h1 (d := .lst ds.dropLast) ⟨_, upd_same, h6.dropLast⟩
      exact ⟨a, vs, v, rfl, rfl, h5, ev, hg b G _ σ _ v d _ _ s2 rv hq fun ρ3 σ3 q3 p3 => e.nx ρ3 σ3 G _ q3 p3.1⟩
    · exact hq.elim
  · exact hq.elim
theorem s_popT (j : Nat) {n : Str} {np ap cp : Pos} {tg : Expr} {tgt : TG} {g : WG} (hg : SG X tg tgt g) (hN : X.N[j]? = some n := by rfl) (hv : Vis X.env.scope n := by first | exact Or.inl rfl | exact Or.inr (Or.inl rfl) | exact Or.inr (Or.inr rfl)) (hd : (n == ("__debug__" : Str)) = false := by decide) (hcd : (n == ("__classdict__" : Str)) = false := by decide)
    (hbase : attributeBase (.Name n np) "pop" X.env (eval (.Name n np) X.env) = eval (.Name n np) X.env := by rfl) (hline : (ap.endLine == cp.line) = true := by rfl)
    (hs : swapsWithSole [tg] (.Call (.Attribute (.Name n np) "pop" ap) [] [] cp) pos.line X.env = pure false := by rfl) (hw : swappedStores [tg] (.Call (.Attribute (.Name n np) "pop" ap) [] [] cp) X.env = pure none := by rfl)
    (h1 : (assignEach [tg] X.env).map (·.2) = [assign tg X.env] := by rfl) :
    SS X (.Assign [tg] (.Call (.Attribute (.Name n np) "pop" ap) [] [] cp) pos) (tAsg (tBM0 X.K "list" rPop (tVar j)) tgt) (wPopT j g) :=
  ⟨ps_asg (pe_bm0 PySem.F.plainAttrs_list PySem.F.slot_list_pop PySem.F.type_list_pop mt_pop (pe_var hN hv hd hcd) hbase hline) hg.pg hs hw h1, snd_popT hg.snd⟩
/-! ### d.get(k), d.get(k, x) -/
def isDct : D → Bool
  | .dk _ => true
  | .dt _ => true
  | _ => false
theorem isD_of {G B H : Hp} {v : V} {d : D} (g : Ex G B) (g2 : Ex B H) (o : Ov K G B v d) (h : isDct d = true) : ∃ a, v = .ref a ∧ IsD H a := by
  cases d with
  | dk x => obtain ⟨p, vs, rfl, e, _⟩ := o; exact ⟨p, rfl, .inl ⟨_, rd_mono g2 e⟩⟩
  | dt x => obtain ⟨p, vs, rfl, e, _⟩ := o; exact ⟨p, rfl, .inr ⟨_, .inl (g2 _ _ e)⟩⟩
  | _ => cases h
def wGet1 (t u : WE) : WE := fun ρ Q => t ρ fun d _ ρ1 => isDct d = true ∧ u ρ1 fun k _ ρ2 => match getD2 d k with
  | some o => Q (o.getD .non) .fz ρ2
  | none => False
def wGet2 (t u x : WE) : WE := fun ρ Q => t ρ fun d _ ρ1 => isDct d = true ∧ u ρ1 fun k _ ρ2 => x ρ2 (toF fun z ρ3 => match getD2 d k with
  | some o => Q (o.getD z) .fz ρ3
  | none => False)
theorem e_get1 {k : Nat} {ap : Pos} (hr : Room k X.A) (ha : SE X a ta t) (hb : SE X b tb u) (h1 : attributeBase a "get" X.env (eval a X.env) = eval a X.env := by rfl)
    (h2 : ((backTo pos (starEach [b] X.env)).all (fun x => !x.1) && (backToKw pos (keywordEach [] X.env)).all (fun x => x.1.isSome) && decide (([b] : List Expr).length + ([] : List Keyword).length + (if ([] : List Keyword).isEmpty then 0 else 1) < 30)) = true := by rfl)
    (h3 : (ap.endLine == pos.line) = true := by rfl) (h4 : backTo pos (starEach [b] X.env) = [(false, eval b X.env)] := by rfl) : SE X (.Call (.Attribute a "get" ap) [b] [] pos) (tDGet1 ta tb) (wGet1 t u) :=
  ⟨pe_dget1 (u1 hr) ha.pe hb.pe ⟨h1, h2, h3, h4⟩, fun b G ρ σ H Q R s hq k => by
    refine ha.snd b G ρ σ H _ _ s hq fun d kd ρ1 v G1 H1 q1 x1 s1 r1 => ?_
    obtain ⟨p, rfl, isd⟩ := isD_of s1.sub hd_le (r1.ov s1) q1.1
    refine ⟨p, rfl, isd, ?_⟩
    refine hb.snd b G1 ρ1 σ H1 _ _ s1 q1.2 fun e ke ρ2 w G2 H2 q2 x2 s2 r2 => ?_
    split at q2
    · rename_i o ho
      obtain ⟨p', ov, hp, hg, hro⟩ := getD2_ok s2.sub hd_le ((r1.ov s1).mono x2.g x2.h) (r2.ov s2) ho
      cases hp
      refine ⟨ov, hg, k _ .fz _ _ _ _ q2 (x1.trans x2) s2 ?_⟩
      cases ov <;> cases o <;> first | exact hro.elim | exact hro | exact .non
    · exact q2.elim⟩
theorem e_get2 {k : Nat} {ap : Pos} {tc : TE} {x : WE} (hr : Room k X.A) (ha : SE X a ta t) (hb : SE X b tb u) (hc : SE X c tc x) (h1 : attributeBase a "get" X.env (eval a X.env) = eval a X.env := by rfl)
    (h2 : ((backTo pos (starEach [b, c] X.env)).all (fun x => !x.1) && (backToKw pos (keywordEach [] X.env)).all (fun x => x.1.isSome) && decide (([b, c] : List Expr).length + ([] : List Keyword).length + (if ([] : List Keyword).isEmpty then 0 else 1) < 30)) = true := by rfl)
    (h3 : (ap.endLine == pos.line) = true := by rfl) (h4 : backTo pos (starEach [b, c] X.env) = [(false, eval b X.env), (false, eval c X.env)] := by rfl) : SE X (.Call (.Attribute a "get" ap) [b, c] [] pos) (tDGet2 ta tb tc) (wGet2 t u x) :=
  ⟨pe_dget2 (u1 hr) ha.pe hb.pe hc.pe ⟨h1, h2, h3, h4⟩, fun b G ρ σ H Q R s hq k => by
    refine ha.snd b G ρ σ H _ _ s hq fun d kd ρ1 v G1 H1 q1 x1 s1 r1 => ?_
    obtain ⟨p, rfl, isd⟩ := isD_of s1.sub hd_le (r1.ov s1) q1.1
    refine ⟨p, rfl, isd, ?_⟩
    refine hb.snd b G1 ρ1 σ H1 _ _ s1 q1.2 fun e ke ρ2 w G2 H2 q2 x2 s2 r2 => ?_
    refine hc.snd b G2 ρ2 σ H2 _ _ s2 q2 fun z kz ρ3 y G3 H3 q3 x3 s3 r3 => ?_
    refine frozen (R := fun y H' => ∃ o, DGet H' p w o ∧ R (o.getD y) H') q3 x3 s2 s3 r3 fun z ρ4 y G4 q4 x4 s4 r4 => ?_
    split at q4
    · rename_i o ho
      obtain ⟨p', ov, hp, hg, hro⟩ := getD2_ok s4.sub hd_le ((r1.ov s1).mono (x2.trans x4).g (x2.trans x4).h) ((r2.ov s2).mono x4.g x4.h) ho
      cases hp
      refine ⟨ov, hg, k _ .fz _ _ _ _ q4 ((x1.trans x2).trans x4) s4 ?_⟩
      cases ov <;> cases o <;> first | exact hro.elim | exact hro | exact r4
    · exact q4.elim⟩
end
end VL

namespace VL
open PySem PySem.Spec PyProof.Rows L2
open Evl (Ex)
variable {K : PySem.W.Frag}
/-! ### all, any, str(int), xs[::-1] -/
def blsOf : List D → Option (List Bool)
  | [] => some []
  | .bl b :: r => (blsOf r).map fun bs => b :: bs
  | _ => none
theorem bls_v {G : Hp} : ∀ {vs : List V} {ds : List D} {bs : List Bool}, RpL K G vs ds → blsOf ds = some bs → vs = bs.map V.bl
  | _, _, _, .nil, h => by cases h; rfl
  | _, _, _, .cons (d := d) (ds := ds) a r, h => by
    cases a <;> simp only [blsOf] at h <;> first | cases h; done | skip
    cases hi : blsOf ds with
    | none => rw [hi] at h; cases h
    | some ns =>
      rw [hi] at h; cases h
      rw [bls_v r hi]; rfl
theorem blsOf_map (bs : List Bool) : blsOf (bs.map .bl) = some bs := by
  induction bs with
  | nil => rfl
  | cons x xs ih => rw [List.map_cons]; unfold blsOf; rw [ih]; rfl
def cAll : List D → Oz
  | [.lst ds] => (blsOf ds).bind fun bs => ozB (bs.all id)
  | _ => none
def cAny : List D → Oz
  | [.lst ds] => (blsOf ds).bind fun bs => ozB (bs.any id)
  | _ => none
theorem cAll_bls (bs : List Bool) : cAll [.lst (bs.map .bl)] = ozB (bs.all id) := by
  show (blsOf (bs.map .bl)).bind (fun bs => ozB (bs.all id)) = _
  rw [blsOf_map]; rfl
theorem cAny_bls (bs : List Bool) : cAny [.lst (bs.map .bl)] = ozB (bs.any id) := by
  show (blsOf (bs.map .bl)).bind (fun bs => ozB (bs.any id)) = _
  rw [blsOf_map]; rfl
theorem snd_cAll : ClS K (rAll K) cAll := fun G B H vs ds z k R g g2 o hf r => by
  unfold cAll at hf
  split at hf
  · rename_i ds
    cases o with
    | cons o1 o2 =>
      cases o2
      obtain ⟨a, us, rfl, t, l⟩ := o1
      cases hb : blsOf ds with
      | none => rw [hb] at hf; cases hf
      | some bs =>
        rw [hb] at hf
        obtain rfl := bls_v l hb
        exact ⟨a, bs, rfl, .inl (.inl (g2 _ _ t)), res_bl hf r⟩
  · cases hf
theorem snd_cAny : ClS K (rAny K) cAny := fun G B H vs ds z k R g g2 o hf r => by
  unfold cAny at hf
  split at hf
  · rename_i ds
    cases o with
    | cons o1 o2 =>
      cases o2
      obtain ⟨a, us, rfl, t, l⟩ := o1
      cases hb : blsOf ds with
      | none => rw [hb] at hf; cases hf
      | some bs =>
        rw [hb] at hf
        obtain rfl := bls_v l hb
        exact ⟨a, bs, rfl, .inl (.inl (g2 _ _ t)), res_bl hf r⟩
  · cases hf
def strI (i : Int) : Str := Str.ofString (toString i)
def cStr : List D → Oz
  | [.int i] => if i.natAbs < 1000000000000 then some (.str (strI i), .fz) else none
  | _ => none
def rStrI : List V → Hp → VK → Prop := fun xs H Q => ∃ i, xs = [.int i] ∧ i.natAbs.log2 < 1920 ∧ Q (.str (toString i)) H
theorem snd_cStr : ClS K rStrI cStr := fun G B H vs ds z k R g g2 o hf r => by
  unfold cStr at hf
  split at hf
  · rename_i i
    cases o with
    | cons o1 o2 =>
      cases o2
      obtain rfl := ov_int o1
      split at hf
      · rename_i hl
        cases hf
        refine ⟨i, rfl, ?_, r.val _ rfl (.str _)⟩
        by_cases h0 : i.natAbs = 0
        · rw [h0]; decide
        · exact (Nat.log2_lt h0).mpr (Nat.lt_trans hl (Nat.lt_of_lt_of_le (by decide : 1000000000000 < 2 ^ 40) (Nat.pow_le_pow_right (by decide) (by decide))))
      · cases hf
  · cases hf
def wRevL (t : WE) : WE := fun ρ Q => t ρ fun d _ ρ1 => match d with
  | .lst xs => Q (.lst xs.reverse) .nw ρ1
  | _ => False
theorem RpL.reverse {G : Hp} : ∀ {vs : List V} {ds : List D}, RpL K G vs ds → RpL K G vs.reverse ds.reverse
  | _, _, .nil => .nil
  | _, _, .cons a r => by
    rw [List.reverse_cons, List.reverse_cons]
    exact (RpL.reverse r).append (.cons a .nil)
section
variable {X : Cx} {e a b c : Expr} {es : List Expr} {te ta tb : TE} {t u : WE} {pos pp p2 : Pos} {xa : TA} {x : WA}
theorem c_all (hm : X.mg "all" = none) (ha : SO X (e :: es) xa x) (hg : Gl X "all" := by rfl) (he : starEach (e :: es) X.env = (false, eval e X.env) :: starEach es X.env := by rfl) (hpl : (backTo pos (starEach es X.env)).any (·.1) = false := by rfl) (hc : X.calm = true := by rfl) : SE X (.Call (.Name "all" pp) (e :: es) [] pos) (tCB (rAll X.K) xa) (wCl cAll x) :=
  e_callB (cr_all hc) snd_cAll hm (by decide +kernel) ha hg (by decide) (by decide) he hpl
theorem c_any (hm : X.mg "any" = none) (ha : SO X (e :: es) xa x) (hg : Gl X "any" := by rfl) (he : starEach (e :: es) X.env = (false, eval e X.env) :: starEach es X.env := by rfl) (hpl : (backTo pos (starEach es X.env)).any (·.1) = false := by rfl) (hc : X.calm = true := by rfl) : SE X (.Call (.Name "any" pp) (e :: es) [] pos) (tCB (rAny X.K) xa) (wCl cAny x) :=
  e_callB (cr_any hc) snd_cAny hm (by decide +kernel) ha hg (by decide) (by decide) he hpl
theorem c_str (hm : X.mg "str" = none) (ha : SO X (e :: es) xa x) (hg : Gl X "str" := by rfl) (he : starEach (e :: es) X.env = (false, eval e X.env) :: starEach es X.env := by rfl) (hpl : (backTo pos (starEach es X.env)).any (·.1) = false := by rfl) : SE X (.Call (.Name "str" pp) (e :: es) [] pos) (tCB rStrI xa) (wCl cStr x) :=
  e_callT call_str_int snd_cStr hm (by decide +kernel) ha hg (by decide) (by decide) he hpl
theorem e_gc {x : Str} {d : D} {pos : Pos} (h : GlobOk X.K X.mg x d) (hg : Gl X x := by rfl) (hd : (x == ("__debug__" : Str)) = false := by decide) : SE X (.Name x pos) (tC (Classical.choose (Classical.choose_spec h))) (wCon d) :=
  ⟨pe_glob hg (Classical.choose_spec (Classical.choose_spec h)).1 (Classical.choose_spec (Classical.choose_spec h)).2.1 hd, snd_con (Classical.choose_spec (Classical.choose_spec h)).2.2⟩
theorem e_revL {k : Nat} {p1 p2 p3 : Pos} (ha : SE X e te t) : SE X (.Subscript e (.Slice none none (some (.UnaryOp .USub (.Constant (.int 1) k p1) p2)) p3) pos) (tRevL X.K te) (wRevL t) :=
  ⟨pe_revL ha.pe, fun b G ρ σ H Q R s hq k => by
    refine ha.snd b G ρ σ H _ _ s hq fun d kd ρ1 v G1 H1 q1 x1 s1 r1 => ?_
    split at q1
    · obtain ⟨p, vs, rfl, t1, l1⟩ := r1.ov s1
      exact ⟨p, vs, rfl, .inl (.inl (hd_le _ _ t1)), fun q hp => (res_of s1 (fun d k' ρ' v G' H' q x s r => k d k' ρ' v G' H' q (x1.trans x) s (r.back x1.h)) q1).new q _ rfl hp ⟨_, upd_same, l1.reverse⟩⟩
    · exact q1.elim⟩
end
/-! ### one of some rows -/
def tPick : WS := wRet (wBin bSubs (wVar 1) (wCall spNext (xW 0 (xCons (wCl cLen (wCons (wVar 1) wNil)) xNil))))
def spPick : FS := fun as q => ∃ xs : List D, as = [.w, .d (.lst xs)] ∧ xs ≠ [] ∧ xs.length ≤ 1000 ∧ ∀ x ∈ xs, q x .fz
theorem pick_pure (as : List VL.A) (q : D → Kd → Prop) (h : spPick as q) : as.length = 2 ∧ tPick ⟨fun _ => q .non .fz, q, fun _ => False, fun _ => False⟩ (rho0 2 as) := by
  obtain ⟨xs, rfl, h1, h2, hq⟩ := h
  refine ⟨rfl, ?_⟩
  unfold tPick
  simp (maxSteps := 4000000) only [wSeq, wAsg, wgN, wVar, wCon, wBin, wUn, wCl, wCons, wNil, wConsF, wTup, wLst, wTest, wIf, wFor, wiR1, wiR2, wgName, oB, toF, toN, wRet, wRetN, wNext, wDrop, wMut, fAppend, wPar, nCons, nNil, setAll, sl, wAugI, wAug, bAddI, bSub, bAdd, wAnd, wOr, wNot, wAndV, wOrV, wNotV, wBl, wIfE, wCall, xCons, xNil, xW, Kd.ret, wiF, wiO, seqOf, wgTup, wgCons, wgNil, wAsgT, wSlice, wPSome, wPNone, dSlice, bMul, bMod, bDiv, bPow, cInt, cAbs, cLen, cTuple, cList, cmpD, ozI, ozB, uNeg, wComp, wipeR, restR, wYes, wBreak, wCont, wLstRg, wTupRg, wRg1, wRg2, wExtend, bIs, bIsNot, isNonD, List.set_cons_zero, List.set_cons_succ, List.getElem?_cons_zero, List.getElem?_cons_succ, List.getD_cons_zero, List.getD_cons_succ, List.length_cons, List.length_nil, if_true, if_false, reduceCtorEq, ite_true, ite_false, and_true, true_and, rho0, VL.A.slot, List.map_cons, List.map_nil, List.cons_append, List.nil_append, List.replicate, Nat.add_eq, Nat.reduceAdd, Nat.reduceSub, Bool.false_eq_true, decide_eq_true_eq, Nat.zero_le, Nat.zero_add, lim1, lim2, lim3, lim4, lim5, lim6, lim7, lim8, Bool.not_true, Bool.not_false, decide_true, decide_false]
  have hp : 0 < xs.length := List.length_pos_iff.mpr h1
  refine next_go (by omega) fun r r0 r1 => ?_
  obtain ⟨n, rfl⟩ : ∃ n : Nat, r = n := ⟨r.toNat, by omega⟩
  have hn : n < xs.length := by omega
  simp (maxSteps := 4000000) only [wSeq, wAsg, wgN, wVar, wCon, wBin, wUn, wCl, wCons, wNil, wConsF, wTup, wLst, wTest, wIf, wFor, wiR1, wiR2, wgName, oB, toF, toN, wRet, wRetN, wNext, wDrop, wMut, fAppend, wPar, nCons, nNil, setAll, sl, wAugI, wAug, bAddI, bSub, bAdd, wAnd, wOr, wNot, wAndV, wOrV, wNotV, wBl, wIfE, wCall, xCons, xNil, xW, Kd.ret, wiF, wiO, seqOf, wgTup, wgCons, wgNil, wAsgT, wSlice, wPSome, wPNone, dSlice, bMul, bMod, bDiv, bPow, cInt, cAbs, cLen, cTuple, cList, cmpD, ozI, ozB, uNeg, wComp, wipeR, restR, wYes, wBreak, wCont, wLstRg, wTupRg, wRg1, wRg2, wExtend, bIs, bIsNot, isNonD, List.set_cons_zero, List.set_cons_succ, List.getElem?_cons_zero, List.getElem?_cons_succ, List.getD_cons_zero, List.getD_cons_succ, List.length_cons, List.length_nil, if_true, if_false, reduceCtorEq, ite_true, ite_false, and_true, true_and, rho0, VL.A.slot, List.map_cons, List.map_nil, List.cons_append, List.nil_append, List.replicate, Nat.add_eq, Nat.reduceAdd, Nat.reduceSub, Bool.false_eq_true, decide_eq_true_eq, Nat.zero_le, Nat.zero_add, lim1, lim2, lim3, lim4, lim5, lim6, lim7, lim8, Bool.not_true, Bool.not_false, decide_true, decide_false, subs_lst (atI_nat (List.getElem?_eq_getElem hn))]
  exact hq _ (List.getElem_mem hn)
/-! ### constants of the module -/
theorem glob_int {h : Heap} {mg : Str → Option Value} (X : K.In h) (G : h.Ns mainGlobals mg) {x : Str} {i : Int} {t : Tok} (a : PySem.W.nsIn K mainGlobals x = some (some (.int i t))) : GlobOk K mg x (.int i) := ⟨.int i t, .int i, PySem.W.mg_of X G a, ⟨t, rfl⟩, fun G => .int i⟩
theorem glob_str {h : Heap} {mg : Str → Option Value} (X : K.In h) (G : h.Ns mainGlobals mg) {x : Str} {i : Str} {t : Tok} (a : PySem.W.nsIn K mainGlobals x = some (some (.str i t))) : GlobOk K mg x (.str i) := ⟨.str i t, .str i, PySem.W.mg_of X G a, ⟨t, rfl⟩, fun G => .str i⟩
theorem glob_ft {h : Heap} {mg : Str → Option Value} (X : K.In h) (G : h.Ns mainGlobals mg) {x : Str} {p : Addr} {od : Option Addr} {its : Array Value} {n : Nat} {sl : Array (Option Value)} {vs : List V} {ds : List D} (a : PySem.W.nsIn K mainGlobals x = some (some (.ref p)))
    (l : K.lookup p = some ⟨.type "tuple", od, .seq its n, sl⟩) (hz : its.size ≤ sizeLine) (hv : Vals vs its.toList) (hr : ∀ G, RpL K G vs ds) : GlobOk K mg x (.ft ds) :=
  ⟨.ref p, .ref p, PySem.W.mg_of X G a, rfl, fun G => .ft (.inr ⟨_, its, n, l, rfl, rfl, hz, hv⟩) (hr G)⟩
end VL

namespace VL
open PySem PySem.Spec PyProof.Rows L2
open Evl (Ex)
/-! ### steps that stand still where they are not known: no row is doubled -/
theorem toF_fz {Q : D → Rho → Prop} {d : D} {ρ : Rho} : toF Q d .fz ρ = Q d ρ := rfl
theorem toF_nw {Q : D → Rho → Prop} {d : D} {ρ : Rho} : toF Q d .nw ρ = Q d ρ := rfl
theorem toF_br {Q : D → Rho → Prop} {d : D} {i : Nat} {ρ : Rho} : toF Q d (.br i) ρ = Q d (ρ.set i (.fz d)) := rfl
theorem toN_fz {Q : D → Bool → Rho → Prop} {d : D} {ρ : Rho} : toN Q d .fz ρ = Q d false ρ := rfl
theorem toN_nw {Q : D → Bool → Rho → Prop} {d : D} {ρ : Rho} : toN Q d .nw ρ = Q d true ρ := rfl
theorem toN_br {Q : D → Bool → Rho → Prop} {d : D} {i : Nat} {ρ : Rho} : toN Q d (.br i) ρ = Q d false (ρ.set i (.fz d)) := rfl
theorem wgN_fz {i : Nat} {d : D} {ρ : Rho} {Q : Rho → Prop} : wgN i d .fz ρ Q = Q (ρ.set i (.fz d)) := rfl
theorem wgN_nw {i : Nat} {d : D} {ρ : Rho} {Q : Rho → Prop} : wgN i d .nw ρ Q = Q (ρ.set i (.ow d)) := rfl
theorem wgN_br {i j : Nat} {d : D} {ρ : Rho} {Q : Rho → Prop} : wgN i d (.br j) ρ Q = Q ((ρ.set j (.fz d)).set i (.fz d)) := rfl
theorem ret_fz : Kd.ret .fz = .fz := rfl
theorem ret_nw : Kd.ret .nw = .nw := rfl
theorem ret_br {i : Nat} : Kd.ret (.br i) = .nw := rfl
theorem oBs {z : D} {k : Kd} {Q : D → Kd → Prop} : oB (some (z, k)) Q = Q z k := rfl
def slotK (o : Option Slot) (i : Nat) (ρ : Rho) (Q : D → Kd → Rho → Prop) : Prop := match o with
  | some (.fz d) => Q d .fz ρ
  | some (.ow d) => Q d (.br i) ρ
  | _ => False
theorem wVar_e {i : Nat} {ρ : Rho} {Q : D → Kd → Rho → Prop} : wVar i ρ Q = slotK ρ[i]? i ρ Q := rfl
theorem slotK_fz {d : D} {i : Nat} {ρ : Rho} {Q : D → Kd → Rho → Prop} : slotK (some (.fz d)) i ρ Q = Q d .fz ρ := rfl
theorem slotK_ow {d : D} {i : Nat} {ρ : Rho} {Q : D → Kd → Rho → Prop} : slotK (some (.ow d)) i ρ Q = Q d (.br i) ρ := rfl
/-- either way, by a truth value -/
def brE (b : Bool) (t u : WE) (ρ : Rho) (Q : D → Kd → Rho → Prop) : Prop := if b = true then t ρ Q else u ρ Q
theorem brE_t {t u : WE} {ρ : Rho} {Q : D → Kd → Rho → Prop} : brE true t u ρ Q = t ρ Q := rfl
theorem brE_f {t u : WE} {ρ : Rho} {Q : D → Kd → Rho → Prop} : brE false t u ρ Q = u ρ Q := rfl
theorem wIfE_e {c : WT} {t u : WE} {ρ : Rho} {Q : D → Kd → Rho → Prop} : wIfE c t u ρ Q = c ρ fun b ρ1 => brE b t u ρ1 Q := rfl
def brS (b : Bool) (t u : WS) (P : PEnds) (ρ : Rho) : Prop := if b = true then t P ρ else u P ρ
theorem brS_t {t u : WS} {P : PEnds} {ρ : Rho} : brS true t u P ρ = t P ρ := rfl
theorem brS_f {t u : WS} {P : PEnds} {ρ : Rho} : brS false t u P ρ = u P ρ := rfl
theorem wIf_e {c : WT} {t u : WS} {P : PEnds} {ρ : Rho} : wIf c t u P ρ = c ρ fun b ρ1 => brS b t u P ρ1 := rfl
def brT (b : Bool) (t u : WT) (ρ : Rho) (Q : Bool → Rho → Prop) : Prop := if b = true then t ρ Q else u ρ Q
theorem brT_t {t u : WT} {ρ : Rho} {Q : Bool → Rho → Prop} : brT true t u ρ Q = t ρ Q := rfl
theorem brT_f {t u : WT} {ρ : Rho} {Q : Bool → Rho → Prop} : brT false t u ρ Q = u ρ Q := rfl
def wK (b : Bool) : WT := fun ρ Q => Q b ρ
theorem wK_e {b : Bool} {ρ : Rho} {Q : Bool → Rho → Prop} : wK b ρ Q = Q b ρ := rfl
theorem wAnd_e {t u : WT} {ρ : Rho} {Q : Bool → Rho → Prop} : wAnd t u ρ Q = t ρ fun c ρ1 => brT c u (wK false) ρ1 Q := by
  unfold wAnd brT wK; rfl
theorem wOr_e {t u : WT} {ρ : Rho} {Q : Bool → Rho → Prop} : wOr t u ρ Q = t ρ fun c ρ1 => brT c (wK true) u ρ1 Q := by
  unfold wOr brT wK; rfl
theorem wAndV_e {t u : WE} {ρ : Rho} {Q : D → Kd → Rho → Prop} : wAndV t u ρ Q = wTest t ρ fun c ρ1 => brE c u (wCon (.bl false)) ρ1 Q := rfl
theorem wOrV_e {t u : WE} {ρ : Rho} {Q : D → Kd → Rho → Prop} : wOrV t u ρ Q = wTest t ρ fun c ρ1 => brE c (wCon (.bl true)) u ρ1 Q := rfl
theorem wNotV_e {t : WE} {ρ : Rho} {Q : D → Kd → Rho → Prop} : wNotV t ρ Q = wTest t ρ fun c ρ1 => Q (.bl (!c)) .fz ρ1 := rfl
def blK (d : D) (ρ : Rho) (Q : Bool → Rho → Prop) : Prop := match d with
  | .bl c => Q c ρ
  | _ => False
theorem blK_e {c : Bool} {ρ : Rho} {Q : Bool → Rho → Prop} : blK (.bl c) ρ Q = Q c ρ := rfl
theorem wTest_e {t : WE} {ρ : Rho} {Q : Bool → Rho → Prop} : wTest t ρ Q = t ρ fun d _ ρ1 => blK d ρ1 Q := rfl
/-- a chain of two tests -/
def chK (o : Oz) (tc : WE) (g : D → Oz) (ρ : Rho) (Q : D → Kd → Rho → Prop) : Prop := match o with
  | some (.bl true, .fz) => tc ρ fun h _ ρ3 => oB (g h) fun z k => Q z k ρ3
  | some (.bl false, .fz) => Q (.bl false) .fz ρ
  | _ => False
theorem wChain_e {f g : D → D → Oz} {ta tb tc : WE} {ρ : Rho} {Q : D → Kd → Rho → Prop} : wChain f g ta tb tc ρ Q = ta ρ fun d _ ρ1 => tb ρ1 fun e _ ρ2 => chK (f d e) tc (g e) ρ2 Q := rfl
theorem chK_t {tc : WE} {g : D → Oz} {ρ : Rho} {Q : D → Kd → Rho → Prop} : chK (some (.bl true, .fz)) tc g ρ Q = tc ρ fun h _ ρ3 => oB (g h) fun z k => Q z k ρ3 := rfl
theorem chK_f {tc : WE} {g : D → Oz} {ρ : Rho} {Q : D → Kd → Rho → Prop} : chK (some (.bl false, .fz)) tc g ρ Q = Q (.bl false) .fz ρ := rfl
def sqK (o : Option (List D)) (ρ : Rho) (Q : List D → Rho → Prop) : Prop := match o with
  | some xs => Q xs ρ
  | none => False
theorem sqK_e {xs : List D} {ρ : Rho} {Q : List D → Rho → Prop} : sqK (some xs) ρ Q = Q xs ρ := rfl
theorem wiF_e {w : WE} {ρ : Rho} {Q : List D → Rho → Prop} : wiF w ρ Q = w ρ (toF fun d ρ1 => sqK (seqOf d) ρ1 Q) := rfl
theorem wiO_e {w : WE} {ρ : Rho} {Q : List D → Rho → Prop} : wiO w ρ Q = w ρ fun d _ ρ1 => sqK (seqOf d) ρ1 Q := rfl
theorem seq_lst {xs : List D} : seqOf (.lst xs) = some xs := rfl
theorem seq_tup {xs : List D} : seqOf (.tup xs) = some xs := rfl
theorem seq_fl {xs : List D} : seqOf (.fl xs) = some xs := rfl
theorem seq_ft {xs : List D} : seqOf (.ft xs) = some xs := rfl
theorem bAdd_i {i j : Int} : bAdd (.int i) (.int j) = some (.int (i + j), .fz) := rfl
theorem bAdd_t {xs ys : List D} : bAdd (.tup xs) (.tup ys) = if xs.length + ys.length ≤ LIM then some (.tup (xs ++ ys), .fz) else none := rfl
theorem bAdd_l {xs ys : List D} : bAdd (.lst xs) (.lst ys) = if xs.length + ys.length ≤ LIM then some (.lst (xs ++ ys), .nw) else none := rfl
theorem bSub_i {i j : Int} : bSub (.int i) (.int j) = some (.int (i - j), .fz) := rfl
theorem bMul_i {i j : Int} : bMul (.int i) (.int j) = if i.natAbs < 1000000000 ∨ j.natAbs < 1000000000 then some (.int (i * j), .fz) else none := rfl
theorem bMul_l {xs : List D} {k : Int} : bMul (.lst xs) (.int k) = if -1000 ≤ k ∧ k ≤ 1000 ∧ xs.length * k.toNat ≤ LIM then some (.lst (List.replicate k.toNat xs).flatten, .nw) else none := rfl
theorem bDiv_p {i j : Int} (h : 0 < j ∧ j.natAbs < 1073741824) : bDiv (.int i) (.int j) = some (.int (i / j), .fz) := by
  show (if j ≠ 0 ∧ j.natAbs < 1073741824 then ozI (i.fdiv j) else none) = _
  rw [if_pos ⟨by omega, h.2⟩, fdiv_nn' (by omega)]; rfl
theorem bMod_p {i j : Int} (h : 0 < j) : bMod (.int i) (.int j) = some (.int (i % j), .fz) := by
  show (if j ≠ 0 then ozI (i.fmod j) else none) = _
  rw [if_pos (by omega), fmod_nn (by omega)]; rfl
theorem uNeg_i {i : Int} : uNeg (.int i) = some (.int (-i), .fz) := rfl
theorem bEq_i {i j : Int} : bEq (.int i) (.int j) = some (.bl (decide (i = j)), .fz) := bEq_ints i j
theorem bNe_i {i j : Int} : bNe (.int i) (.int j) = some (.bl (!decide (i = j)), .fz) := bNe_ints i j
theorem bNe_b {i j : Bool} : bNe (.bl i) (.bl j) = some (.bl (i != j), .fz) := bNe_bl i j
theorem cmp_i {f : Int → Int → Bool} {g : D → D → Bool} {i j : Int} : cmpD f g (.int i) (.int j) = some (.bl (f i j), .fz) := rfl
theorem bIs_e {d : D} : bIs d .non = some (.bl (isNonD d), .fz) := rfl
theorem bIsNot_e {d : D} : bIsNot d .non = some (.bl (!isNonD d), .fz) := rfl
theorem non_non : isNonD .non = true := rfl
theorem non_int {i : Int} : isNonD (.int i) = false := rfl
theorem non_tup {xs : List D} : isNonD (.tup xs) = false := rfl
theorem non_str {x : Str} : isNonD (.str x) = false := rfl
theorem non_bl {x : Bool} : isNonD (.bl x) = false := rfl
theorem cLen_l {xs : List D} : cLen [.lst xs] = some (.int xs.length, .fz) := rfl
theorem cLen_t {xs : List D} : cLen [.tup xs] = some (.int xs.length, .fz) := rfl
theorem cLen_f {xs : List D} : cLen [.ft xs] = some (.int xs.length, .fz) := rfl
theorem cLen_fl {xs : List D} : cLen [.fl xs] = some (.int xs.length, .fz) := rfl
theorem cTup_l {xs : List D} : cTuple [.lst xs] = some (.tup xs, .fz) := rfl
theorem cTup_t {xs : List D} : cTuple [.tup xs] = some (.tup xs, .fz) := rfl
theorem cLst_l {xs : List D} : cList [.lst xs] = some (.lst xs, .nw) := rfl
theorem cLst_t {xs : List D} : cList [.tup xs] = some (.lst xs, .nw) := rfl
theorem cInt_i {i : Int} : cInt [.int i] = some (.int i, .fz) := rfl
theorem cInt_b {b : Bool} : cInt [.bl b] = some (.int (if b then 1 else 0), .fz) := rfl
theorem cMax2 {i j : Int} : cMax [.int i, .int j] = some (.int (max i j), .fz) := by
  show some (D.int (if j > i then j else i), Kd.fz) = _
  congr 3
  split <;> omega
theorem cMin2 {i j : Int} : cMin [.int i, .int j] = some (.int (min i j), .fz) := by
  show some (D.int (if j < i then j else i), Kd.fz) = _
  congr 3
  split <;> omega
theorem cStr_i {i : Int} (h : i.natAbs < 1000000000000) : cStr [.int i] = some (.str (strI i), .fz) := if_pos h
theorem dSl_l {xs : List D} {lo hi : Option Int} : dSlice (.lst xs) lo hi = some (.lst (cutD xs lo hi), .nw) := rfl
theorem dSl_t {xs : List D} {lo hi : Option Int} : dSlice (.tup xs) lo hi = some (.tup (cutD xs lo hi), .fz) := rfl
def i1K (ds : List D) (Q : Int → Prop) : Prop := match ds with
  | [.int j] => Q j
  | _ => False
def i2K (ds : List D) (Q : Int → Int → Prop) : Prop := match ds with
  | [.int i, .int j] => Q i j
  | _ => False
theorem i1K_e {j : Int} {Q : Int → Prop} : i1K [.int j] Q = Q j := rfl
theorem i2K_e {i j : Int} {Q : Int → Int → Prop} : i2K [.int i, .int j] Q = Q i j := rfl
theorem wiR1_e {t : WA} {ρ : Rho} {Q : List D → Rho → Prop} : wiR1 t ρ Q = t ρ fun ds ρ1 => i1K ds fun j => i62 j ∧ Q (rng 0 j.toNat) ρ1 := rfl
theorem wiR2_e {t : WA} {ρ : Rho} {Q : List D → Rho → Prop} : wiR2 t ρ Q = t ρ fun ds ρ1 => i2K ds fun i j => i62 i ∧ i62 j ∧ Q (rng i (j - i).toNat) ρ1 := rfl
end VL

namespace VL
open PySem PySem.Spec PyProof.Rows L2
open Evl (Ex)
variable {K : PySem.W.Frag}
/-! ### dict(xs), of a list of pairs -/
def prsOf : List D → Option (List (Key × D))
  | [] => some []
  | .tup [k, v] :: r => match keyOf k, prsOf r with
    | some key, some l => some ((key, v) :: l)
    | _, _ => none
  | _ => none
theorem prs_v {G H : Hp} (e : Ex G H) : ∀ {ds : List D} {vs : List V} {es : List (Key × D)}, RpL K G vs ds → prsOf ds = some es → ∃ (ps : List Addr) (kvs : List (Key × V)), vs = ps.map V.ref ∧ Paired (fun p kv => SqT K H p [kV kv.1, kv.2]) ps kvs ∧ RpK K G kvs es
  | [], _, _, .nil, h => by cases h; exact ⟨[], [], rfl, .nil, .nil⟩
  | d :: ds, _, es, .cons a r, h => by
    unfold prsOf at h
    split at h
    · rename_i heq; cases heq
    · rename_i k v r' heq
      obtain ⟨rfl, rfl⟩ := List.cons.inj heq
      split at h
      · rename_i key l hk hl
        cases h
        obtain ⟨ps, kvs, rfl, h2, h3⟩ := prs_v e r hl
        cases a with
        | tup t rr =>
          cases rr with
          | cons a1 r1 => cases r1 with
            | cons a2 r2 =>
              cases r2
              obtain rfl := key_v a1 hk
              exact ⟨_ :: ps, (key, _) :: kvs, rfl, .cons (.inl (.inl (e _ _ t))) h2, .cons a2 h3⟩
      · cases h
    · cases h
def cDict : List D → Oz
  | [.lst ds] => (prsOf ds).map fun es => (.dk (mergeD [] es), .nw)
  | _ => none
def rDictP (K : PySem.W.Frag) : List V → Hp → VK → Prop := fun xs H Q => ∃ (a : Addr) (ps : List Addr) (kvs : List (Key × V)), xs = [.ref a] ∧ SqL K H a (ps.map V.ref) ∧ Paired (fun p kv => SqT K H p [kV kv.1, kv.2]) ps kvs ∧ ∀ p, H p = none → Q (.ref p) (upd H p (.dK (mergeK [] kvs)))
theorem snd_cDict : ClS K (rDictP K) cDict := fun G B H vs ds z k R g g2 o hf r => by
  unfold cDict at hf
  split at hf
  · rename_i ds
    cases o with
    | cons o1 o2 =>
      cases o2
      obtain ⟨a, us, rfl, t, l⟩ := o1
      cases hb : prsOf ds with
      | none => rw [hb] at hf; cases hf
      | some es =>
        rw [hb] at hf; cases hf
        obtain ⟨ps, kvs, rfl, h2, h3⟩ := prs_v (g.trans g2) l hb
        exact ⟨a, ps, kvs, rfl, .inl (.inl (g2 _ _ t)), h2, fun p hp => r.new p _ rfl hp ⟨_, upd_same, RpK.merge h3 .nil⟩⟩
  · cases hf
theorem c_dict {X : Cx} {e : Expr} {es : List Expr} {pos pp : Pos} {xa : TA} {x : WA} (hm : X.mg "dict" = none) (ha : SO X (e :: es) xa x) (hg : Gl X "dict" := by rfl) (he : starEach (e :: es) X.env = (false, eval e X.env) :: starEach es X.env := by rfl) (hpl : (backTo pos (starEach es X.env)).any (·.1) = false := by rfl) (hc : X.calm = true := by rfl) : SE X (.Call (.Name "dict" pp) (e :: es) [] pos) (tCB (rDictP X.K) xa) (wCl cDict x) :=
  e_callT (call_dictP hc) snd_cDict hm (by decide +kernel) ha hg (by decide) (by decide) he hpl
/-! ### texts -/
theorem bEq_str {x y : Str} {b : Bool} (hx : x.cps.all (· < 0x110000) = true) (hy : y.cps.all (· < 0x110000) = true) (h : (x == y) = b) : bEq (.str x) (.str y) = ozB b := by
  unfold bEq
  rw [if_pos ⟨by simpa [okE] using hx, by simpa [okE] using hy⟩, eqv, h]
theorem bNe_str {x y : Str} {b : Bool} (hx : x.cps.all (· < 0x110000) = true) (hy : y.cps.all (· < 0x110000) = true) (h : (x == y) = b) : bNe (.str x) (.str y) = ozB (!b) := by
  unfold bNe
  rw [if_pos ⟨by simpa [okE] using hx, by simpa [okE] using hy⟩, eqv, h]
end VL

namespace VL
open PySem PySem.Spec PyProof.Rows L2
open Evl (Ex)
variable {K : PySem.W.Frag}
/-! ### a dict that is walked stands under a lock -/
structure Gm (G G' : Hp) : Prop where
  eq : ∀ a, (∀ k, ¬ Rd G a (.dK k)) → G' a = G a
  dk : ∀ a k, Rd G a (.dK k) → Rd G' a (.dK k)
theorem no_rd {G : Hp} {a : Addr} {u : HO} (h : G a = some u) (h1 : ∀ k, u ≠ .dK k) (h2 : ∀ o k, u ≠ .frz o (.dK k)) : ∀ k, ¬ Rd G a (.dK k) := fun k r => by
  rcases r with r | ⟨o, r⟩
  · rw [h] at r; exact h1 k (Option.some.inj r)
  · rw [h] at r; exact h2 o k (Option.some.inj r)
section
variable {G G' H H' : Hp} {a : Addr}
theorem Gm.put (m : Gm G G') {u : HO} (h : G a = some u) (h1 : ∀ k, u ≠ .dK k) (h2 : ∀ o k, u ≠ .frz o (.dK k)) : G' a = some u := by rw [m.eq a (no_rd h h1 h2)]; exact h
theorem Gm.l (m : Gm G G') {vs : List V} (h : SqL K G a vs) : SqL K G' a vs := by
  rcases h with (h | ⟨o, h⟩) | h
  · exact .inl (.inl (m.put h (by intro _ z; cases z) (by intro _ _ z; cases z)))
  · exact .inl (.inr ⟨o, m.put h (by intro _ z; cases z) (by intro _ _ z; cases z)⟩)
  · exact .inr h
theorem Gm.t (m : Gm G G') {vs : List V} (h : SqT K G a vs) : SqT K G' a vs := by
  rcases h with (h | ⟨o, h⟩) | h
  · exact .inl (.inl (m.put h (by intro _ z; cases z) (by intro _ _ z; cases z)))
  · exact .inl (.inr ⟨o, m.put h (by intro _ z; cases z) (by intro _ _ z; cases z)⟩)
  · exact .inr h
end
mutual
theorem Rp.gm {G G' : Hp} (m : Gm G G') : ∀ {v : V} {d : D}, Rp K G v d → Rp K G' v d
  | _, _, .non => .non
  | _, _, .bl b => .bl b
  | _, _, .int i => .int i
  | _, _, .str x => .str x
  | _, _, .lst h r => .lst (m.put h (by intro _ z; cases z) (by intro _ _ z; cases z)) (RpL.gm m r)
  | _, _, .fl h r => .fl (m.l h) (RpL.gm m r)
  | _, _, .tup h r => .tup (m.put h (by intro _ z; cases z) (by intro _ _ z; cases z)) (RpL.gm m r)
  | _, _, .ft h r => .ft (m.t h) (RpL.gm m r)
  | _, _, .dk h r => .dk (m.dk _ _ h) (RpK.gm m r)
  | _, _, .dt h r => .dt (m.put h (by intro _ z; cases z) (by intro _ _ z; cases z)) (RpT.gm m r)
theorem RpL.gm {G G' : Hp} (m : Gm G G') : ∀ {v : List V} {d : List D}, RpL K G v d → RpL K G' v d
  | _, _, .nil => .nil
  | _, _, .cons h r => .cons (Rp.gm m h) (RpL.gm m r)
theorem RpK.gm {G G' : Hp} (m : Gm G G') : ∀ {v : List (Key × V)} {d : List (Key × D)}, RpK K G v d → RpK K G' v d
  | _, _, .nil => .nil
  | _, _, .cons h r => .cons (Rp.gm m h) (RpK.gm m r)
theorem RpT.gm {G G' : Hp} (m : Gm G G') : ∀ {v : List (List Key × V)} {d : List (List Key × D)}, RpT K G v d → RpT K G' v d
  | _, _, .nil => .nil
  | _, _, .cons h r => .cons (Rp.gm m h) (RpT.gm m r)
end
theorem Ob.gm {G G' H H' : Hp} {a : Addr} {d : D} (h : Ob K G H a d) (m : Gm G G') (e : H' a = H a) : Ob K G' H' a d := by
  cases d with
  | lst ds => obtain ⟨vs, e1, r⟩ := h; exact ⟨_, e.trans e1, r.gm m⟩
  | dk es => obtain ⟨vs, e1, r⟩ := h; exact ⟨_, e.trans e1, r.gm m⟩
  | dt es => obtain ⟨vs, e1, r⟩ := h; exact ⟨_, e.trans e1, r.gm m⟩
  | _ => exact h.elim
theorem WOk.gm {G G' H H' : Hp} {a : Addr} (h : WOk K G H a) (m : Gm G G') (k : H' a = H a) : WOk K G' H' a := by
  obtain ⟨ad, t, ns, h1, h2, h3, h4⟩ := h
  exact ⟨ad, t, ns, by rw [k]; exact h1, h2, m.l h3, h4⟩
theorem gm_lock {G : Hp} {d : Addr} {o : Obj} {kvs : List (Key × V)} (h : G d = some (.dK kvs)) : Gm G (upd G d (.frz o (.dK kvs))) where
  eq := fun a hn => upd_ne fun z => by subst z; exact hn kvs (.inl h)
  dk := fun a k r => by
    by_cases e : a = d
    · subst e
      rcases r with r | ⟨o', r⟩
      · rw [h] at r; cases r; exact .inr ⟨o, upd_same⟩
      · rw [h] at r; cases r
    · rcases r with r | ⟨o', r⟩
      · exact .inl (by rw [upd_ne e]; exact r)
      · exact .inr ⟨o', by rw [upd_ne e]; exact r⟩
theorem gm_unlock {G : Hp} {d : Addr} {o : Obj} {kvs : List (Key × V)} (h : G d = some (.frz o (.dK kvs))) : Gm G (upd G d (.dK kvs)) where
  eq := fun a hn => upd_ne fun z => by subst z; exact hn kvs (.inr ⟨o, h⟩)
  dk := fun a k r => by
    by_cases e : a = d
    · subst e
      rcases r with r | ⟨o', r⟩
      · rw [h] at r; cases r
      · rw [h] at r; cases r; exact .inl upd_same
    · rcases r with r | ⟨o', r⟩
      · exact .inl (by rw [upd_ne e]; exact r)
      · exact .inr ⟨o', by rw [upd_ne e]; exact r⟩
def lkB (b : Bs) (d : Addr) (o : Obj) (kvs : List (Key × V)) : Bs := ⟨b.aw, upd b.G0 d (.frz o (.dK kvs)), upd b.B0 d (.frz o (.dK kvs))⟩
section
variable {b : Bs} {G H G' H' : Hp} {ρ ρ' : Rho} {σ σ' : L2.St} {d : Addr} {kvs : List (Key × V)} {o : Obj}
theorem Sim.lock (s : Sim K b G ρ σ H) (h : G d = some (.dK kvs)) (o : Obj) : Sim K (lkB b d o kvs) (upd G d (.frz o (.dK kvs))) ρ σ (upd H d (.frz o (.dK kvs))) := by
  have hw : b.aw ≠ some d := (hd_some (s.sub d _ h)).1
  refine ⟨s.len, fun a u e => ?_, fun a u e => ?_, fun a u e => ?_, fun a u e1 e2 => ?_, fun i x e => ?_, fun i x e => ?_, s.dj, s.ws, fun a e => ?_⟩
  · show hd b.aw _ a = _
    rw [hd_upd hw]
    by_cases z : a = d
    · subst z; rw [upd_same] at e; rw [upd_same]; exact e
    · rw [upd_ne z] at e; rw [upd_ne z]; exact s.sub a u e
  · by_cases z : a = d
    · subst z; rw [show (lkB b a o kvs).G0 = upd b.G0 a (.frz o (.dK kvs)) from rfl, upd_same] at e; rw [upd_same]; exact e
    · rw [show (lkB b d o kvs).G0 = upd b.G0 d (.frz o (.dK kvs)) from rfl, upd_ne z] at e; rw [upd_ne z]; exact s.g0 a u e
  · show hd b.aw _ a = _
    rw [hd_upd hw]
    by_cases z : a = d
    · subst z; rw [show (lkB b a o kvs).B0 = upd b.B0 a (.frz o (.dK kvs)) from rfl, upd_same] at e; rw [upd_same]; exact e
    · rw [show (lkB b d o kvs).B0 = upd b.B0 d (.frz o (.dK kvs)) from rfl, upd_ne z] at e; rw [upd_ne z]; exact s.b0 a u e
  · have z : a ≠ d := fun z => by subst z; rw [show (lkB b a o kvs).G0 = upd b.G0 a (.frz o (.dK kvs)) from rfl, upd_same] at e2; cases e2
    rw [show (lkB b d o kvs).B0 = upd b.B0 d (.frz o (.dK kvs)) from rfl, upd_ne z] at e1
    rw [show (lkB b d o kvs).G0 = upd b.G0 d (.frz o (.dK kvs)) from rfl, upd_ne z] at e2
    rw [upd_ne z]; exact s.new a u e1 e2
  · obtain ⟨v, h1, h2⟩ := s.fz i x e
    exact ⟨v, h1, h2.gm (gm_lock h)⟩
  · obtain ⟨a, h1, h2, h3, h4, h5⟩ := s.ow i x e
    have z : a ≠ d := fun z => by subst z; rw [h] at h4; cases h4
    refine ⟨a, h1, h2, ?_, by rw [upd_ne z]; exact h4, h5.gm (gm_lock h) (upd_ne z)⟩
    show upd b.B0 d _ a = none
    rw [upd_ne z]; exact h3
  · have z : a ≠ d := fun z => by subst z; exact hw e
    exact (s.wk a e).gm (gm_lock h) (upd_ne z)
theorem Sim.unlock (s : Sim K b G ρ σ H) (h : G d = some (.dK kvs)) (z : Sim K (lkB b d o kvs) G' ρ' σ' H') : G' d = some (.frz o (.dK kvs)) ∧ H' d = some (.frz o (.dK kvs)) ∧ Sim K b (upd G' d (.dK kvs)) ρ' σ' (upd H' d (.dK kvs)) := by
  have hw : b.aw ≠ some d := (hd_some (s.sub d _ h)).1
  have hg : G' d = some (.frz o (.dK kvs)) := z.g0 d _ (show upd b.G0 d _ d = _ from upd_same)
  have hh : H' d = some (.frz o (.dK kvs)) := (hd_some (z.sub d _ hg)).2
  refine ⟨hg, hh, z.len, fun a u e => ?_, fun a u e => ?_, fun a u e => ?_, fun a u e1 e2 => ?_, fun i x e => ?_, fun i x e => ?_, z.dj, z.ws, fun a e => ?_⟩
  · rw [hd_upd hw]
    by_cases y : a = d
    · subst y; rw [upd_same] at e; rw [upd_same]; exact e
    · rw [upd_ne y] at e; rw [upd_ne y]; exact z.sub a u e
  · by_cases y : a = d
    · subst y
      have := s.g0 a u e
      rw [h] at this; rw [upd_same]; exact this
    · rw [upd_ne y]; exact z.g0 a u (by show upd b.G0 d _ a = _; rw [upd_ne y]; exact e)
  · rw [hd_upd hw]
    by_cases y : a = d
    · subst y
      have h1 := s.b0 a u e
      have h2 := s.sub a _ h
      rw [h1] at h2; rw [upd_same]; exact h2.symm
    · rw [upd_ne y]; exact z.b0 a u (by show upd b.B0 d _ a = _; rw [upd_ne y]; exact e)
  · have y : a ≠ d := fun y => by
      subst y
      have := s.new a u e1 e2
      rw [h] at this; cases this
    rw [upd_ne y]
    exact z.new a u (by show upd b.B0 d _ a = _; rw [upd_ne y]; exact e1) (by show upd b.G0 d _ a = _; rw [upd_ne y]; exact e2)
  · obtain ⟨v, h1, h2⟩ := z.fz i x e
    exact ⟨v, h1, h2.gm (gm_unlock hg)⟩
  · obtain ⟨a, h1, h2, h3, h4, h5⟩ := z.ow i x e
    have y : a ≠ d := fun y => by subst y; rw [hg] at h4; cases h4
    refine ⟨a, h1, h2, ?_, by rw [upd_ne y]; exact h4, h5.gm (gm_unlock hg) (upd_ne y)⟩
    have h3' : upd b.B0 d (.frz o (.dK kvs)) a = none := h3
    rw [upd_ne y] at h3'; exact h3'
  · have y : a ≠ d := fun y => by subst y; exact hw e
    exact (z.wk a e).gm (gm_unlock hg) (upd_ne y)
theorem bn_ne {a : Addr} (h : (lkB b d o kvs).B0 a = none) : a ≠ d ∧ b.B0 a = none := by
  have h' : upd b.B0 d (.frz o (.dK kvs)) a = none := h
  have y : a ≠ d := fun y => by subst y; rw [upd_same] at h'; cases h'
  rw [upd_ne y] at h'; exact ⟨y, h'⟩
theorem Rr.unlock {k : Kd} {v : V} {x : D} (hg : G' d = some (.frz o (.dK kvs))) (r : Rr K (lkB b d o kvs) G' H' k v x) : Rr K b (upd G' d (.dK kvs)) (upd H' d (.dK kvs)) k v x := by
  cases k with
  | fz => exact Rp.gm (gm_unlock hg) r
  | nw =>
    obtain ⟨a, h1, h2, h3, h4, h5⟩ := r
    obtain ⟨y, h2'⟩ := bn_ne h2
    exact ⟨a, h1, h2', h3, by rw [upd_ne y]; exact h4, h5.gm (gm_unlock hg) (upd_ne y)⟩
  | br i => exact r
theorem EOk.lock {P : PEnds} {E : Ends} (e : EOk K b P E) (s : Sim K b G ρ σ H) (h : G d = some (.dK kvs)) (o : Obj) : EOk K (lkB b d o kvs) P
    ⟨fun σ' H' => H' d = some (.frz o (.dK kvs)) ∧ E.nx σ' (upd H' d (.dK kvs)), fun v H' => H' d = some (.frz o (.dK kvs)) ∧ E.rt v (upd H' d (.dK kvs)), fun σ' H' => H' d = some (.frz o (.dK kvs)) ∧ E.bk σ' (upd H' d (.dK kvs)), fun σ' H' => H' d = some (.frz o (.dK kvs)) ∧ E.ct σ' (upd H' d (.dK kvs))⟩ where
  nx := fun ρ σ G H q z => let u := s.unlock h z; ⟨u.2.1, e.nx _ _ _ _ q u.2.2⟩
  rt := fun d k v ρ σ G H q z r => let u := s.unlock h z; ⟨u.2.1, e.rt _ _ _ _ _ _ _ q u.2.2 (r.unlock u.1)⟩
  bk := fun ρ σ G H q z => let u := s.unlock h z; ⟨u.2.1, e.bk _ _ _ _ q u.2.2⟩
  ct := fun ρ σ G H q z => let u := s.unlock h z; ⟨u.2.1, e.ct _ _ _ _ q u.2.2⟩
theorem Xt.unlock (s : Sim K b G ρ σ H) (h : G d = some (.dK kvs)) (x : Xt (lkB b d o kvs) ρ σ (upd G d (.frz o (.dK kvs))) (upd H d (.frz o (.dK kvs))) ρ' G' H') : Xt b ρ σ G H ρ' (upd G' d (.dK kvs)) (upd H' d (.dK kvs)) := by
  have hw : b.aw ≠ some d := (hd_some (s.sub d _ h)).1
  have hs : hd b.aw H d = some (.dK kvs) := s.sub d _ h
  refine ⟨fun a u e => ?_, fun a u e => ?_, fun a u e n no => ?_, x.own⟩
  · by_cases y : a = d
    · subst y; rw [h] at e; rw [upd_same]; exact e
    · rw [upd_ne y]; exact x.g a u (by rw [upd_ne y]; exact e)
  · rw [hd_upd hw]
    by_cases y : a = d
    · subst y; rw [hs] at e; rw [upd_same]; exact e
    · rw [upd_ne y]
      refine x.h a u ?_
      show hd b.aw _ a = _
      rw [hd_upd hw, upd_ne y]; exact e
  · have y : a ≠ d := fun y => by subst y; rw [h] at n; cases n
    rw [upd_ne y]
    refine x.new a u ?_ (by rw [upd_ne y]; exact n) no
    show hd b.aw _ a = _
    rw [hd_upd hw, upd_ne y]; exact e
theorem Rv.unlock {k : Kd} {v : V} {x : D} (s : Sim K b G ρ σ H) (h : G d = some (.dK kvs)) (hg : G' d = some (.frz o (.dK kvs))) (r : Rv K (lkB b d o kvs) (upd H d (.frz o (.dK kvs))) G' H' ρ' σ k v x) : Rv K b H (upd G' d (.dK kvs)) (upd H' d (.dK kvs)) ρ' σ k v x := by
  have hw : b.aw ≠ some d := (hd_some (s.sub d _ h)).1
  cases k with
  | fz => exact Rp.gm (gm_unlock hg) r
  | nw =>
    obtain ⟨a, h1, h2, h3, h4, h5⟩ := r
    have h2' : hd b.aw (upd H d (.frz o (.dK kvs))) a = none := h2
    rw [hd_upd hw] at h2'
    have y : a ≠ d := fun y => by subst y; rw [upd_same] at h2'; cases h2'
    rw [upd_ne y] at h2'
    exact ⟨a, h1, h2', h3, by rw [upd_ne y]; exact h4, h5.gm (gm_unlock hg) (upd_ne y)⟩
  | br i => exact r
end
/-! ### the keys -/
def kD : Key → D
  | .inl i => .int i
  | .inr s => .str s
def keysD (es : List (Key × D)) : List D := es.map fun e => kD e.1
theorem kD_rp {G : Hp} : ∀ k : Key, Rp K G (kV k) (kD k)
  | .inl i => .int i
  | .inr s => .str s
theorem keys_at {G : Hp} : ∀ {kvs : List (Key × V)} {es : List (Key × D)} {i : Nat} {d : D}, RpK K G kvs es → (keysD es)[i]? = some d → ∃ k v, kvs[i]? = some (k, v) ∧ d = kD k
  | _, _, _, _, .nil, h => by simp [keysD] at h
  | _, _, 0, _, .cons a r, h => by simp [keysD] at h; subst h; exact ⟨_, _, rfl, rfl⟩
  | _, _, i + 1, _, .cons a r, h => by
    obtain ⟨k, v, h1, h2⟩ := keys_at (i := i) r (by simpa [keysD] using h)
    exact ⟨k, v, by simpa using h1, h2⟩
theorem keys_walk {G B : Hp} {a : Addr} {o : Obj} {kvs : List (Key × V)} {es : List (Key × D)} (h : B a = some (.frz o (.dK kvs))) (r : RpK K G kvs es) : Walks K (Itk a o kvs) (keysD es) G B := fun G2 H2 i e1 e2 e3 => by
  have hl : kvs.length = es.length := RpK.length r
  refine ⟨fun d hd => ?_, fun hi => ⟨e2 _ _ h, by simpa [keysD, hl] using hi⟩⟩
  obtain ⟨k, v, h1, rfl⟩ := keys_at r hd
  refine ⟨⟨e2 _ _ h, (List.getElem?_eq_some_iff.mp h1).1⟩, fun x H3 y => ?_⟩
  obtain ⟨rfl, k', v', h2, rfl⟩ := y
  rw [h1] at h2; cases h2
  exact .inl ⟨rfl, kD_rp k⟩
def wiK (i : Nat) : WI := fun ρ Q => wVar i ρ (toF fun d ρ1 => match d with
  | .dk es => Q (keysD es) ρ1
  | _ => False)
theorem key_var {b : Bs} {G H : Hp} {ρ : Rho} {σ : L2.St} {i : Nat} {Q : List D → Rho → Prop} (s : Sim K b G ρ σ H) (hq : wiK i ρ Q) : ∃ a kvs es ρ2 G2, σ[i]? = some (some (.ref a)) ∧ Sim K b G2 ρ2 σ H ∧ Xt b ρ σ G H ρ2 G2 H ∧ Rd G2 a (.dK kvs) ∧ RpK K G2 kvs es ∧ Q (keysD es) ρ2 := by
  have key : tVar i σ H (fun v H' => ∃ ρ2 G2 es, Sim K b G2 ρ2 σ H' ∧ Xt b ρ σ G H ρ2 G2 H' ∧ Rp K G2 v (.dk es) ∧ Q (keysD es) ρ2) := by
    refine snd_var i b G ρ σ H _ _ s hq fun d k ρ' v G' H' q x s' r => ?_
    refine frozen1 (R := fun v H' => ∃ ρ2 G2 es, Sim K b G2 ρ2 σ H' ∧ Xt b ρ σ G H ρ2 G2 H' ∧ Rp K G2 v (.dk es) ∧ Q (keysD es) ρ2) q x s s' r fun ρ2 G2 q2 x2 s2 r2 => ?_
    split at q2
    · exact ⟨ρ2, G2, _, s2, x2, r2, q2⟩
    · exact q2.elim
  obtain ⟨v, hv, ρ2, G2, es, s2, x2, r2, q2⟩ := key
  cases r2 with
  | dk h r => exact ⟨_, _, _, ρ2, G2, hv, s2, x2, h, r, q2⟩
/-! ### for -/
def tK (J : It) (H1 : Hp) : TI := fun _ _ R => R J H1
theorem for_core {tg : TG} {g : WG} {ts : TS} {tb : WS} (hg : SndG K tg g) (hb : SndS K ts tb) {b : Bs} {P : PEnds} {E : Ends} {G1 : Hp} {ρ1 : Rho} {σ : L2.St} {H1 H0 : Hp} {J : It} {xs : List D} (e : EOk K b P E) (s1 : Sim K b G1 ρ1 σ H1) (wk : Walks K J xs G1 G1) (q1 : wLoop g tb P xs ρ1) : tFor (tK J H1) tg ts E σ H0 := by
  refine ⟨fun i m σ H => m = xs.length - i ∧ i ≤ xs.length ∧ ∃ G2 ρ2, Sim K b G2 ρ2 σ H ∧ Ex G1 G2 ∧ wLoop g tb P (xs.drop i) ρ2, ⟨_, rfl, Nat.zero_le _, G1, ρ1, s1, Ex.refl _, q1⟩, ?_⟩
  rintro i m σ2 H2 ⟨rfl, hi2, G2, ρ2, s2, g2, q2⟩
  obtain ⟨w1, w2⟩ := wk G2 H2 i g2 (g2.trans s2.le) s2.le
  by_cases hlt : i < xs.length
  · obtain ⟨go, yl⟩ := w1 xs[i] (List.getElem?_eq_getElem hlt)
    rw [List.drop_eq_getElem_cons hlt] at q2
    refine .inr ⟨go, fun σ' H' => ∃ G' ρ', Sim K b G' ρ' σ' H' ∧ Ex G1 G' ∧ wLoop g tb P (xs.drop (i + 1)) ρ', fun σ' H' ⟨G', ρ', a1, a2, a3⟩ => ⟨xs.length - (i + 1), by omega, rfl, hlt, G', ρ', a1, a2, a3⟩, fun x H' y => ?_⟩
    refine yl_go s2 (yl x H' y) fun G3 g3 x3 s3 r3 => ?_
    refine hg b G3 ρ2 σ2 H' x _ _ _ s3 r3 q2 fun ρ4 σ4 q4 p4 => ?_
    -- the body, from G3 on: what it leaves frozen stays
    have b' : Sim K ⟨b.aw, G3, b.B0⟩ G3 ρ4 σ4 H' := ⟨p4.1.len, p4.1.sub, Ex.refl _, p4.1.b0, fun a o e1 e2 => e2, p4.1.fz, p4.1.ow, p4.1.dj, p4.1.ws, p4.1.wk⟩
    have back : ∀ {ρ σ G H}, Sim K ⟨b.aw, G3, b.B0⟩ G ρ σ H → Sim K b G ρ σ H ∧ Ex G1 G := fun {ρ σ G H} z =>
      ⟨⟨z.len, z.sub, s3.g0.trans z.g0, z.b0, fun a o e1 e2 => z.new a o e1 (s3.new a o e1 e2), z.fz, z.ow, z.dj, z.ws, z.wk⟩, (g2.trans g3).trans z.g0⟩
    refine hb ⟨b.aw, G3, b.B0⟩ _ _ G3 ρ4 σ4 H' ⟨fun ρ σ G H q z => ?_, fun d k v ρ σ G H q z r => ?_, fun ρ σ G H q z => ?_, fun ρ σ G H q z => ?_⟩ b' q4
    · exact ⟨G, ρ, (back z).1, (back z).2, q⟩
    · exact e.rt d k v ρ σ G H q (back z).1 (by cases k <;> exact r)
    · exact e.nx ρ σ G H q (back z).1
    · exact ⟨G, ρ, (back z).1, (back z).2, q⟩
  · have ei : i = xs.length := by omega
    subst ei
    rw [List.drop_length] at q2
    exact .inl ⟨w2 (Nat.le_refl _), e.nx ρ2 σ2 G2 H2 q2 s2⟩
def eiS (t : TS) : TS := fun E σ H => tLock t E σ H ∨ t E σ H
def eiE (t : TE) : TE := fun σ H Q => tLockE t σ H Q ∨ t σ H Q
theorem ps_or {X : Cx} {st : Stmt} {t u : TS} (h1 : PS X st t) (h2 : PS X st u) : PS X st (fun E σ H => t E σ H ∨ u E σ H) := ⟨fun pins s σ H E I h => by
  rcases h with h | h
  · exact h1.run pins s σ H E I h
  · exact h2.run pins s σ H E I h⟩
theorem pe_or {X : Cx} {e : Expr} {t u : TE} (h1 : PE X e t) (h2 : PE X e u) : PE X e (fun σ H Q => t σ H Q ∨ u σ H Q) := ⟨fun pins s σ H Q I h => by
  rcases h with h | h
  · exact h1.run pins s σ H Q I h
  · exact h2.run pins s σ H Q I h⟩
theorem snd_forK (i : Nat) {tg : TG} {g : WG} {ts : TS} {tb : WS} (hg : SndG K tg g) (hb : SndS K ts tb) : SndS K (eiS (tFor (iKeys (tVar i)) tg ts)) (wFor (wiK i) g tb) := fun b P E G ρ σ H e s hq => by
  obtain ⟨a, kvs, es, ρ2, G2, hv, s2, x2, hr, r, q⟩ := key_var s hq
  rcases hr with h | ⟨o, h⟩
  · left
    refine ⟨a, .dK kvs, s2.le _ _ h, trivial, fun od => ⟨.ref a, hv, a, od, rfl, .inl ⟨kvs, upd_same, ?_⟩⟩⟩
    exact for_core (H0 := H) hg hb (e.lock s2 h od) (s2.lock h od) (keys_walk upd_same (r.gm (gm_lock h))) q
  · right
    exact ⟨.ref a, hv, a, o, rfl, .inl ⟨kvs, s2.le _ _ h, for_core (H0 := H) hg hb e s2 (keys_walk h r) q⟩⟩
/-! ### comprehension -/
theorem comp_core {tg : TG} {g : WG} {tt : TT} {c : WT} {te : TE} {w : WE} {vs : List Nat} (hg : SndG K tg g) (hin : TgIn tg vs) (hc : SndT K tt c) (he : SndE K te w) {b : Bs} {G1 : Hp} {ρ1 : Rho} {σ : L2.St} {H1 H0 : Hp} {J : It} {xs : List D} {Q : D → Kd → Rho → Prop} {R : VK}
    (s1 : Sim K b G1 ρ1 σ H1) (wk : Walks K J xs G1 (hd b.aw H1)) (q1 : wCompL g c w vs xs [] (wipeR ρ1 vs) fun ds ρ2 => Q (.lst ds) .nw (restR ρ1 ρ2 vs))
    (k : ∀ d kd ρ' v G' H', Q d kd ρ' → Xt b ρ1 σ G1 H1 ρ' G' H' → Sim K b G' ρ' σ H' → Rv K b H1 G' H' ρ' σ kd v d → R v H') : tLc (tK J H1) tg tt te vs σ H0 R := by
  intro Dl hD
  have hwD := s1.aw_ne hD
  have h0D := s1.fresh0 hD
  have hfD : hd b.aw H1 Dl = none := hd_none hD
  let Qc : List D → Rho → Prop := fun ds ρ2 => Q (.lst ds) .nw (restR ρ1 ρ2 vs)
  refine ⟨fun i m H => m = xs.length - i ∧ i ≤ xs.length ∧ ∃ G2 ρ2 va acc, Sim K b G2 ρ2 (L2.wipe σ vs) H ∧ Xt b (wipeR ρ1 vs) (L2.wipe σ vs) G1 H1 ρ2 G2 H ∧ H Dl = some (.lst va) ∧ RpL K G2 va acc ∧ G2 Dl = none ∧ wCompL g c w vs (xs.drop i) acc ρ2 Qc,
    ⟨_, rfl, Nat.zero_le _, G1, wipeR ρ1 vs, [], [], (s1.wipe vs).laid hD, .laid hD, upd_same, .nil, s1.fresh hD, q1⟩, ?_⟩
  rintro i m H2 ⟨rfl, hi2, G2, ρ2, va, acc, s2, x2, hDl, ra, gD, q2⟩
  have e12 : Ex (hd b.aw H1) H2 := x2.h.trans hd_le
  obtain ⟨w1, w2⟩ := wk G2 H2 i x2.g e12 s2.le
  have noD : ∀ {ρ' G' H'}, Xt b (wipeR ρ1 vs) (L2.wipe σ vs) G1 H1 ρ' G' H' → ∀ (j : Nat) (d : D), ρ'[j]? = some (.ow d) → (L2.wipe σ vs)[j]? ≠ some (some (.ref Dl)) := fun {ρ' G' H'} x j d e z => by
    obtain ⟨a, e1, e2, e3, e4, e5⟩ := (s1.wipe vs).ow j d (x.own j d e)
    rw [z] at e1; cases e1
    exact e5.known hD
  by_cases hlt : i < xs.length
  · obtain ⟨go, yl⟩ := w1 xs[i] (List.getElem?_eq_getElem hlt)
    rw [List.drop_eq_getElem_cons hlt] at q2
    refine .inr ⟨go, fun H' => ∃ G' ρ' va acc, Sim K b G' ρ' (L2.wipe σ vs) H' ∧ Xt b (wipeR ρ1 vs) (L2.wipe σ vs) G1 H1 ρ' G' H' ∧ H' Dl = some (.lst va) ∧ RpL K G' va acc ∧ G' Dl = none ∧ wCompL g c w vs (xs.drop (i + 1)) acc ρ' Qc,
      fun H' ⟨G', ρ', va, acc, a1⟩ => ⟨xs.length - (i + 1), by omega, rfl, hlt, G', ρ', va, acc, a1⟩, fun x H' y => ?_⟩
    refine yl_go s2 (yl x H' y) fun G3 g3 x3 s3 r3 => ?_
    have x3' := x2.trans x3
    have hDl3 : H' Dl = some (.lst va) := (hd_some (x3.h Dl _ (by rw [hd_ne hwD]; exact hDl))).2
    have gD3 : G3 Dl = none := x3.new Dl _ (by rw [hd_ne hwD]; exact hDl) gD fun ⟨j, d, z1, z2⟩ => noD x2 j d z1 z2
    have q2 : g xs[i] ρ2 fun ρ1 => c ρ1 fun c' ρ2 => if c' = true then w ρ2 (toF fun d ρ3 => acc.length < LIM ∧ wCompL g c w vs (xs.drop (i + 1)) (acc ++ [d]) (wipeR ρ3 vs) Qc) else wCompL g c w vs (xs.drop (i + 1)) acc (wipeR ρ2 vs) Qc := q2
    have hww : L2.wipe (L2.wipe σ vs) vs = L2.wipe σ vs := by
      apply List.ext_getElem?
      intro j
      rw [wipe_get, wipe_length]
      split
      · rename_i h; rw [wipe_get, if_pos h]
      · rfl
    refine hin x (L2.wipe σ vs) (L2.wipe σ vs) H' (fun σ' H'' => L2.wipe σ' vs = L2.wipe σ vs → tt σ' H'' fun b H3 => if b = true then te σ' H3 fun y H4 => ∃ acc, H4 Dl = some (.lst acc) ∧ acc.length < sizeLine ∧ ∃ G' ρ' va ac, Sim K _ G' ρ' (L2.wipe σ vs) (upd H4 Dl (.lst (acc ++ [y]))) ∧ Xt _ (wipeR ρ1 vs) (L2.wipe σ vs) G1 H1 ρ' G' (upd H4 Dl (.lst (acc ++ [y]))) ∧ (upd H4 Dl (.lst (acc ++ [y]))) Dl = some (.lst va) ∧ RpL K G' va ac ∧ G' Dl = none ∧ wCompL g c w vs (xs.drop (i + 1)) ac ρ' Qc
      else ∃ G' ρ' va acc, Sim K _ G' ρ' (L2.wipe σ vs) H3 ∧ Xt _ (wipeR ρ1 vs) (L2.wipe σ vs) G1 H1 ρ' G' H3 ∧ H3 Dl = some (.lst va) ∧ RpL K G' va acc ∧ G' Dl = none ∧ wCompL g c w vs (xs.drop (i + 1)) acc ρ' Qc) _ hww (fun σ' H'' e' q' => ⟨e', q' e'⟩) ?_
    refine hg b G3 ρ2 (L2.wipe σ vs) H' x _ _ _ s3 r3 q2 fun ρ4 σ4 q4 p4 ew => ?_
    have fin : ∀ {ρ5 G5 H5}, Xt b ρ4 σ4 G3 H' ρ5 G5 H5 → Sim K b G5 ρ5 σ4 H5 → Xt b (wipeR ρ1 vs) (L2.wipe σ vs) G1 H1 (wipeR ρ5 vs) G5 H5 ∧ Sim K b G5 (wipeR ρ5 vs) (L2.wipe σ vs) H5 ∧ H5 Dl = some (.lst va) ∧ G5 Dl = none ∧ ∀ (j : Nat) (d : D), ρ5[j]? = some (.ow d) → σ4[j]? ≠ some (some (.ref Dl)) := fun {ρ5 G5 H5} y s5 => by
      have own4 : ∀ (j : Nat) (d : D) (a : Addr), ρ4[j]? = some (.ow d) → σ4[j]? = some (some (.ref a)) → Own (wipeR ρ1 vs) (L2.wipe σ vs) a := fun j d a z1 z2 => by
        obtain ⟨c1, c2⟩ := p4.2 j d z1
        exact ⟨j, d, x3'.own j d c1, by rw [← c2]; exact z2⟩
      have nD4 : ¬ Own ρ4 σ4 Dl := fun ⟨j, d, z1, z2⟩ => by
        obtain ⟨c1, c2⟩ := p4.2 j d z1
        rw [c2] at z2
        exact noD x3' j d c1 z2
      have hD5 : hd b.aw H' Dl = some (.lst va) := by rw [hd_ne hwD]; exact hDl3
      refine ⟨⟨x3'.g.trans y.g, x3'.h.trans y.h, fun a o e n no => y.new a o (x3'.h a o e) (x3'.new a o e n no) fun ⟨j, d, z1, z2⟩ => no (own4 j d a z1 z2), fun j d e => ?_⟩, ?_, (hd_some (y.h Dl _ hD5)).2, y.new Dl _ hD5 gD3 nD4, fun j d z1 z2 => nD4 ⟨j, d, y.own j d z1, z2⟩⟩
      · rw [wipeR_get] at e
        split at e
        · cases e
        · exact x3'.own j d (p4.2 j d (y.own j d e)).1
      · have := s5.wipe vs
        rw [ew] at this
        exact this
    refine hc b G3 ρ4 σ4 H' _ _ p4.1 q4 fun c' ρ5 G5 H5 q5 x5 s5 => ?_
    cases c' with
    | false =>
      refine iteF ?_
      obtain ⟨f1, f2, f3, f4, _⟩ := fin x5 s5
      exact ⟨G5, wipeR ρ5 vs, va, acc, f2, f1, f3, ra.mono (g3.trans x5.g), f4, q5⟩
    | true =>
      refine iteT ?_
      refine he b G5 ρ5 σ4 H5 _ _ s5 q5 fun d kd ρ6 v G6 H6 q6 x6 s6 r6 => ?_
      refine frozen (R := fun v H' => ∃ acc, H' Dl = some (.lst acc) ∧ acc.length < sizeLine ∧ ∃ G' ρ' va ac, Sim K b G' ρ' (L2.wipe σ vs) (upd H' Dl (.lst (acc ++ [v]))) ∧ Xt b (wipeR ρ1 vs) (L2.wipe σ vs) G1 H1 ρ' G' (upd H' Dl (.lst (acc ++ [v]))) ∧ (upd H' Dl (.lst (acc ++ [v]))) Dl = some (.lst va) ∧ RpL K G' va ac ∧ G' Dl = none ∧ wCompL g c w vs (xs.drop (i + 1)) ac ρ' Qc) q6 x6 s5 s6 r6 fun d ρ7 v G7 q7 x7 s7 r7 => ?_
      obtain ⟨f1, f2, f3, f4, f5⟩ := fin (x5.trans x7) s7
      have rv : RpL K G7 (va ++ [v]) (acc ++ [d]) := (ra.mono (g3.trans (x5.trans x7).g)).append (.cons r7 .nil)
      refine ⟨va, f3, by rw [ra.length]; exact lim_lt q7.1, G7, wipeR ρ7 vs, va ++ [v], acc ++ [d], f2.poke hwD h0D f4 (fun j d' z1 z2 => ?_), ⟨f1.g, fun a o e => ?_, f1.new, f1.own⟩, upd_same, rv, f4, q7.2⟩
      · obtain ⟨a, e1, e2, e3, e4, e5⟩ := (s1.wipe vs).ow j d' (f1.own j d' z1)
        rw [z2] at e1; cases e1
        exact e5.known hD
      · rw [hd_upd hwD, upd_ne (fun z => by subst z; rw [hfD] at e; cases e)]
        exact f1.h a o e
  · have ei : i = xs.length := by omega
    subst ei
    rw [List.drop_length] at q2
    refine .inl ⟨w2 (Nat.le_refl _), ?_⟩
    have q2 : Q (.lst acc) .nw (restR ρ1 ρ2 vs) := q2
    have hl : ρ1.length = ρ2.length := by rw [s1.len, s2.len, wipe_length]
    have hg2 : ∀ (j : Nat) (x : Slot), (restR ρ1 ρ2 vs)[j]? = some x → (j ∈ vs ∧ ρ1[j]? = some x) ∨ (j ∉ vs ∧ ρ2[j]? = some x ∧ (L2.wipe σ vs)[j]? = σ[j]?) := fun j x e => by
      rw [restR_get ρ1 ρ2 hl] at e
      by_cases hj : j ∈ vs
      · rw [if_pos hj] at e; exact .inl ⟨hj, e⟩
      · rw [if_neg hj] at e; exact .inr ⟨hj, e, by rw [wipe_get, if_neg fun z => hj z.1]⟩
    have own1 : ∀ (j : Nat) (d : D), (restR ρ1 ρ2 vs)[j]? = some (.ow d) → ρ1[j]? = some (.ow d) := fun j d e => by
      rcases hg2 j _ e with ⟨_, h⟩ | ⟨hj, h, _⟩
      · exact h
      · have := x2.own j d h
        rw [wipeR_get] at this
        split at this
        · cases this
        · exact this
    have sR : Sim K b G2 (restR ρ1 ρ2 vs) σ H2 := by
      refine ⟨by rw [restR_len, s2.len, wipe_length], s2.sub, s2.g0, s2.b0, s2.new, fun j d e => ?_, fun j d e => ?_, fun j k' d e v hne e1 e2 e3 e4 => s1.dj j k' d e v hne (own1 j d e1) (own1 k' e e2) e3 e4, fun j e => ?_, s2.wk⟩
      · rcases hg2 j _ e with ⟨_, h⟩ | ⟨hj, h, hs⟩
        · obtain ⟨v, e1, r⟩ := s1.fz j d h
          exact ⟨v, e1, r.mono x2.g⟩
        · obtain ⟨v, e1, r⟩ := s2.fz j d h
          exact ⟨v, by rw [← hs]; exact e1, r⟩
      · rcases hg2 j _ e with ⟨hj, h⟩ | ⟨hj, h, hs⟩
        · obtain ⟨a, e1, e2, e3, e4, e5⟩ := s1.ow j d h
          obtain ⟨o, ho, _⟩ := e5.there
          have ho1 : hd b.aw H1 a = some o := by rw [hd_ne e2]; exact ho
          refine ⟨a, e1, e2, e3, x2.new a o ho1 e4 fun z => ?_, e5.mono x2.g fun u hu => ?_⟩
          · obtain ⟨j', d', z1, z2⟩ := z
            rw [wipeR_get] at z1
            split at z1
            · cases z1
            · rename_i hn
              have hl' : j' < ρ1.length := (List.getElem?_eq_some_iff.mp z1).1
              have hn' : j' ∉ vs := fun z => hn ⟨z, hl'⟩
              rw [wipe_get, if_neg fun z => hn' z.1] at z2
              exact s1.dj j' j d' d _ (fun z => hn' (z ▸ hj)) z1 h z2 e1
          · exact (hd_some (x2.h a u (by rw [hd_ne e2]; exact hu))).2
        · obtain ⟨a, e1, e2⟩ := s2.ow j d h
          exact ⟨a, by rw [← hs]; exact e1, e2⟩
      · rcases hg2 j _ e with ⟨_, h⟩ | ⟨hj, h, hs⟩
        · exact s1.ws j h
        · obtain ⟨a, e1, e2⟩ := s2.ws j h
          exact ⟨a, e1, by rw [← hs]; exact e2⟩
    have xR : Xt b ρ1 σ G1 H1 (restR ρ1 ρ2 vs) G2 H2 := ⟨x2.g, x2.h, fun a o e n no => x2.new a o e n fun z => no (own_wipe z), own1⟩
    refine k _ .nw _ (.ref Dl) G2 H2 q2 xR sR ⟨Dl, rfl, ?_, hwD, gD, va, hDl, ra⟩
    exact hfD
theorem snd_compK (i : Nat) {tg : TG} {g : WG} {tt : TT} {c : WT} {te : TE} {w : WE} {vs : List Nat} (hg : SndG K tg g) (hin : TgIn tg vs) (hc : SndT K tt c) (he : SndE K te w) : SndE K (eiE (tLc (iKeys (tVar i)) tg tt te vs)) (wComp (wiK i) g c w vs) := fun b G ρ σ H Q R s hq k => by
  obtain ⟨a, kvs, es, ρ2, G2, hv, s2, x2, hr, r, q⟩ := key_var s hq
  rcases hr with h | ⟨o, h⟩
  · left
    refine ⟨a, .dK kvs, s2.le _ _ h, trivial, fun od => ⟨.ref a, hv, a, od, rfl, .inl ⟨kvs, upd_same, ?_⟩⟩⟩
    refine comp_core (H0 := H) (R := fun v H' => H' a = some (.frz od (.dK kvs)) ∧ R v (upd H' a (.dK kvs))) hg hin hc he (s2.lock h od) (keys_walk ((s2.lock h od).sub a _ upd_same) (r.gm (gm_lock h))) q fun d kd ρ' v G' H' q' x' s' r' => ?_
    obtain ⟨u1, u2, u3⟩ := s2.unlock h s'
    refine ⟨u2, k _ _ _ _ _ _ q' (x2.trans (Xt.unlock s2 h x')) u3 ?_⟩
    exact Rv.unlock s2 h u1 r'
  · right
    refine ⟨.ref a, hv, a, o, rfl, .inl ⟨kvs, s2.le _ _ h, ?_⟩⟩
    exact comp_core (H0 := H) hg hin hc he s2 (keys_walk (s2.sub a _ h) r) q fun d kd ρ' v G' H' q' x' s' r' => k _ _ _ _ _ _ q' (x2.trans x') s' r'
/-! ### wrappers -/
section
variable {X : Cx}
theorem s_forK (i : Nat) {tg iter : Expr} {tgt : TG} {g : WG} {sts : List Stmt} {ts : TS} {r : WS} {pos : Pos} (hi : SE X iter (tVar i) (wVar i)) (hg : SG X tg tgt g) (hb : SB X sts ts r) (hp : PassesOwn (model X.prog X.w) X.A X.env X.xe := by exact PassesOwn.never) (hc : X.calm = true := by rfl) (hs : ∀ x, foldedSetIterable iter X.env x = pure x := by intro _; rfl) :
    SS X (.For tg iter sts [] pos) (eiS (tFor (iKeys (tVar i)) tgt ts)) (wFor (wiK i) g r) :=
  ⟨ps_or (ps_lock (ps_for hp hc (pi_keys hi.pe) hg.pg hb.ps hs)) (ps_for hp hc (pi_keys hi.pe) hg.pg hb.ps hs), snd_forK i hg.snd hb.snd⟩
variable {elt tg iter : Expr} {ifs : List Expr} {scope : Scope} {pos : Pos} {tgt : P5 TG} {g : WG} {tt' : P5 TT} {te' : P5 TE} {p : WT} {t : WE}
theorem e_compK (i : Nat) (own : List (Str × Nat)) (hN : X.N.Nodup) (hi : SE X iter (tVar i) (wVar i)) (ok : BlkOk X.N X.env.scope scope own)
    (hg : ∀ s H C cl fp, SG (X.blk s H scope (compEnvC scope cl C X.env) fp) tg (tgt s H C cl fp) g) (hin : TgIn (one5 X tgt) (own.map (·.2))) (ht : ∀ s H C cl fp, STs (X.blk s H scope (compEnvC scope cl C X.env) fp) ifs (tt' s H C cl fp) p) (he : ∀ s H C cl fp, SE (X.blk s H scope (compEnvC scope cl C X.env) fp) elt (te' s H C cl fp) t)
    (hc : X.calm = true := by rfl) (hs : ∀ x, foldedSetIterable iter X.env x = pure x := by intro _; rfl) (h1 : ∀ s H C cl fp, tgt s H C cl fp = one5 X tgt := by intro _ _ _ _ _; rfl) (h2 : ∀ s H C cl fp, tt' s H C cl fp = one5 X tt' := by intro _ _ _ _ _; rfl) (h3 : ∀ s H C cl fp, te' s H C cl fp = one5 X te' := by intro _ _ _ _ _; rfl) :
    SE X (.ListComp elt [⟨tg, iter, ifs, 0⟩] scope pos) (eiE (tLc (iKeys (tVar i)) (one5 X tgt) (one5 X tt') (one5 X te') (own.map (·.2)))) (wComp (wiK i) g p t (own.map (·.2))) := by
  have pe := pe_lc (pos := pos) hc hN (pi_keys hi.pe) ok (fun s H C cl fp => h1 s H C cl fp ▸ (hg s H C cl fp).pg) (fun s H C cl fp => h2 s H C cl fp ▸ (ht s H C cl fp).pt) (fun s H C cl fp => h3 s H C cl fp ▸ (he s H C cl fp).pe) hs
  refine ⟨pe_or (pe_lock pe) pe, snd_compK i ?_ hin ?_ ?_⟩
  · exact (hg (PySem.start X.prog).1 (fun _ => none) 0 [] []).snd
  · exact (ht (PySem.start X.prog).1 (fun _ => none) 0 [] []).snd
  · exact (he (PySem.start X.prog).1 (fun _ => none) 0 [] []).snd
theorem s_compK (i : Nat) {j : Nat} {y : Str} {py : Pos} {spos : Pos} (own : List (Str × Nat)) (hN : X.N.Nodup) (hi : SE X iter (tVar i) (wVar i)) (ok : BlkOk X.N X.env.scope scope own)
    (hg : ∀ s H C cl fp, SG (X.blk s H scope (compEnvC scope cl C X.env) fp) tg (tgt s H C cl fp) g) (hin : TgIn (one5 X tgt) (own.map (·.2))) (ht : ∀ s H C cl fp, STs (X.blk s H scope (compEnvC scope cl C X.env) fp) ifs (tt' s H C cl fp) p) (he : ∀ s H C cl fp, SE (X.blk s H scope (compEnvC scope cl C X.env) fp) elt (te' s H C cl fp) t)
    (hy : X.N[j]? = some y := by rfl) (hyl : X.env.scope.names.lookup y = some .local := by rfl)
    (hsw : swapsWith (.ListComp elt [⟨tg, iter, ifs, 0⟩] scope pos) (some (.Name y py)) spos.line X.env = pure true := by exact sw_true rfl rfl rfl (by decide +kernel))
    (hc : X.calm = true := by rfl) (hs : ∀ x, foldedSetIterable iter X.env x = pure x := by intro _; rfl) (h1 : ∀ s H C cl fp, tgt s H C cl fp = one5 X tgt := by intro _ _ _ _ _; rfl) (h2 : ∀ s H C cl fp, tt' s H C cl fp = one5 X tt' := by intro _ _ _ _ _; rfl) (h3 : ∀ s H C cl fp, te' s H C cl fp = one5 X te' := by intro _ _ _ _ _; rfl) :
    SS X (.Assign [.Name y py] (.ListComp elt [⟨tg, iter, ifs, 0⟩] scope pos) spos) (eiS (tAsg (tLc (iKeys (tVar i)) (one5 X tgt) (one5 X tt') (one5 X te') (own.map (·.2))) (gName j))) (wAsg j (wComp (wiK i) g p t (own.map (·.2)))) := by
  have ps := ps_setLc hc hN hy hyl hsw (pi_keys hi.pe) ok (fun s H C cl fp => h1 s H C cl fp ▸ (hg s H C cl fp).pg) (fun s H C cl fp => h2 s H C cl fp ▸ (ht s H C cl fp).pt) (fun s H C cl fp => h3 s H C cl fp ▸ (he s H C cl fp).pe) hs
  refine ⟨ps_or (ps_lock ps) ps, fun b P E G ρ σ H e s hq => ?_⟩
  exact snd_asg (snd_compK i (hg (PySem.start X.prog).1 (fun _ => none) 0 [] []).snd hin (ht (PySem.start X.prog).1 (fun _ => none) 0 [] []).snd (he (PySem.start X.prog).1 (fun _ => none) 0 [] []).snd) b P E G ρ σ H e s hq
end
end VL

namespace VL
open PySem PySem.Spec PyProof.Rows L2
/-! ### readings that stand still: one answer, the slots as they were -/
def Kd.ok : Kd → Bool
  | .br _ => false
  | _ => true
def Ev (t : WE) (ρ : Rho) (d : D) (k : Kd) : Prop := ∀ Q : D → Kd → Rho → Prop, Q d k ρ → t ρ Q
def Et (t : WT) (ρ : Rho) (c : Bool) : Prop := ∀ Q : Bool → Rho → Prop, Q c ρ → t ρ Q
def Ea (t : WA) (ρ : Rho) (ds : List D) : Prop := ∀ Q : List D → Rho → Prop, Q ds ρ → t ρ Q
def Exs (t : WX) (ρ : Rho) (as : List A) : Prop := ∀ Q : List A → Rho → Prop, Q as ρ → t ρ Q
section
variable {ρ : Rho} {d e z : D} {k k' kz : Kd} {t u w : WE} {c c' : WT} {b b' : Bool} {ds : List D} {as : List A} {ta : WA} {tx : WX} {i j : Nat}
theorem toF_ok {Q : D → Rho → Prop} (h : k.ok = true) (q : Q d ρ) : toF Q d k ρ := by
  cases k with
  | fz => exact q
  | nw => exact q
  | br i => cases h
theorem ev_con : Ev (wCon d) ρ d .fz := fun _ q => q
theorem ev_var (h : ρ[i]? = some (.fz d)) : Ev (wVar i) ρ d .fz := fun Q q => by unfold wVar; rw [h]; exact q
theorem ev_own (h : ρ[i]? = some (.ow d)) : Ev (wVar i) ρ d (.br i) := fun Q q => by unfold wVar; rw [h]; exact q
theorem ev_bin {f : D → D → Oz} (ha : Ev t ρ d k) (hb : Ev u ρ e k') (h : f d e = some (z, kz)) : Ev (wBin f t u) ρ z kz := fun Q q => ha _ (hb _ (by rw [h]; exact q))
theorem ev_un {f : D → Oz} (ha : Ev t ρ d k) (h : f d = some (z, kz)) : Ev (wUn f t) ρ z kz := fun Q q => ha _ (by rw [h]; exact q)
theorem ea_nil : Ea wNil ρ [] := fun _ q => q
theorem ea_cons (h : Ev t ρ d k) (r : Ea ta ρ ds) : Ea (wCons t ta) ρ (d :: ds) := fun Q q => h _ (r _ q)
theorem ea_consF (h : Ev t ρ d k) (r : Ea ta ρ ds) (hk : k.ok = true := by rfl) : Ea (wConsF t ta) ρ (d :: ds) := fun Q q => h _ (toF_ok hk (r _ q))
theorem ev_tup (h : Ea ta ρ ds) (hl : ds.length ≤ LIM := by simp [LIM]) : Ev (wTup ta) ρ (.tup ds) .fz := fun Q q => h _ ⟨hl, q⟩
theorem ev_lst (h : Ea ta ρ ds) (hl : ds.length ≤ LIM := by simp [LIM]) : Ev (wLst ta) ρ (.lst ds) .nw := fun Q q => h _ ⟨hl, q⟩
theorem ev_cl {f : List D → Oz} (h : Ea ta ρ ds) (e : f ds = some (z, kz)) : Ev (wCl f ta) ρ z kz := fun Q q => h _ (by rw [e]; exact q)
theorem ex_nil : Exs xNil ρ [] := fun _ q => q
theorem ex_cons (h : Ev t ρ d k) (r : Exs tx ρ as) (hk : k.ok = true := by rfl) : Exs (xCons t tx) ρ (.d d :: as) := fun Q q => h _ (toF_ok hk (r _ q))
theorem ev_call {sp : FS} (h : Exs tx ρ as) (hs : ∀ q : D → Kd → Prop, q d k → sp as q) : Ev (wCall sp tx) ρ d k := fun Q q => h _ (hs _ q)
theorem ev_ifT (h : Et c ρ true) (a : Ev t ρ d k) : Ev (wIfE c t u) ρ d k := fun Q q => h _ (a _ q)
theorem ev_ifF (h : Et c ρ false) (a : Ev u ρ d k) : Ev (wIfE c t u) ρ d k := fun Q q => h _ (a _ q)
theorem ev_if (h : Et c ρ b) (a : b = true → Ev t ρ d k) (a' : b = false → Ev u ρ d k) : Ev (wIfE c t u) ρ d k := by
  cases b with
  | true => exact ev_ifT h (a rfl)
  | false => exact ev_ifF h (a' rfl)
theorem et_test (h : Ev t ρ (.bl b) k) : Et (wTest t) ρ b := fun Q q => h _ q
theorem et_not (h : Et c ρ b) : Et (wNot c) ρ (!b) := fun Q q => h _ q
theorem et_and (h : Et c ρ b) (h' : b = true → Et c' ρ b') : Et (wAnd c c') ρ (b && b') := fun Q q => h _ (by
  cases b with
  | true => exact h' rfl _ q
  | false => exact q)
theorem et_or (h : Et c ρ b) (h' : b = false → Et c' ρ b') : Et (wOr c c') ρ (b || b') := fun Q q => h _ (by
  cases b with
  | true => exact q
  | false => exact h' rfl _ q)
theorem ev_chain {f g : D → D → Oz} {x : D} {kx : Kd} (ha : Ev t ρ d k) (hb : Ev u ρ e k') (h1 : f d e = some (.bl b, .fz)) (hc : b = true → Ev w ρ x kx) (h2 : b = true → g e x = some (.bl b', .fz)) : Ev (wChain f g t u w) ρ (.bl (b && b')) .fz := fun Q q => by
  rw [wChain_e]
  refine ha _ (hb _ ?_)
  rw [h1]
  cases b with
  | true =>
    rw [chK_t]
    refine hc rfl _ ?_
    rw [h2 rfl]; exact q
  | false => rw [chK_f]; exact q
/-! statements -/
variable {P : PEnds} {s r : WS}
theorem sq_asg (h : Ev w ρ d .fz) (k : r P (ρ.set i (.fz d))) : wSeq (wAsg i w) r P ρ := h _ k
theorem sq_asgN (h : Ev w ρ d .nw) (k : r P (ρ.set i (.ow d))) : wSeq (wAsg i w) r P ρ := h _ k
theorem go_asg (h : Ev w ρ d .fz) (k : P.nx (ρ.set i (.fz d))) : wAsg i w P ρ := h _ k
theorem go_asgN (h : Ev w ρ d .nw) (k : P.nx (ρ.set i (.ow d))) : wAsg i w P ρ := h _ k
theorem go_ret (h : Ev w ρ d k) (q : P.rt d k.ret) : wRet w P ρ := h _ q
theorem sq_ret (h : Ev w ρ d k) (q : P.rt d k.ret) : wSeq (wRet w) r P ρ := h _ q
theorem go_ifT (h : Et c ρ true) (k : s P ρ) : wIf c s r P ρ := h _ k
theorem go_ifF (h : Et c ρ false) (k : r P ρ) : wIf c s r P ρ := h _ k
theorem sq_ifT {q : WS} (h : Et c ρ true) (k : wSeq s q P ρ) : wSeq (wIf c s r) q P ρ := h _ k
theorem sq_ifF {q : WS} (h : Et c ρ false) (k : wSeq r q P ρ) : wSeq (wIf c s r) q P ρ := h _ k
theorem sq_next (k : r P ρ) : wSeq wNext r P ρ := k
theorem sq_skip {q : WS} (h : Et c ρ false) (k : q P ρ) : wSeq (wIf c s wNext) q P ρ := h _ k
theorem go_skip (h : Et c ρ false) (k : P.nx ρ) : wIf c s wNext P ρ := h _ k
theorem sq_sq {q : WS} (k : wSeq s (wSeq r q) P ρ) : wSeq (wSeq s r) q P ρ := k
theorem sq_par2 (h : Ev t ρ d .fz) (h' : Ev u ρ e .fz) (k : r P ((ρ.set i (.fz d)).set j (.fz e))) : wSeq (wPar [i, j] (nCons t (nCons u nNil))) r P ρ := h _ (h' _ ⟨rfl, k⟩)
theorem sq_asgT2 {l : Nat} {a b : D} (h : Ev w ρ (.tup [a, b]) .fz) (k : r P ((ρ.set i (.fz a)).set j (.fz b))) : wSeq (wAsgT (wgTup 2 (wgCons (wgName i) (wgCons (wgName j) wgNil))) w) r P ρ := h _ ⟨rfl, k⟩
theorem sq_asgT3 {l : Nat} {a b c : D} (h : Ev w ρ (.tup [a, b, c]) .fz) (k : r P (((ρ.set i (.fz a)).set j (.fz b)).set l (.fz c))) : wSeq (wAsgT (wgTup 3 (wgCons (wgName i) (wgCons (wgName j) (wgCons (wgName l) wgNil)))) w) r P ρ := h _ ⟨rfl, k⟩
theorem ev_sl1 {n m : Int} {lo : Option Int} (h : Ev t ρ d k) (e : dSlice d (some n) none = some (z, kz)) : Ev (wSlice t (wPSome (wCon (.int n))) wPNone) ρ z kz := fun Q q => h _ (by show oB _ _; rw [e]; exact q)
theorem sq_app {xs : List D} (ho : ρ[i]? = some (.ow (.lst xs))) (h : Ev w ρ d k) (hl : xs.length < LIM) (q : r P (ρ.set i (.ow (.lst (xs ++ [d]))))) (hk : k.ok = true := by rfl) : wSeq (wMut i w fAppend) r P ρ := ⟨⟨_, ho⟩, h _ (toF_ok hk (by rw [ho]; show (match fAppend (.lst xs) d with | some z => _ | none => False); rw [fAppend, if_pos hl]; exact q))⟩
theorem go_app {xs : List D} (ho : ρ[i]? = some (.ow (.lst xs))) (h : Ev w ρ d k) (hl : xs.length < LIM) (q : P.nx (ρ.set i (.ow (.lst (xs ++ [d]))))) (hk : k.ok = true := by rfl) : wMut i w fAppend P ρ := ⟨⟨_, ho⟩, h _ (toF_ok hk (by rw [ho]; show (match fAppend (.lst xs) d with | some z => _ | none => False); rw [fAppend, if_pos hl]; exact q))⟩
end
section
variable {g : WG} {tb : WS} {P : PEnds} {α : Type}
/-- a loop that lays more items behind a list, turn by turn -/
theorem loop_fm (e : α → D) (f : α → List D) (C : α → Prop) (S : List D → Rho → Prop) (total : List D)
    (hs : ∀ a acc ρ, C a → S acc ρ → (acc ++ f a).length ≤ total.length → ∀ J : Rho → Prop, (∀ ρ', S (acc ++ f a) ρ' → J ρ') → g (e a) ρ fun ρ1 => tb ⟨J, P.rt, P.nx, J⟩ ρ1)
    (he : ∀ ρ, S total ρ → P.nx ρ) : ∀ (l : List α) (acc : List D) (ρ : Rho), (∀ a ∈ l, C a) → acc ++ l.flatMap f = total → S acc ρ → wLoop g tb P (l.map e) ρ
  | [], acc, ρ, _, ht, h => he ρ (by simpa [← ht] using h)
  | a :: l, acc, ρ, hc, ht, h => hs a acc ρ (hc a (by simp)) h (by rw [← ht]; simp) _ fun ρ' h' => loop_fm e f C S total hs he l (acc ++ f a) ρ' (fun b hb => hc b (by simp [hb])) (by rw [← ht]; simp) h'
/-- a loop that ends at the first item of a kind -/
theorem loop_find (e : α → D) (p : α → Bool) (S : Rho → Prop) (h0 : Option α) (C : α → Prop)
    (hy : ∀ a ρ, C a → S ρ → p a = true → h0 = some a → ∀ J : Rho → Prop, g (e a) ρ fun ρ1 => tb ⟨J, P.rt, P.nx, J⟩ ρ1)
    (hn : ∀ a ρ, C a → S ρ → p a = false → ∀ J : Rho → Prop, (∀ ρ', S ρ' → J ρ') → g (e a) ρ fun ρ1 => tb ⟨J, P.rt, P.nx, J⟩ ρ1)
    (he : ∀ ρ, S ρ → h0 = none → P.nx ρ) : ∀ (l : List α) (ρ : Rho), (∀ a ∈ l, C a) → (l.filter p).head? = h0 → S ρ → wLoop g tb P (l.map e) ρ
  | [], ρ, _, h, s => he ρ s (by rw [← h]; rfl)
  | a :: l, ρ, hc, h, s => by
    cases hp : p a with
    | true => exact hy a ρ (hc a (by simp)) s hp (by rw [← h, List.filter_cons_of_pos hp]; rfl) _
    | false => exact hn a ρ (hc a (by simp)) s hp _ fun ρ' s' => loop_find e p S h0 C hy hn he l ρ' (fun b hb => hc b (by simp [hb])) (by rw [← h, List.filter_cons_of_neg (by simp [hp])]) s'
theorem go_ext {ρ : Rho} {w : WE} {k : Kd} {i : Nat} {xs es : List D} (ho : ρ[i]? = some (.ow (.lst xs))) (h : Ev w ρ (.lst es) k) (hl : xs.length + es.length ≤ LIM) (q : P.nx (ρ.set i (.ow (.lst (xs ++ es))))) : wExtend i w P ρ := ⟨⟨_, ho⟩, h _ (by
  show (match ρ[i]?, D.lst es with
    | some (.ow (.lst ds)), .lst es => ds.length + es.length ≤ LIM ∧ P.nx (ρ.set i (.ow (.lst (ds ++ es))))
    | _, _ => False)
  rw [ho]; exact ⟨hl, q⟩)⟩
end
/-! comprehensions that stand still -/
def Ei (wi : WI) (ρ : Rho) (xs : List D) : Prop := ∀ Q : List D → Rho → Prop, Q xs ρ → wi ρ Q
section
variable {α : Type} {ρ : Rho} {wi : WI} {tt : WT} {t w : WE} {i j : Nat} {k : Kd} {xs : List D}
theorem ei_tup (h : Ev w ρ (.tup xs) k) : Ei (wiO w) ρ xs := fun Q q => h _ q
theorem ei_lst (h : Ev w ρ (.lst xs) k) : Ei (wiO w) ρ xs := fun Q q => h _ q
theorem rng0 (n : Nat) : rng 0 n = (List.range n).map fun (k : Nat) => D.int (k : Int) := by simp [rng]
theorem ei_r1 {n : Nat} {ta : WA} (h : Ea ta ρ [.int n]) (hn : n ≤ 1000000000) : Ei (wiR1 ta) ρ ((List.range n).map fun (k : Nat) => D.int (k : Int)) := fun Q q => by
  rw [wiR1_e]
  refine h _ ?_
  refine ⟨by unfold i62; omega, ?_⟩
  rw [show ((n : Int).toNat) = n by omega, rng0]
  exact q
theorem et_yes : Et wYes ρ true := fun Q q => q
theorem fm_filter (tb : α → Bool) (el : α → D) : ∀ l : List α, l.filterMap (fun a => if tb a = true then some (el a) else none) = (l.filter tb).map el
  | [] => rfl
  | a :: l => by
    rw [List.filterMap_cons, List.filter_cons, fm_filter tb el l]
    by_cases c : tb a = true <;> simp [c]
theorem ev_comp1 (e : α → D) (tb : α → Bool) (el : α → D) (l : List α) (hi : Ei wi ρ (l.map e)) (hl : l.length ≤ LIM) (ht : ∀ a ∈ l, Et tt ((wipeR ρ [i]).set i (.fz (e a))) (tb a))
    (he : ∀ a ∈ l, tb a = true → Ev t ((wipeR ρ [i]).set i (.fz (e a))) (el a) k) (hk : k.ok = true := by rfl) (hr : restR ρ (wipeR ρ [i]) [i] = ρ := by rfl) (hw : ∀ d, wipeR ((wipeR ρ [i]).set i (.fz d)) [i] = wipeR ρ [i] := by intro; rfl) :
    Ev (wComp wi (wgName i) tt t [i]) ρ (.lst ((l.filter tb).map el)) .nw := fun Q q => by
  unfold wComp
  refine hi _ ?_
  refine comp_mp e (fun a => if tb a = true then some (el a) else none) l hl (fun a ha K hK => ?_) ?_
  · show tt ((wipeR ρ [i]).set i (.fz (e a))) _
    refine ht a ha _ ?_
    by_cases c : tb a = true
    · rw [if_pos c]
      rw [if_pos c] at hK
      refine he a ha c _ (toF_ok hk ?_)
      rw [hw]; exact hK
    · rw [if_neg c]
      rw [if_neg c] at hK
      rw [hw]; exact hK
  · rw [fm_filter, hr]; exact q
theorem ev_comp2 (e1 e2 : α → D) (tb : α → Bool) (el : α → D) (l : List α) (hi : Ei wi ρ (l.map fun a => .tup [e1 a, e2 a])) (hl : l.length ≤ LIM) (ht : ∀ a ∈ l, Et tt (((wipeR ρ [i, j]).set i (.fz (e1 a))).set j (.fz (e2 a))) (tb a))
    (he : ∀ a ∈ l, tb a = true → Ev t (((wipeR ρ [i, j]).set i (.fz (e1 a))).set j (.fz (e2 a))) (el a) k) (hk : k.ok = true := by rfl) (hr : restR ρ (wipeR ρ [i, j]) [i, j] = ρ := by rfl)
    (hw : ∀ d d', wipeR (((wipeR ρ [i, j]).set i (.fz d)).set j (.fz d')) [i, j] = wipeR ρ [i, j] := by intros; rfl) :
    Ev (wComp wi (wgTup 2 (wgCons (wgName i) (wgCons (wgName j) wgNil))) tt t [i, j]) ρ (.lst ((l.filter tb).map el)) .nw := fun Q q => by
  unfold wComp
  refine hi _ ?_
  refine comp_mp (fun a => .tup [e1 a, e2 a]) (fun a => if tb a = true then some (el a) else none) l hl (fun a ha K hK => ?_) ?_
  · refine ⟨rfl, ?_⟩
    show tt (((wipeR ρ [i, j]).set i (.fz (e1 a))).set j (.fz (e2 a))) _
    refine ht a ha _ ?_
    by_cases c : tb a = true
    · rw [if_pos c]
      rw [if_pos c] at hK
      refine he a ha c _ (toF_ok hk ?_)
      rw [hw]; exact hK
    · rw [if_neg c]
      rw [if_neg c] at hK
      rw [hw]; exact hK
  · rw [fm_filter, hr]; exact q
theorem go_for {g : WG} {tb : WS} {P : PEnds} (hi : Ei wi ρ xs) (h : wLoop g tb P xs ρ) : wFor wi g tb P ρ := hi _ h
theorem ei_tupF (h : Ev w ρ (.tup xs) k) (hk : k.ok = true := by rfl) : Ei (wiF w) ρ xs := fun Q q => h _ (toF_ok hk q)
end
/-! ints -/
section
variable {x y : Int}
theorem i_le : bLeD (.int x) (.int y) = some (.bl (decide (x ≤ y)), .fz) := rfl
theorem i_lt : bLtD (.int x) (.int y) = some (.bl (decide (x < y)), .fz) := rfl
theorem i_ge : bGeD (.int x) (.int y) = some (.bl (decide (x ≥ y)), .fz) := rfl
theorem i_gt : bGtD (.int x) (.int y) = some (.bl (decide (x > y)), .fz) := rfl
end
end VL

namespace VL
open PySem PySem.Spec PyProof.Rows L2
/-! ### readings that may answer many things, the slots as they were -/
def Dm (t : WE) (ρ : Rho) (R : D → Prop) : Prop := ∀ Q : D → Kd → Rho → Prop, (∀ d, R d → Q d .fz ρ) → t ρ Q
def Dl (t : WA) (ρ : Rho) (n : Nat) (R : D → Prop) : Prop := ∀ Q : List D → Rho → Prop, (∀ ds, ds.length = n → (∀ x ∈ ds, R x) → Q ds ρ) → t ρ Q
def Dx (t : WX) (ρ : Rho) (R : List A → Prop) : Prop := ∀ Q : List A → Rho → Prop, (∀ as, R as → Q as ρ) → t ρ Q
section
variable {ρ : Rho} {t u w : WE} {ta : WA} {tx : WX} {R S T : D → Prop} {i j n : Nat} {k k' : Kd} {d : D} {m : Int} {r : WS} {P : PEnds}
theorem dm_ev (h : Ev t ρ d .fz) (hR : R d) : Dm t ρ R := fun Q q => h _ (q _ hR)
theorem dm_mono (h : Dm t ρ R) (hs : ∀ d, R d → S d) : Dm t ρ S := fun Q q => h _ fun d r => q d (hs d r)
theorem dm_next (hw : ρ[i]? = some .w) (h : Ev t ρ (.int m) k) (hm : 0 < m) (hk : k.ok = true := by rfl) : Dm (wCall spNext (xW i (xCons t xNil))) ρ (fun d => ∃ r, d = .int r ∧ 0 ≤ r ∧ r < m) :=
  fun Q q => ⟨hw, h _ (toF_ok hk (show spNext [.w, .d (.int m)] (fun d k => Q d k ρ) from next_go hm fun r a b => q _ ⟨r, rfl, a, b⟩))⟩
theorem dm_bin {f : D → D → Oz} (ha : Dm t ρ R) (hb : Dm u ρ S) (h : ∀ d e, R d → S e → ∃ z, f d e = some (z, .fz) ∧ T z) : Dm (wBin f t u) ρ T :=
  fun Q q => ha _ fun d hd => hb _ fun e he => by
    obtain ⟨z, h1, h2⟩ := h d e hd he
    show oB _ _
    rw [h1]; exact q _ h2
theorem dl_nil : Dl wNil ρ 0 R := fun Q q => q [] rfl (by simp)
theorem dl_cons (h : Dm t ρ R) (l : Dl ta ρ n R) : Dl (wConsF t ta) ρ (n + 1) R := fun Q q => h _ fun d hd => l _ fun ds h1 h2 => q (d :: ds) (by simp [h1]) fun x hx => by
  rcases List.mem_cons.mp hx with rfl | hx
  · exact hd
  · exact h2 x hx
theorem dl_ev (h : Ev t ρ d k) (hR : R d) (l : Dl ta ρ n R) (hk : k.ok = true := by rfl) : Dl (wConsF t ta) ρ (n + 1) R := fun Q q => h _ (toF_ok hk (l _ fun ds h1 h2 => q (d :: ds) (by simp [h1]) fun x hx => by
  rcases List.mem_cons.mp hx with rfl | hx
  · exact hR
  · exact h2 x hx))
theorem dm_pick (hw : ρ[i]? = some .w) (h : Dl ta ρ n R) (h0 : 0 < n := by decide) (h1 : n ≤ 1000 := by decide) : Dm (wCall spPick (xW i (xCons (wLst ta) xNil))) ρ R :=
  fun Q q => ⟨hw, h _ fun ds hl hR => ⟨by simp only [LIM]; omega, ds, rfl, fun e => by subst e; simp at hl; omega, by omega, fun x hx => q x (hR x hx)⟩⟩
theorem dm_pickE {xs : List D} (hw : ρ[i]? = some .w) (h : Ev t ρ (.lst xs) k) (h0 : xs ≠ []) (h1 : xs.length ≤ 1000) (hR : ∀ x ∈ xs, R x) (hk : k.ok = true := by rfl) : Dm (wCall spPick (xW i (xCons t xNil))) ρ R :=
  fun Q q => ⟨hw, h _ (toF_ok hk ⟨xs, rfl, h0, h1, fun x hx => q x (hR x hx)⟩)⟩
theorem dm_max {x : Int} {V : Int → Prop} (h : Ev t ρ (.int x) k) (h' : Dm u ρ fun d => ∃ r, d = .int r ∧ V r) : Dm (wCl cMax (wCons t (wCons u wNil))) ρ (fun d => ∃ r, d = .int (max x r) ∧ V r) := fun Q q => h _ (h' _ fun d ⟨r, e, hv⟩ => by
  subst e
  show oB (cMax [.int x, .int r]) (fun z k => Q z k ρ)
  rw [cMax2]; exact q _ ⟨r, rfl, hv⟩)
theorem dx_nil : Dx xNil ρ (fun as => as = []) := fun Q q => q [] rfl
theorem dx_cons {U : List A → Prop} (h : Dm t ρ R) (l : Dx tx ρ U) : Dx (xCons t tx) ρ (fun as => ∃ d bs, as = .d d :: bs ∧ R d ∧ U bs) := fun Q q => h _ fun d hd => l _ fun bs hb => q _ ⟨d, bs, rfl, hd, hb⟩
theorem dm_call {sp : FS} {U : List A → Prop} (h : Dx tx ρ U) (hs : ∀ as, U as → ∀ q : D → Kd → Prop, (∀ d, T d → q d .fz) → sp as q) : Dm (wCall sp tx) ρ T := fun Q q => h _ fun as ha => hs as ha _ q
/-- a call of one demonic argument, the rest stands -/
theorem dm_call1 {sp : FS} {as : List A} (h : Dm t ρ R) (l : Exs tx ρ as) (hs : ∀ d, R d → ∀ q : D → Kd → Prop, (∀ z, T z → q z .fz) → sp (.d d :: as) q) : Dm (wCall sp (xCons t tx)) ρ T := fun Q q => h _ fun d hd => l _ (hs d hd _ q)
theorem sq_asgD (h : Dm w ρ R) (q : ∀ d, R d → r P (ρ.set i (.fz d))) : wSeq (wAsg i w) r P ρ := h _ fun d hd => q d hd
theorem go_asgD (h : Dm w ρ R) (q : ∀ d, R d → P.nx (ρ.set i (.fz d))) : wAsg i w P ρ := h _ fun d hd => q d hd
theorem sq_par2D (h : Dm t ρ R) (h' : Dm u ρ S) (q : ∀ d e, R d → S e → r P ((ρ.set i (.fz d)).set j (.fz e))) : wSeq (wPar [i, j] (nCons t (nCons u nNil))) r P ρ := h _ fun d hd => h' _ fun e he => ⟨rfl, q d e hd he⟩
theorem sq_parL {d : D} (h : Ev t ρ d .nw) (h' : Dm u ρ S) (q : ∀ e, S e → r P ((ρ.set i (.ow d)).set j (.fz e))) : wSeq (wPar [i, j] (nCons t (nCons u nNil))) r P ρ := h _ (h' _ fun e he => ⟨rfl, q e he⟩)
theorem sq_parM {d : D} (h : Ev t ρ d .nw) (h' : Ev u ρ e .fz) (q : r P ((ρ.set i (.ow d)).set j (.fz e))) : wSeq (wPar [i, j] (nCons t (nCons u nNil))) r P ρ := h _ (h' _ ⟨rfl, q⟩)
theorem dm_add {V W : Int → Prop} (ha : Dm t ρ fun d => ∃ r, d = .int r ∧ V r) (hb : Dm u ρ fun d => ∃ r, d = .int r ∧ W r) : Dm (wBin bAdd t u) ρ (fun d => ∃ r, d = .int r ∧ ∃ a b, r = a + b ∧ V a ∧ W b) :=
  dm_bin ha hb fun d e ⟨a, h1, h2⟩ ⟨b, h3, h4⟩ => by subst h1; subst h3; exact ⟨_, bAdd_i, _, rfl, a, b, rfl, h2, h4⟩
theorem dm_int {x : Int} {V : Int → Prop} (h : Ev t ρ (.int x) .fz) (hv : V x) : Dm t ρ (fun d => ∃ r, d = .int r ∧ V r) := dm_ev h ⟨x, rfl, hv⟩
/-- a draw added -/
theorem dm_addE {x : Int} {W : Int → Prop} (ha : Ev t ρ (.int x) k) (hb : Dm u ρ fun d => ∃ r, d = .int r ∧ W r) : Dm (wBin bAdd t u) ρ (fun d => ∃ r, d = .int (x + r) ∧ W r) := fun Q q => ha _ (hb _ fun d ⟨r, e, h⟩ => by
  subst e
  show oB (bAdd (.int x) (.int r)) _
  rw [bAdd_i]; exact q _ ⟨r, rfl, h⟩)
end
end VL

namespace VL
open PySem PySem.Spec PyProof.Rows L2
open Evl (Ex)
variable {K : PySem.W.Frag}
/-! ### d.update(e), e a new dict -/
def tUpd (td ty : TE) : TE := fun σ H Q => td σ H fun x H1 => ∃ a, x = .ref a ∧ IsD H1 a ∧ ty σ H1 fun y H2 => ∃ b kvs more, y = .ref b ∧ H2 a = some (.dK kvs) ∧ H2 b = some (.dK more) ∧ a ≠ b ∧ kvs.length + more.length ≤ sizeLine ∧ Q .non (upd H2 a (.dK (mergeK kvs more)))
theorem len_merge : ∀ (more kvs : List (Key × V)), (mergeK kvs more).length ≤ kvs.length + more.length
  | [], kvs => by simp [mergeK]
  | (k, v) :: more, kvs => by
    have a := len_merge more (putK kvs k v)
    have b := length_putK kvs k v
    show (mergeK (putK kvs k v) more).length ≤ _
    rw [List.length_cons]
    omega
theorem pe_upd {X : Cx} {o e : Expr} {apos cpos : Pos} {td ty : TE} (ho : PE X o td) (he : PE X e ty) (m : M1 X o "update" apos e cpos) : PE X (.Call (.Attribute o "update" apos) [e] [] cpos) (tUpd td ty) := by
  refine ⟨fun pins s σ H Q I h => ?_⟩
  refine wpAny_Call_method m.base m.few m.line PySem.F.plainAttrs_dict PySem.F.slot_dict_update PySem.F.type_dict_update (thn (ho.run pins s σ H _ I h) fun u s1 ⟨x, H1, I1, rx, a, ex, d, q1⟩ => ?_)
  subst ex
  obtain rfl : u = Value.ref a := rx
  obtain ⟨t1, t2, _⟩ := isD_at I1 d
  refine ⟨t1, t2, ?_⟩
  rw [m.trees]
  refine Calls.callWith_builtin rfl (Calls.evalArgs_plain (Calls.spliced_cons (thn (he.run pins s1 σ H1 _ I1 q1) fun iv s2 ⟨y, H2, I2, ry, b, kvs, more, ey, ha, hb, ne, hl, q2⟩ => Calls.spliced_nil ?_)))
  subst ey
  obtain rfl : iv = Value.ref b := ry
  obtain ⟨z1, n1, vs, r1, d1⟩ := dk_of I2.hok ha
  obtain ⟨z2, n2, us, r2, d2⟩ := dk_of I2.hok hb
  have l1 : kvs.length = vs.length := Paired.length r1
  have l2 : more.length = us.length := Paired.length r2
  refine call_meetsIn PySem.F.slot_dict_update d1.typeIs PySem.F.entry_dict_update (PySem.F.args_dict_update_2 _ _) (meets_dict_update (mixKind X.prog X.w) a b ne n2) ⟨vs, us, d1, d2, by rw [← l1, ← l2]; exact hl, fun h' m1 _ same => ?_⟩
  have hx : ∃ ob, h'.get? a = some ob := let ⟨ob, _, _, g, _⟩ := m1; ⟨ob, g⟩
  exact ⟨.non, _, d_write I2 (by rw [ha]; exact True.intro) same hx (dk_new (Nat.le_trans (len_merge more kvs) hl) n1 (KV.merge r2 r1) m1), rfl, q2⟩
def wUpd (j : Nat) (w : WE) : WS := fun P ρ => (∃ es, ρ[j]? = some (.ow (.dk es))) ∧ w ρ fun d k ρ1 => match ρ1[j]?, d, k with
  | some (.ow (.dk es)), .dk more, .nw => es.length + more.length ≤ LIM ∧ P.nx (ρ1.set j (.ow (.dk (mergeD es more))))
  | _, _, _ => False
theorem snd_upd {j : Nat} {te : TE} {w : WE} (h : SndE K te w) : SndS K (tDrop (tUpd (tVar j) te)) (wUpd j w) := fun b P E G ρ σ H e s hq => by
  obtain ⟨⟨es0, e0⟩, hq⟩ := hq
  obtain ⟨a, h1, h2, h3, h4, vs0, h5, h6⟩ := s.ow j _ e0
  refine ⟨_, h1, a, rfl, .inl ⟨_, .inl h5⟩, ?_⟩
  refine h b G ρ σ H _ _ s hq fun d k ρ' v G' H' q x s' r => ?_
  split at q
  · rename_i es more e2
    obtain ⟨a', c1, c2, c3, c4, vs, c6, c7⟩ := s'.ow j _ e2
    rw [h1] at c1; cases c1
    obtain ⟨a2, rfl, o1, o2, o3, us, o4, o5⟩ := r
    have ne : a ≠ a2 := fun z => by
      subst z
      rw [hd_ne h2, h5] at o1; cases o1
    have l1 : vs.length = es.length := RpK.length c7
    have l2 : us.length = more.length := RpK.length o5
    exact ⟨a2, vs, us, rfl, c6, o4, ne, by rw [l1, l2]; exact lim_le q.1, e.nx _ σ G' _ q.2 (s'.put e2 h1 ⟨_, upd_same, RpK.merge o5 c7⟩)⟩
  · exact q.elim
theorem s_upd {X : Cx} {e : Expr} {te : TE} {w : WE} {n : Str} {np ap cp pos : Pos} (i : Nat) (he : SE X e te w) (hN : X.N[i]? = some n := by rfl) (hv : Vis X.env.scope n := by first | exact Or.inl rfl | exact Or.inr (Or.inl rfl) | exact Or.inr (Or.inr rfl)) (hd : (n == ("__debug__" : Str)) = false := by decide) (hcd : (n == ("__classdict__" : Str)) = false := by decide)
    (h1 : attributeBase (.Name n np) "update" X.env (eval (.Name n np) X.env) = eval (.Name n np) X.env := by rfl)
    (h2 : ((backTo cp (starEach [e] X.env)).all (fun x => !x.1) && (backToKw cp (keywordEach [] X.env)).all (fun x => x.1.isSome) && decide (([e] : List Expr).length + ([] : List Keyword).length + (if ([] : List Keyword).isEmpty then 0 else 1) < 30)) = true := by rfl)
    (h3 : (ap.endLine == cp.line) = true := by rfl) (h4 : backTo cp (starEach [e] X.env) = [(false, eval e X.env)] := by rfl) :
    SS X (.Expr (.Call (.Attribute (.Name n np) "update" ap) [e] [] cp) pos) (tDrop (tUpd (tVar i) te)) (wUpd i w) :=
  ⟨ps_expr (pe_upd (pe_var hN hv hd hcd) he.pe ⟨h1, h2, h3, h4⟩), snd_upd he.snd⟩
end VL

/-! VQ0: sets of keys (ints and texts) that can be walked. -/
namespace VL
open PySem PySem.Spec PyProof.Rows L2
open Evl (Ex)

/-- a table by whose slots a walk goes -/
def Wk (w : World) (t : SetTable) : Prop := Ris t.place.toList ∧ (w.params.followText "set-order" = true ∨ t.led = true)
def eKey (e : Int × Value) : Key := match e.2 with
  | .int k _ => .inl k
  | .str x _ => .inr x
  | _ => .inl 0
def KEnt (w : World) (e : Int × Value) : Prop := keyIs (eKey e) e.2 = true ∧ e.1 = keyH w (eKey e)
theorem eKey_of {k : Key} {e : Int × Value} (h : keyIs k e.2 = true) : eKey e = k := by
  obtain ⟨c, v⟩ := e
  rcases keyIs_shape h with ⟨i, t, rfl, q⟩ | ⟨x, t, rfl, q⟩ <;> (simp only at q; subst q; rfl)
theorem kent_scan {w : World} {e : Int × Value} (h : KEnt w e) : e.2.scannable = true := by
  obtain ⟨c, v⟩ := e
  rcases keyIs_shape h.1 with ⟨i, t, _, q⟩ | ⟨x, t, _, q⟩ <;> (simp only at q; subst q; rfl)
theorem kent_is {w : World} {e : Int × Value} (h : KEnt w e) (P : Program) (k : Key) : (mixKind P w).is k e.2 = true ↔ eKey e = k := by
  rw [mixKind_is]
  exact ⟨eKey_of, fun q => q ▸ h.1⟩
theorem kent_els {w : World} {l : List (Int × Value)} (P : Program) (h : ∀ e ∈ l, KEnt w e) : ElemsOf (mixKind P w) l := fun e he => ⟨⟨eKey e, (kent_is (h e he) P _).2 rfl, (h e he).2⟩, kent_scan (h e he)⟩
/-- at a there lies a set of these keys, in an order of its own -/
def SetM (w : World) (h : Heap) (a : Addr) (ks : List Key) : Prop :=
  ∃ o es ep t, h.get? a = some o ∧ o.ExactSet ∧ o.data = .set es ep t ∧ ((∀ e ∈ es.toList, KEnt w e) ∧ (es.toList.map eKey).Perm ks ∧ ks.Nodup) ∧ (es.size < scanBound ∧ t.fits es.size = true) ∧ Wk w t
theorem SetM.to {w : World} {h h' : Heap} {a : Addr} {ks : List Key} (R : SetM w h a ks) (k : ∀ o, h.get? a = some o → h'.get? a = some o) : SetM w h' a ks :=
  let ⟨o, es, ep, t, ho, r⟩ := R; ⟨o, es, ep, t, k o ho, r⟩
theorem setM_len {w : World} {h : Heap} {a : Addr} {ks : List Key} (R : SetM w h a ks) : ks.length < scanBound := by
  obtain ⟨o, es, ep, t, _, _, _, ⟨_, pm, _⟩, ⟨hb, _⟩, _⟩ := R
  rw [← pm.length_eq, List.length_map, Array.length_toList]; exact hb
section
variable {P : Program} {w : World} {A : Around} {E : Value → Shared → Prop} {s : Shared} {a : Addr} {ks : List Key}

/-- the new table is stored, and laid anew where it is too full -/
theorem setM_end {f : Bool → Sem Unit} (hf : ∀ (b : Bool) (s₁ : Shared) (Q' : Unit → Shared → Prop), Q' () s₁ → wpAny (model P w) A (f b) Q' E s₁)
    {o : Obj} {es es1 : Array (Int × Value)} {ep : Nat} {t t1 : SetTable} (ho : s.heap.get? a = some o) (hx : o.ExactSet) (hd : o.data = .set es ep t)
    (all : (∀ e ∈ es1.toList, KEnt w e) ∧ (es1.toList.map eKey).Perm ks ∧ ks.Nodup) (room : es1.size < scanBound) (fit : t1.fits es1.size = true) (hw : Wk w t1) {wd : Bool} {R : Option Bool → Shared → Prop}
    (hR : ∀ h', Heap.SameBut a s.heap h' → SetM w h' a ks → R (some true) { s with heap := h' }) :
    wpAny (model P w) A (do
        storeSet a es1 t1
        if (!wd && t1.tooFull) = true then do
            f (relayAll t1 es1 (SetTable.grown es1.size)).2.2
            storeSet a (relayAll t1 es1 (SetTable.grown es1.size)).1 (relayAll t1 es1 (SetTable.grown es1.size)).2.1
            pure (some true)
          else pure (some true)) R E s := by
  have z1 := store_at (es' := es1) (t' := t1) ho hd
  have c1 := Heap.SameBut.update s.heap a (Obj.putSet es1 t1)
  refine wpAny_bind (wpAny_storeSet_of ho hd ?_ (fits_of_scanBound room))
  split
  · have y1 := relayAll_perm t1 es1 (SetTable.grown es1.size)
    have y2 := relayAll_fits t1 es1 (SetTable.grown es1.size)
    have y3 := relayAll_ris t1 es1 (SetTable.grown es1.size)
    have y4 := relayAll_led t1 es1 (SetTable.grown es1.size)
    generalize relayAll t1 es1 (SetTable.grown es1.size) = Z at y1 y2 y3 y4 ⊢
    obtain ⟨es2, t2, b⟩ := Z
    simp only at y1 y2 y3 y4 ⊢
    have y5 : es2.size < scanBound := by
      have := y1.length_eq
      rw [Array.length_toList, Array.length_toList] at this
      rw [this]; exact room
    refine wpAny_bind (hf _ _ _ (wpAny_bind (wpAny_storeSet_of z1 rfl (wpAny_pure (hR _ (c1.trans (Heap.SameBut.update _ a _)) ?_)) (fits_of_scanBound y5))))
    exact ⟨_, es2, _, t2, store_at (es' := es2) (t' := t2) z1 rfl, hx, rfl, ⟨fun e he => all.1 e (y1.mem_iff.mp he), (y1.map eKey).trans all.2.1, all.2.2⟩, ⟨y5, y2⟩, y3, hw.2.imp_right fun q => y4.trans q⟩
  · exact wpAny_pure (hR _ c1 ⟨_, es1, _, t1, z1, hx, rfl, all, ⟨room, fit⟩, hw⟩)
/-- a key laid to those that lie there -/
def addK (ks : List Key) (k : Key) : List Key := if ks.any (fun j => decide (j = k)) = true then ks else ks ++ [k]
theorem addK_in {ks : List Key} {k : Key} (h : k ∈ ks) : addK ks k = ks := if_pos (List.any_eq_true.mpr ⟨k, h, decide_eq_true rfl⟩)
theorem addK_out {ks : List Key} {k : Key} (h : k ∉ ks) : addK ks k = ks ++ [k] := if_neg fun q => by
  obtain ⟨j, hj, e⟩ := List.any_eq_true.mp q
  exact h (of_decide_eq_true e ▸ hj)
theorem setM_add {k : Key} {v : Value} {Q : Bool → Shared → Prop} (hk : keyIs k v = true) (R : SetM w s.heap a ks) (room : ks.length + 1 < scanBound)
    (hQ : ∀ b h', Heap.SameBut a s.heap h' → SetM w h' a (addK ks k) → Q b { s with heap := h' }) :
    wpAny (model P w) A (setAddHashed a v ((mixKind P w).hash k)) Q E s := by
  obtain ⟨o, es, ep, t, ho, hx, hd, ⟨al, pm, nd⟩, ⟨hb, hf⟩, hw⟩ := R
  have el : ElemsOf (mixKind P w) es.toList := kent_els P al
  have sc : v.scannable = true := kent_scan (w := w) (e := (keyH w k, v)) ⟨by rw [eKey_of (e := (keyH w k, v)) hk]; exact hk, by rw [eKey_of (e := (keyH w k, v)) hk]⟩
  have ek : eKey (keyH w k, v) = k := eKey_of hk
  unfold setAddHashed setAddHashedIn
  refine wpAny_holding (wpAny_bind (wpAny_setState_of ho hd hf ?_))
  simp only [byScan_of sc hb el, ↓reduceIte]
  unfold setAddByScan
  refine wpAny_bind (wpAny_bind (wpAny_rule (wpAny_bind (wpAny_setScan_of (knd := mixKind P w) hk ho hd hf el ?_))))
  cases fi : es.toList.findIdx? (fun e => (mixKind P w).is k e.2) with
  | some j =>
    obtain ⟨hj, pj, _⟩ := List.findIdx?_eq_some_iff_getElem.mp fi
    have hm : k ∈ ks := by
      refine pm.mem_iff.mp (List.mem_map.mpr ⟨es.toList[j], List.getElem_mem hj, ?_⟩)
      exact (kent_is (al _ (List.getElem_mem hj)) P k).1 pj
    refine wpAny_pure (wpAny_pure (hQ _ s.heap (Heap.SameBut.refl a s.heap) ?_))
    rw [addK_in hm]
    exact ⟨o, es, ep, t, ho, hx, hd, ⟨al, pm, nd⟩, ⟨hb, hf⟩, hw⟩
  | none =>
    have hn : k ∉ ks := fun hm => by
      obtain ⟨e, he, q⟩ := List.mem_map.mp (pm.mem_iff.mpr hm)
      have := List.findIdx?_eq_none_iff.mp fi e he
      rw [(kent_is (al e he) P k).2 q] at this; cases this
    have gw : ∀ (b : Bool) {s₁ : Shared} {Q' : Unit → Shared → Prop}, Q' () s₁ → wpAny (model P w) A (match b with | true => rule "set.scan.the-table-gave-way" | false => pure ()) Q' E s₁ := fun b s₁ Q' q => by
      cases b
      · exact wpAny_pure q
      · exact wpAny_rule q
    have y1 := layNew_perm t es (keyH w k) v
    have y2 := layNew_fits t es (keyH w k) v
    have y3 := layNew_ris t es (keyH w k) v hw.1
    have y4 := layNew_led t es (keyH w k) v
    show wpAny (model P w) A _ _ _ _
    have hh : (mixKind P w).hash k = keyH w k := rfl
    simp only [hh]
    generalize layNew t es (keyH w k) v = Z at y1 y2 y3 y4 ⊢
    obtain ⟨es1, t1, wd, b⟩ := Z
    simp only at y1 y2 y3 y4 ⊢
    have p1 : es1.toList.Perm ((keyH w k, v) :: es.toList) := (by rw [Array.toList_push] at y1; exact y1.trans (List.perm_append_singleton _ _))
    have a1 : (∀ e ∈ es1.toList, KEnt w e) ∧ (es1.toList.map eKey).Perm (addK ks k) ∧ (addK ks k).Nodup := by
      refine ⟨fun e he => ?_, ?_, ?_⟩
      · rcases List.mem_cons.mp (p1.mem_iff.mp he) with rfl | q
        · exact ⟨by rw [ek]; exact hk, by rw [ek]⟩
        · exact al e q
      · have := p1.map eKey
        rw [List.map_cons, ek] at this
        rw [addK_out hn]
        exact (this.trans (pm.cons k)).trans (List.perm_append_singleton k ks).symm
      · rw [addK_out hn]
        exact (List.perm_append_singleton k ks).nodup_iff.mpr (List.nodup_cons.mpr ⟨hn, nd⟩)
    have b1 : es1.size < scanBound := by
      have q := a1.2.1.length_eq
      rw [List.length_map, Array.length_toList, addK_out hn, List.length_append] at q
      rw [q]; exact room
    have w1 : Wk w t1 := ⟨y3, hw.2.imp_right fun q => y4.trans q⟩
    have fin : ∀ h', Heap.SameBut a s.heap h' → SetM w h' a (addK ks k) → Q true { s with heap := h' } := fun h' => hQ true h'
    refine wpAny_bind (gw _ ?_)
    split
    · refine wpAny_bind ?_
      rw [hashByValue_scannable 8 sc]
      refine wpAny_pure (setM_end (ks := addK ks k) (fun b s₁ Q' q => gw b q) ho hx hd a1 b1 ?_ ?_ fun h' sb r => wpAny_pure (fin h' sb r))
      · split
        · exact y2
        · exact SetTable.fits_plain_off y2
      · split
        · exact w1
        · exact ⟨w1.1, w1.2⟩
    · refine wpAny_bind (wpAny_pure ?_)
      simp only [↓reduceIte]
      exact setM_end (ks := addK ks k) (fun b s₁ Q' q => gw b q) ho hx hd a1 b1 y2 w1 fun h' sb r => wpAny_pure (fin h' sb r)
end
end VL

/-! VQ1: set(xs) of a list of keys. -/
namespace VL
open PySem PySem.Spec PyProof.Rows L2
open Evl (Ex)
def metK (ks : List Key) : List Key := ks.foldl addK []
theorem addK_len (ks : List Key) (k : Key) : (addK ks k).length ≤ ks.length + 1 := by
  unfold addK
  split
  · omega
  · simp
theorem met_len : ∀ (ks acc : List Key), (ks.foldl addK acc).length ≤ acc.length + ks.length
  | [], acc => Nat.le_refl _
  | k :: ks, acc => by
    have a := met_len ks (addK acc k)
    have b := addK_len acc k
    rw [List.foldl_cons, List.length_cons]
    omega
theorem met_step {ks : List Key} {i : Nat} {k : Key} (h : ks[i]? = some k) : (ks.take (i + 1)).foldl addK [] = addK ((ks.take i).foldl addK []) k := by
  rw [List.take_succ, h, List.foldl_append] <;> rfl
section
variable {P : Program} {w : World} {A : Around} {R : Result → Shared → Prop} {I : Addr} {fp wr : List Addr} {G : Array GenState → Array GenState → Prop} {n : Nat} {Pv : Nat → Value → Prop} {St : Nat → Shared → Prop}
/-- the walk of an update lays key behind key -/
theorem loopM (W : WalksS P w A.in1 I fp wr G n Pv St) (S : Addr) (out : S ∉ fp) (ks : List Key) (len : ks.length = n) (room : n + 1 < scanBound) (hv : ∀ i v, Pv i v → ∃ k, ks[i]? = some k ∧ keyIs k v = true) :
    ∀ (m i : Nat) (s : Shared), n - i = m → i ≤ n → St i s → SetM w s.heap S ((ks.take i).foldl addK []) →
      (∀ s', Moved (S :: wr) G s s' → SetM w s'.heap S (metK ks) → R (.ok (.ret .none)) s') → codeAny (model P w) A (.builtin "set.update.loop" ⟨[.ref S, .ref I], []⟩) R s := by
  have up : ∀ b ∈ wr, b ∈ S :: wr := fun b hb => List.mem_cons_of_mem _ hb
  have ow : S ∉ wr := fun q => out (W.sub _ q)
  intro m
  induction m with
  | zero =>
    intro i s e1 e2 st M q
    obtain rfl : i = n := by omega
    refine codeAny_builtin PyProof.Rows.F.entry_set_update_loop ?_
    rw [Around.under_plainId PyProof.Rows.F.plain_set_update_loop _]
    show wpAny _ A.in1 (pyNext (.ref I) >>= _) _ _ s
    refine wpAny_bind (W.done s _ _ st fun s1 mv => wpAny_pure (q s1 (mv.mono up) ?_))
    have := M.to (h' := s1.heap) fun o => mv.heap S o ow
    rw [← len, List.take_length] at this
    exact this
  | succ m ih =>
    intro i s e1 e2 st M q
    have hi : i < n := by omega
    refine codeAny_builtin PyProof.Rows.F.entry_set_update_loop ?_
    rw [Around.under_plainId PyProof.Rows.F.plain_set_update_loop _]
    show wpAny _ A.in1 (pyNext (.ref I) >>= _) _ _ s
    refine wpAny_bind (W.item i s _ _ hi st fun v s1 hp st1 mv => ?_)
    obtain ⟨k, hk, kv⟩ := hv i v hp
    show wpAny _ A.in1 (holding [v] (setAdd S v) >>= _) _ _ s1
    refine wpAny_bind (wpAny_holding ?_)
    unfold setAdd
    refine wpAny_holding (wpAny_bind ((mixKind P w).pyHash (k := k) kv ?_))
    have l1 := met_len (ks.take i) []
    have l2 : (ks.take i).length ≤ i := by rw [List.length_take]; omega
    refine setM_add (s := { s1 with toks := s1.toks + 1 }) kv (M.to fun o => mv.heap S o ow) (by simp only [List.length_nil] at l1; omega) fun b h1 sb M1 => ?_
    rw [← met_step hk] at M1
    refine wpAny_pure ⟨plainId_quiet PyProof.Rows.F.plain_set_update_loop _, ih (i + 1) _ (by omega) hi (W.frame _ s1 _ _ st1 (Nat.le_succ _) fun c hc o e => ?_) M1 fun s2 mv2 M2 => ?_⟩
    · rw [sb.2 c (fun z : c = S => out (z ▸ hc))]; exact e
    · refine q s2 (Moved.trans W.gtrans ((mv.mono up).then_heap (Nat.le_succ _) fun c o hc e => ?_) mv2) M2
      rw [sb.2 c (fun z : c = S => hc (by rw [z]; exact List.mem_cons_self))]; exact e
end
section
variable {P : Program} {w : World} {A : Around} {E : Value → Shared → Prop} {s : Shared}
/-- a new empty set, as the walk order's setting has it -/
def emptyS (w : World) : Obj := { cls := .type "set", dict := none, data := .set #[] 0 (.fresh 0 0 (!w.params.followText "set-order")) }
theorem code_setM (a : Value) {Q : Value → Shared → Prop} (h : Q (.ref s.heap.objs.size) { s with heap := s.heap.push (emptyS w) }) :
    codeAny (model P w) A (.call (.builtin "set.__new__") ⟨[.type "set", a], []⟩) (wants Q E) s := by
  refine codeAny_of_tree ?_
  show wpAny _ A.in1 (do checkBuiltinCall "set.__new__" ⟨[.type "set", a], []⟩; again (.builtin "set.__new__" ⟨[.type "set", a], []⟩)) _ _ s
  refine wpAny_bind (wpAny_of_eq (PySem.F.newCall_set_1 a) (wpAny_pure ⟨plainId_quiet PySem.F.plain_set_new _, codeAny_builtin PySem.F.entry_set_new ?_⟩))
  rw [Around.under_plainId PySem.F.plain_set_new _]
  unfold Builtin.«set.__new__» Builtin.Frozenset.newClass
  have sub := sub_set_self
  obtain ⟨hp, g, d, tk, os⟩ := s
  dsimp only
  wp_walk
  refine wpAny_askSetting (wpAny_pure ?_)
  dsimp only
  simp only [newObj]
  exact wpAny_bind (wpAny_alloc (wpAny_pure (wpAny_pure h)))
theorem setM_empty (w : World) (h : Heap) : SetM w (h.push (emptyS w)) h.objs.size [] := by
  obtain ⟨o, es, ep, t, ho, hx, hd, g, nd, hm, hb, hf, hn, hr, hl⟩ := setR_fresh (h := h) w
  have e : es.toList = [] := List.length_eq_zero_iff.mp (by rw [Array.length_toList]; exact hn)
  exact ⟨o, es, ep, t, ho, hx, hd, ⟨fun x hx => (by rw [e] at hx; cases hx), by rw [e]; exact List.Perm.refl _, List.nodup_nil⟩, ⟨hb, hf⟩, hr, hl⟩
end
end VL

/-! VQ2: set(xs) called; sorted of it. -/
namespace VL
open PySem PySem.Spec PyProof.Rows L2
open Evl (Ex)
section
variable {P : Program} {w : World} {A : Around} {E : Value → Shared → Prop} {s : Shared}
theorem call_setM {l : Addr} {its : Array Value} {ks : List Key} {Q : Value → Shared → Prop} (hh : A.handled = none) (hl : s.heap.IsList l its) (len : ks.length = its.size)
    (hv : ∀ (i : Nat) (v : Value), its[i]? = some v → ∃ k, ks[i]? = some k ∧ keyIs k v = true) (room : its.size + 1 < scanBound)
    (q : ∀ (h' : Heap) (tk : Nat), SetM w h' s.heap.objs.size (metK ks) → (∀ b o, s.heap.get? b = some o → h'.get? b = some o) → Q (.ref s.heap.objs.size) { s with heap := h', toks := tk }) :
    wpAny (model P w) A (call (.type "set") [.ref l]) Q E s := by
  obtain ⟨c, tl, hmro⟩ := PySem.F.called_set.mro
  have made := PySem.F.called_set.made
  have sub := PySem.F.called_set.sub
  refine wpAny_call (codeAny_of_tree ?_)
  show wpAny _ _ (callAny (.type "set") _) _ _ _
  refine wpAny_pure ⟨Code.quiet_builtin _ (by decide +kernel), codeAny_builtin PySem.F.entry_type_call ?_⟩
  rw [Around.under_plain (weight_type_call_type "set" [.ref l] []) rfl]
  have u1 := PySem.F.called_set.notType
  have u2 := PySem.F.called_set.canCreate
  have u3 := PySem.F.typeCall_set_1 (.ref l)
  repeat (any_goals (first | assumption | wp_step))
  refine codeAny_mono (code_setM (w := w) (.ref l) (E := E) (Q := fun x s1 => x = .ref s.heap.objs.size ∧ s1 = { s with heap := s.heap.push (emptyS w) }) ⟨rfl, rfl⟩) fun r s1 hr => ?_
  cases r with
  | error e => exact hr
  | ok fl =>
    cases fl with
    | ret x =>
      obtain ⟨rfl, rfl⟩ := hr
      have nS : (s.heap.push (emptyS w)).get? s.heap.objs.size = some (emptyS w) := Heap.get?_push_size _ rfl
      have nT : Shared.TypeIs { s with heap := s.heap.push (emptyS w) } (.ref s.heap.objs.size) "set" := ⟨_, nS, rfl⟩
      have u4 := PySem.F.called_set.init.lookup
      have u5 := PySem.F.called_set.init.bind (.ref s.heap.objs.size)
      repeat (any_goals (first | assumption | wp_step))
      refine codeAny_mono (codeAny_call_builtin (R := wants (fun r s2 => r = .none ∧ ∃ h' tk, s2 = { s with heap := h', toks := tk } ∧ SetM w h' s.heap.objs.size (metK ks) ∧ (∀ b o, s.heap.get? b = some o → h'.get? b = some o)) E)
        PySem.F.called_set.init.plain PySem.F.entry_set_init (check_set_init_1 nT ?_)) fun r2 s2 hr2 => ?_
      · obtain ⟨⟨oc, od, dt, os⟩, ol, cl, nl, dl⟩ := hl
        simp only at cl dl
        subst cl; subst dl
        have ol' : (s.heap.push (emptyS w)).get? l = some { cls := .type "list", dict := od, data := .seq its nl, slots := os } := Heap.get?_push_of_some _ ol
        have v1 := PySem.F.sub_list_set
        have v2 := PySem.F.sub_list_frozenset
        have v3 : (Value.type "list" == Value.type "dict") = false := by decide
        have l1 : (s.heap.push (emptyS w)).IsList l its := ⟨_, ol', rfl, nl, rfl⟩
        unfold Builtin.«set.__init__» noKeywords Builtin.Frozenset.updateFrom
        generalize hPI : pyIter = PI
        wp_walk
        subst hPI
        refine wpAny_pyIter_list l1 (wpAny_bind (wpAny_runValue ?_))
        have lS : l < s.heap.objs.size := Heap.lt_size ol
        have z1 : (s.heap.push (emptyS w)).objs.size = s.heap.objs.size + 1 := size_push' _ _
        have nI : l ≠ (s.heap.push (emptyS w)).objs.size := by rw [z1]; exact Nat.ne_of_lt (Nat.lt_succ_of_lt lS)
        have nF : s.heap.objs.size ∉ [(s.heap.push (emptyS w)).objs.size, l] := by
          rw [z1]
          simp only [List.mem_cons, List.not_mem_nil, or_false, not_or]
          exact ⟨Nat.ne_of_lt (Nat.lt_succ_self _), Nat.ne_of_gt lS⟩
        refine loopM (w := w) ((Walks.list (by simp [hh]) _ l nI its).toS) s.heap.objs.size nF ks len room (fun i v hiv => hv i v hiv) (its.size - 0) 0 _ rfl (Nat.zero_le _) ⟨⟨_, Heap.get?_push_size _ rfl, rfl, rfl⟩, l1.push _⟩ ?_ ?_
        · exact (setM_empty w s.heap).to fun o e => Heap.get?_push_of_some _ e
        · intro s2 mv M
          obtain ⟨h2, g2, d2, t2, o2⟩ := s2
          obtain rfl : g2 = s.gens := mv.gens
          obtain rfl : d2 = s.drawn := mv.drawn
          obtain rfl : o2 = s.os := mv.os
          refine wpAny_pure ?_
          show wpAny _ _ (ret Value.none) _ _ _
          refine wpAny_pure ⟨rfl, h2, t2, rfl, M, fun b o e => ?_⟩
          have hb := Heap.lt_size e
          refine mv.heap b o ?_ (Heap.get?_push_of_some _ (Heap.get?_push_of_some _ e))
          simp only [List.mem_cons, List.not_mem_nil, or_false, not_or]
          rw [z1]
          exact ⟨Nat.ne_of_lt hb, Nat.ne_of_lt (Nat.lt_succ_of_lt hb)⟩
      · cases r2 with
        | error e => exact hr2
        | ok fl2 =>
          cases fl2 with
          | ret r =>
            obtain ⟨rfl, h', tk, rfl, M, keep⟩ := hr2
            repeat (any_goals (first | assumption | wp_step))
            exact q _ _ M keep
          | _ => exact hr2.elim
    | _ => exact hr.elim
end
end VL

/-! VQ3: sorted(set(xs)). -/
namespace VL
open PySem PySem.Spec PyProof.Rows L2
open Evl (Ex)
theorem perm_un {α β : Type} {f : α → β} {l m : List β} (p : l.Perm m) : ∀ es : List α, es.map f = m → ∃ xs : List α, xs.Perm es ∧ xs.map f = l := by
  induction p with
  | nil =>
    intro es h
    exact ⟨es, .refl _, h⟩
  | @cons x l m p ih =>
    intro es h
    cases es with
    | nil => cases h
    | cons e es =>
      injection h with h1 h2
      obtain ⟨xs, q1, q2⟩ := ih es h2
      exact ⟨e :: xs, q1.cons e, by rw [List.map_cons, h1, q2]⟩
  | swap x y l =>
    intro es h
    match es, h with
    | a :: b :: es, h =>
      injection h with h1 h2
      injection h2 with h2 h3
      exact ⟨b :: a :: es, .swap a b es, by rw [List.map_cons, List.map_cons, h1, h2, h3]⟩
  | trans p q ih1 ih2 =>
    intro es h
    obtain ⟨ys, a1, a2⟩ := ih2 es h
    obtain ⟨xs, b1, b2⟩ := ih1 ys a2
    exact ⟨xs, b1.trans a1, b2⟩
def dK : D → Key
  | .int i => .inl i
  | .str x => .inr x
  | _ => .inl 0
def dV : D → V
  | .int i => .int i
  | .str x => .str x
  | _ => .non
/-- ints, or texts -/
def Flat (sh : Sh) (ds : List D) : Prop := (sh = .int ∨ sh = .str) ∧ ∀ d ∈ ds, hasSh sh d = true ∧ notEmp d = true
def uniqD (ds : List D) : List D := (metK (ds.map dK)).map kD
theorem kD_dK {sh : Sh} {d : D} (h0 : sh = .int ∨ sh = .str) (h : hasSh sh d = true) : kD (dK d) = d := by
  rcases h0 with rfl | rfl <;> cases d <;> simp [hasSh] at h <;> rfl
theorem met_mem : ∀ (ks acc : List Key) (k : Key), k ∈ ks.foldl addK acc ↔ k ∈ acc ∨ k ∈ ks
  | [], acc, k => by simp
  | j :: ks, acc, k => by
    rw [List.foldl_cons, met_mem ks, List.mem_cons]
    have : k ∈ addK acc j ↔ k ∈ acc ∨ k = j := by
      by_cases h : j ∈ acc
      · rw [addK_in h]
        exact ⟨.inl, fun q => q.elim id fun e => e ▸ h⟩
      · rw [addK_out h, List.mem_append, List.mem_singleton]
    rw [this, or_assoc]
theorem uniq_mem {sh : Sh} {ds : List D} (h : Flat sh ds) (d : D) : d ∈ uniqD ds ↔ d ∈ ds := by
  unfold uniqD metK
  rw [List.mem_map]
  constructor
  · rintro ⟨k, hk, rfl⟩
    obtain ⟨e, he, rfl⟩ := List.mem_map.mp (((met_mem _ _ _).mp hk).resolve_left (by simp))
    rw [kD_dK h.1 (h.2 e he).1]; exact he
  · intro hd
    exact ⟨dK d, (met_mem _ _ _).mpr (.inr (List.mem_map.mpr ⟨d, hd, rfl⟩)), kD_dK h.1 (h.2 d hd).1⟩
theorem uniq_flat {sh : Sh} {ds : List D} (h : Flat sh ds) : Flat sh (uniqD ds) := ⟨h.1, fun d hd => h.2 d ((uniq_mem h d).mp hd)⟩
theorem met_nodup : ∀ (ks acc : List Key), acc.Nodup → (ks.foldl addK acc).Nodup
  | [], acc, h => h
  | j :: ks, acc, h => met_nodup ks _ (by
    by_cases q : j ∈ acc
    · rw [addK_in q]; exact h
    · rw [addK_out q]; exact (List.perm_append_singleton j acc).nodup_iff.mpr (List.nodup_cons.mpr ⟨q, h⟩))
theorem kD_inj {a b : Key} (h : kD a = kD b) : a = b := by
  cases a <;> cases b <;> simp [kD] at h <;> rw [h]
theorem uniq_nodup (ds : List D) : (uniqD ds).Nodup := by
  unfold uniqD
  have := met_nodup (ds.map dK) [] List.nodup_nil
  exact List.pairwise_map.mpr (this.imp fun h e => h (kD_inj e))
theorem rel_key {d : D} {sh : Sh} {v : V} {u : Value} {K : PySem.W.Frag} {G : Hp} (h0 : sh = .int ∨ sh = .str) (h : hasSh sh d = true) (r : Rp K G v d) (q : RelV v u) : keyIs (dK d) u = true ∧ v = dV d := by
  rcases h0 with rfl | rfl <;> cases d <;> simp [hasSh] at h <;> cases r
  · obtain ⟨t, rfl⟩ := q
    exact ⟨keyIs_int _ _, rfl⟩
  · obtain ⟨t, rfl⟩ := q
    exact ⟨keyIs_str _ _, rfl⟩
theorem key_reads {k : Key} {v : Value} {h : Heap} {sh : Sh} (h0 : sh = .int ∨ sh = .str) (q : keyIs k v = true) (z : hasSh sh (kD k) = true) : Reads h v (toPy (kD k)) [] := by
  rcases keyIs_shape q with ⟨i, t, rfl, rfl⟩ | ⟨x, t, rfl, rfl⟩
  · exact .int i t
  · exact .str x t
theorem keys_reads {h : Heap} {sh : Sh} (h0 : sh = .int ∨ sh = .str) : ∀ {l : List (Int × Value)} {w : World}, (∀ e ∈ l, KEnt w e ∧ hasSh sh (kD (eKey e)) = true) → ReadsAll h (l.map (·.2)) (toPys (l.map fun e => kD (eKey e))) []
  | [], _, _ => .nil
  | e :: l, w, z => .cons (as := []) (bs := []) (key_reads h0 (z e (by simp)).1.1 (z e (by simp)).2) (keys_reads h0 (w := w) fun x hx => z x (by simp [hx]))
section
variable {P : Program} {w : World} {A : Around} {E : Value → Shared → Prop} {s : Shared} {a : Addr} {ks : List Key}
theorem sorted_setM {sh : Sh} {Q : Value → Shared → Prop} (M : SetM w s.heap a ks) (hh : A.handled = none) (hs : Flat sh (ks.map kD)) (hu : A.units + 8 < cLine)
    (hQ : ∀ s' p (out : Array Value) (c : Nat), (∀ b o, s.heap.get? b = some o → s'.heap.get? b = some o) → s'.gens = s.gens → s'.os = s.os → s.heap.objs.size ≤ p →
      s'.heap.get? p = some (seqObj "list" out c) → Vals ((isort (ks.map kD)).map dV) out.toList → Q (.ref p) s') :
    wpAny (model P w) A (call (.builtin "sorted") [.ref a]) Q E s := by
  obtain ⟨o, es, ep, t, ho, hx, hd, ⟨al, pm, nd⟩, ⟨hb, hf⟩, hw⟩ := M
  refine Calls.call_function_entry kind_sorted plain_sorted entry_sorted (args_sorted1 _) ?_
  unfold Builtin.«sorted»
  refine wpAny_bind (m := checkCount "sorted" 1 1 _) (wpAny_pure ?_)
  refine wpAny_bind (collect_set (A := A.in1) hh ⟨o, ho, hx.1, hd⟩ hf hb hw.1 hw.2 fun s1 vs k1 hz g1 o1 pv => ?_)
  have lv : vs.length ≤ sizeLine := by
    rw [pv.length_eq, List.length_map, Array.length_toList]
    exact fits_of_scanBound hb
  obtain ⟨xs, px, rfl⟩ : ∃ xs : List (Int × Value), xs.Perm es.toList ∧ xs.map (·.2) = vs := by
    have : vs.Perm (es.toList.map (·.2)) := pv
    exact perm_un this _ rfl
  have ax : ∀ e ∈ xs, KEnt w e ∧ hasSh sh (kD (eKey e)) = true := fun e he => by
    have h1 := px.mem_iff.mp he
    refine ⟨al e h1, (hs.2 _ (List.mem_map.mpr ⟨eKey e, pm.mem_iff.mp (List.mem_map.mpr ⟨e, h1, rfl⟩), rfl⟩)).1⟩
  have kx : (xs.map eKey).Perm ks := (px.map eKey).trans pm
  obtain ⟨d0, h0⟩ : ∃ d0, hasSh sh d0 = true := by
    rcases hs.1 with rfl | rfl
    · exact ⟨.int 0, rfl⟩
    · exact ⟨.str Str.empty, by decide +kernel⟩
  have rd : ∀ h : Heap, ReadsAll h (xs.map (·.2)) (toPys (xs.map fun e => kD (eKey e))) [] := fun h => keys_reads hs.1 (w := w) ax
  have hsx : ∀ d ∈ (xs.map fun e => kD (eKey e)), hasSh sh d = true ∧ notEmp d = true := fun d hd => by
    obtain ⟨e, he, rfl⟩ := List.mem_map.mp hd
    exact hs.2 _ (List.mem_map.mpr ⟨eKey e, kx.mem_iff.mp (List.mem_map.mpr ⟨e, he, rfl⟩), rfl⟩)
  have dep : depSh sh = 0 := by rcases hs.1 with rfl | rfl <;> rfl
  refine wpAny_bind (wpAny_newList ?_ lv)
  have hL : (s1.heap.push (seqObj "list" (xs.map (·.2)).toArray 0)).get? s1.heap.objs.size = some (seqObj "list" (xs.map (·.2)).toArray 0) := Heap.get?_push_size _ rfl
  have hm : (xs.map (·.2)).map (pk s1.heap sh d0) = xs.map fun e => kD (eKey e) := pk_map (fun d hd => (hsx d hd).1) (rd _)
  refine wpAny_bind (wpAny_holding (wpAny_call_entry slot_list_sort ⟨_, hL, rfl⟩ entry_list_sort (SrtO.list_sort_ord (swo_sh (h := s1.heap) h0) hL lv (fun h2 => ?_) fun out q1 q2 => ⟨_, rfl, ?_⟩) (args_list_sort _)))
  · intro h' keep
    refine sh_cmp (s := { s1 with heap := h' }) (rd _) (fun b o e => ?_) (rd _) hsx h2 ?_
    · exact keep b o (Nat.ne_of_lt (Heap.lt_size e)) (Heap.get?_push_of_some _ e)
    · have e : A.in1.in1.units = A.units + 1 + 1 := rfl
      rw [e, dep]; omega
  · obtain ⟨c, hc⟩ := sortedHeap_at (vs := xs.map (·.2)) (out := out.toArray) hL
    have so : out.map (pk s1.heap sh d0) = isort (ks.map kD) := by
      have O := sh_ord sh
      refine srt_uniq O (fun y hy => ?_) ?_ (isort_srt O _ fun y hy => (hs.2 y hy).1) ?_
      · obtain ⟨u, _, rfl⟩ := List.mem_map.mp hy
        exact pk_sh h0 u
      · exact List.pairwise_map.mpr q1
      · have := q2.perm.map (pk s1.heap sh d0)
        rw [hm] at this
        refine this.trans (List.Perm.trans ?_ (isort_perm _).symm)
        have := kx.map kD
        rw [List.map_map] at this
        exact this
    refine wpAny_pure ⟨_, rfl, hQ _ s1.heap.objs.size out.toArray c (fun b u e => ?_) g1 o1 hz hc ?_⟩
    · have q := k1 b u e
      have hlt := Heap.lt_size q
      show (sortedHeap (s1.heap.push (seqObj "list" (xs.map (·.2)).toArray 0)) s1.heap.objs.size (xs.map (·.2)) out.toArray).get? b = some u
      rw [sortedHeap_old (Nat.ne_of_lt hlt) (by rw [size_push']; exact Nat.lt_succ_of_lt hlt)]
      exact Heap.get?_push_of_some _ q
    · rw [← so]
      have mem : ∀ u ∈ out, ∃ e ∈ xs, e.2 = u := fun u hu => List.mem_map.mp (q2.perm.mem_iff.mp hu)
      show Vals ((out.map (pk s1.heap sh d0)).map dV) out
      clear so q1 q2 hc
      induction out with
      | nil => exact .nil
      | cons u out ih =>
        refine .cons ?_ (ih fun z hz => mem z (by simp [hz]))
        obtain ⟨e, he, rfl⟩ := mem u (by simp)
        have e1 : pk s1.heap sh d0 e.2 = kD (eKey e) := pk_eq (ax e he).2 (key_reads hs.1 (ax e he).1.1 (ax e he).2)
        rw [e1]
        rcases keyIs_shape (ax e he).1.1 with ⟨i, t, q1, q2⟩ | ⟨x, t, q1, q2⟩
        · rw [q1, q2]; exact ⟨t, rfl⟩
        · rw [q1, q2]; exact ⟨t, rfl⟩
end
end VL

/-! VQ4: the expression sorted(set(xs)). -/
namespace VL
open PySem PySem.Spec PyProof.Rows L2
open Evl (Ex)
variable {K : PySem.W.Frag}
def tSSet (K : PySem.W.Frag) (ta : TE) : TE := fun σ H Q => ta σ H fun x H1 => ∃ l vs ds sh, x = V.ref l ∧ SqL K H1 l vs ∧ RpL K H1 vs ds ∧ Flat sh ds ∧ ds.length + 1 < scanBound ∧
  ∀ p, H1 p = none → Q (.ref p) (upd H1 p (.lst ((isort (uniqD ds)).map dV)))
theorem rel_keys {G : Hp} {sh : Sh} : ∀ {ds : List D} {vs : List V} {us : List Value}, Flat sh ds → RpL K G vs ds → Vals vs us → ∀ (i : Nat) (v : Value), us[i]? = some v → ∃ k, (ds.map dK)[i]? = some k ∧ keyIs k v = true
  | _, _, _, _, .nil, .nil, i, v, h => by simp at h
  | d :: ds, _, _, f, .cons r rs, .cons q qs, 0, v, h => by
    simp at h; subst h
    exact ⟨dK d, rfl, (rel_key f.1 (f.2 d (by simp)).1 r q).1⟩
  | d :: ds, _, _, f, .cons r rs, .cons q qs, i + 1, v, h => by
    obtain ⟨k, h1, h2⟩ := rel_keys ⟨f.1, fun z hz => f.2 z (by simp [hz])⟩ rs qs i v (by simpa using h)
    exact ⟨k, by simpa using h1, h2⟩
section
variable {X : Cx} {a : Expr} {ta : TE} {t : WE} {p p2 q pos : Pos}
theorem pe_sset (hc : X.calm = true) (hu : X.A.units + 64 < cLine) (hg : Gl X "sorted") (hm : X.mg "sorted" = none) (hg2 : Gl X "set") (hm2 : X.mg "set" = none) (ha : PE X a ta)
    (na : starEach [a] X.env = (false, eval a X.env) :: starEach [] X.env := by rfl) : PE X (.Call (.Name "sorted" p) [.Call (.Name "set" p2) [a] [] q] [] pos) (tSSet X.K ta) := by
  refine ⟨fun pins s σ H Q I h => ?_⟩
  refine Call_ (ld_blt I hg hm (show bootBuiltins "sorted" = some (.builtin "sorted") by decide +kernel) ?_)
  refine PyProof.Rows.callWith_builtin1 (PyProof.Rows.args_cons ?_ rfl) rfl rfl
  refine Call_ (ld_blt I hg2 hm2 (show bootBuiltins "set" = some (.type "set") by decide +kernel) ?_)
  refine PyProof.Rows.callWith_type1 (PyProof.Rows.args_cons (thn (ha.run pins s σ H _ I h) fun v s1 ⟨x, H1, I1, r1, q1⟩ => PyProof.Rows.args_nil ?_) na) na rfl
  obtain ⟨l, vs, ds, sh, rfl, hq, rp, hf, room, q1⟩ := q1
  cases r1
  obtain ⟨its, rv, pl, hz⟩ := I1.list hq
  have e1 : its.toArray.size = ds.length := by
    rw [List.size_toArray, ← rv.length]
    exact rp.length
  refine call_setM (I1.ok.hd hc) pl.isList (ks := ds.map dK) (by rw [List.length_map, e1]) (fun i v e => rel_keys hf rp rv i v (by simpa using e)) (by rw [e1]; exact room) fun h' tk M keep => ?_
  refine PyProof.Rows.args_nil ?_
  refine sorted_setM (s := { s1 with heap := h', toks := tk }) (sh := sh) M (I1.ok.hd hc) (uniq_flat hf) (by omega) fun s2 pp out c k2 g2 o2 hp hg hv => ?_
  have I2 : Inv X pins σ H1 { s1 with heap := h', toks := tk } := I1.kept fun b o e => keep b o e
  have hn : H1 pp = none := I2.hok.fresh hp
  have hlen : ((isort (uniqD ds)).map dV).length ≤ sizeLine := by
    have z1 := met_len (ds.map dK) []
    rw [List.length_map, (isort_perm _).length_eq]
    unfold uniqD metK
    rw [List.length_map]
    simp only [List.length_nil, List.length_map] at z1
    have : scanBound ≤ sizeLine := by decide +kernel
    omega
  have J : Inv X pins σ (upd H1 pp (.lst ((isort (uniqD ds)).map dV))) { ({ s1 with heap := h', toks := tk } : Shared) with heap := s2.heap, gens := s2.gens, drawn := s2.drawn, toks := s2.toks } :=
    Inv.call (s := { s1 with heap := h', toks := tk }) I2 (ch := []) (Un.laid k2 hp hn) (I2.hok.laid k2 hp ⟨hlen, out.toList, c, hv, hg⟩) (by rw [g2]; exact I2.bare) (fun _ z => nomatch z)
  have e : s2 = { s1 with heap := s2.heap, gens := s2.gens, drawn := s2.drawn, toks := s2.toks } := by
    cases s2
    cases s1
    cases o2
    rfl
  rw [e]
  exact ⟨.ref pp, _, J, rfl, q1 pp hn⟩
theorem flat_rp {G : Hp} {sh : Sh} : ∀ {ds : List D}, Flat sh ds → RpL K G (ds.map dV) ds
  | [], _ => .nil
  | d :: ds, f => .cons (by
      have h0 := f.1
      have h := (f.2 d (by simp)).1
      rcases h0 with rfl | rfl <;> cases d <;> simp [hasSh] at h <;> first | exact .int _ | exact .str _) (flat_rp ⟨f.1, fun z hz => f.2 z (by simp [hz])⟩)
def wSortSet (t : WE) : WE := fun ρ Q => t ρ fun d _ ρ1 => ∃ ds sh, d = .lst ds ∧ Flat sh ds ∧ ds.length + 1 < scanBound ∧ Q (.lst (isort (uniqD ds))) .nw ρ1
theorem snd_sset (h : SndE K ta t) : SndE K (tSSet K ta) (wSortSet t) := by
  intro b G ρ σ H Q R s hq k
  refine h b G ρ σ H _ _ s hq fun d kd ρ1 v G1 H1 q1 x1 s1 r1 => ?_
  obtain ⟨ds, sh, rfl, hf, room, q1⟩ := q1
  obtain ⟨l, vs, rfl, e1, e2⟩ := r1.ov s1
  refine ⟨l, vs, ds, sh, rfl, .inl (.inl (hd_le _ _ e1)), e2.mono (s1.sub.trans hd_le), hf, room, fun p hp => ?_⟩
  refine (res_of s1 (fun d k' ρ' v G' H' q x s r => k d k' ρ' v G' H' q (x1.trans x) s (r.back x1.h)) q1).new p _ rfl hp ⟨_, upd_same, ?_⟩
  have fi : Flat sh (isort (uniqD ds)) := ⟨hf.1, fun d hd => (uniq_flat hf).2 d ((isort_perm _).mem_iff.mp hd)⟩
  exact flat_rp fi
theorem c_sortset (hr : Room k X.A) (hm : X.mg "sorted" = none) (hm2 : X.mg "set" = none) (ha : SE X a ta t) (hg : Gl X "sorted" := by rfl) (hg2 : Gl X "set" := by rfl) (hc : X.calm = true := by rfl)
    (na : starEach [a] X.env = (false, eval a X.env) :: starEach [] X.env := by rfl) : SE X (.Call (.Name "sorted" p) [.Call (.Name "set" p2) [a] [] q] [] pos) (tSSet X.K ta) (wSortSet t) :=
  ⟨pe_sset hc (u64 hr) hg hm hg2 hm2 ha.pe na, snd_sset ha.snd⟩
end
end VL

/-! VQ5: sorted(d), list(d) of a dict of keys. -/
namespace VL
open PySem PySem.Spec PyProof.Rows L2
open Evl (Ex)
variable {K : PySem.W.Frag}
theorem srt_chain : ∀ {l : List D} {x : D}, (∀ y ∈ x :: l, hasSh .str y = true) → (∀ p q a b, x :: l = p ++ a :: b :: q → dlt b a = false) → SrtD (x :: l)
  | [], x, _, _ => List.pairwise_singleton _ _
  | y :: l, x, h, c => by
    have O := sh_ord .str
    have ih : SrtD (y :: l) := srt_chain (fun z hz => h z (by simp at hz ⊢; exact .inr hz)) fun p q a b e => c (x :: p) q a b (by rw [e] <;> rfl)
    have hx := h x (by simp)
    have hy := h y (by simp)
    have c0 : dlt y x = false := c [] l x y rfl
    refine List.pairwise_cons.mpr ⟨fun z hz => ?_, ih⟩
    have hz' := h z (by simp at hz ⊢; exact .inr hz)
    rcases List.mem_cons.mp hz with rfl | hz
    · exact c0
    · have c1 := (List.pairwise_cons.mp ih).1 z hz
      cases q : dlt z x with
      | false => rfl
      | true =>
        rcases O.tot x y hx hy with a | a | a
        · rw [O.tr z x y hz' hx hy q a] at c1; cases c1
        · subst a; rw [q] at c1; cases c1
        · rw [a] at c0; cases c0
theorem rising_at : ∀ {l : List Str} {x : Str}, risingS x l = true → ∀ p q a b, x :: l = p ++ a :: b :: q → dlt (.str b) (.str a) = false
  | [], x, _, p, q, a, b, e => by
    have := congrArg List.length e
    simp at this
    omega
  | y :: l, x, h, p, q, a, b, e => by
    have h' : (!ltCps y.cps.toList x.cps.toList) = true ∧ risingS y l = true := by simpa [risingS] using h
    cases p with
    | nil =>
      simp at e
      obtain ⟨rfl, rfl, rfl⟩ := e
      have := h'.1
      rw [ltCps_eq] at this
      simpa [dlt] using this
    | cons z p =>
      injection e with e1 e2
      exact rising_at h'.2 p q a b e2
theorem srt_strs {ys : List Str} (h : sortedS ys = true) (hs : ∀ y ∈ ys, hasSh .str (.str y) = true) : SrtD (ys.map .str) := by
  cases ys with
  | nil => exact List.Pairwise.nil
  | cons x l =>
    refine srt_chain (x := .str x) (l := l.map .str) (fun z hz => ?_) fun p q a b e => ?_
    · obtain ⟨y, hy, rfl⟩ := List.mem_map.mp (show z ∈ (x :: l).map D.str from hz)
      exact hs y hy
    · obtain ⟨p1, r1, e1, rfl, e2⟩ := List.map_eq_append_iff.mp (show (x :: l).map D.str = p ++ (a :: b :: q) from e)
      obtain ⟨a1, r2, rfl, rfl, e3⟩ := List.map_eq_cons_iff.mp e2
      obtain ⟨b1, r3, rfl, rfl, e4⟩ := List.map_eq_cons_iff.mp e3
      exact rising_at (show risingS x l = true from h) p1 r3 a1 b1 e1
def rSortKD : List V → Hp → VK → Prop := fun xs H Q => ∃ (a : Addr) (kvs : List (Key × V)) (ks : List Str), xs = [.ref a] ∧ Rd H a (.dK kvs) ∧ kvs.map (·.1) = ks.map Sum.inr ∧ ks.length < 64 ∧
    ∀ ys p, ys.Perm ks → sortedS ys = true → H p = none → Q (.ref p) (upd H p (.lst (ys.map V.str)))
theorem rpk_keys {G : Hp} : ∀ {kvs : List (Key × V)} {es : List (Key × D)}, RpK K G kvs es → kvs.map (·.1) = es.map (·.1)
  | _, _, .nil => rfl
  | _, _, .cons a r => by rw [List.map_cons, List.map_cons, rpk_keys r]
def PSortK (ds : List D) (z : D) (k : Kd) : Prop := ∃ (es : List (Key × D)) (ks : List Str), ds = [.dk es] ∧ es.map (·.1) = ks.map Sum.inr ∧ ks.length < 64 ∧ (∀ x ∈ ks, hasSh .str (.str x) = true) ∧ z = .lst (isort (keysD es)) ∧ k = .nw
theorem strs_rp {G : Hp} : ∀ ys : List Str, RpL K G (ys.map V.str) (ys.map D.str)
  | [] => .nil
  | y :: ys => .cons (.str y) (strs_rp ys)
theorem snd_sortK : ClP K rSortKD PSortK := fun G B H vs ds z k R g g2 o p r => by
  obtain ⟨es, ks, rfl, hk, h64, hs, rfl, rfl⟩ := p
  cases o with
  | cons o1 o2 =>
    cases o2
    obtain ⟨a, kvs, rfl, t, l⟩ := o1
    refine ⟨a, kvs, ks, rfl, rd_mono g2 t, by rw [rpk_keys l, hk], h64, fun ys p pm ss hp => r.new p _ rfl hp ?_⟩
    have hy : ∀ y ∈ ys, hasSh .str (.str y) = true := fun y hy => hs y (pm.mem_iff.mp hy)
    have e0 : keysD es = ks.map .str := by
      have : keysD es = (es.map (·.1)).map kD := by unfold keysD; rw [List.map_map]; rfl
      rw [this, hk, List.map_map]; rfl
    have e : isort (keysD es) = ys.map D.str := by
      rw [e0]
      refine (srt_uniq (sh_ord .str) (fun y hy' => ?_) (srt_strs ss hy) (isort_srt (sh_ord .str) _ fun y hy' => ?_) ((pm.map D.str).trans (isort_perm _).symm)).symm
      · obtain ⟨x, hx, rfl⟩ := List.mem_map.mp hy'
        exact hy x hx
      · obtain ⟨x, hx, rfl⟩ := List.mem_map.mp hy'
        exact hs x hx
    rw [e]
    exact ⟨_, upd_same, strs_rp ys⟩
def rListKD : List V → Hp → VK → Prop := fun xs H Q => ∃ (a : Addr) (kvs : List (Key × V)), xs = [.ref a] ∧ Rd H a (.dK kvs) ∧ ∀ p, H p = none → Q (.ref p) (upd H p (.lst (kvs.map fun kv => kV kv.1)))
def PListK (ds : List D) (z : D) (k : Kd) : Prop := ∃ es : List (Key × D), ds = [.dk es] ∧ z = .lst (keysD es) ∧ k = .nw
theorem keys_rp {G G' : Hp} : ∀ {kvs : List (Key × V)} {es : List (Key × D)}, RpK K G kvs es → RpL K G' (kvs.map fun kv => kV kv.1) (keysD es)
  | _, _, .nil => .nil
  | _, _, .cons a r => .cons (kD_rp _) (keys_rp r)
theorem snd_listK : ClP K rListKD PListK := fun G B H vs ds z k R g g2 o p r => by
  obtain ⟨es, rfl, rfl, rfl⟩ := p
  cases o with
  | cons o1 o2 =>
    cases o2
    obtain ⟨a, kvs, rfl, t, l⟩ := o1
    exact ⟨a, kvs, rfl, rd_mono g2 t, fun p hp => r.new p _ rfl hp ⟨_, upd_same, keys_rp l⟩⟩
section
variable {X : Cx} {e : Expr} {es : List Expr} {xa : TA} {x : WA} {pp pos : Pos}
theorem c_sortK (hr : Room k X.A) (hm : X.mg "sorted" = none) (ha : SO X (e :: es) xa x) (hg : Gl X "sorted" := by rfl) (he : starEach (e :: es) X.env = (false, eval e X.env) :: starEach es X.env := by rfl) (hpl : (backTo pos (starEach es X.env)).any (·.1) = false := by rfl) (hc : X.calm = true := by rfl) : SE X (.Call (.Name "sorted" pp) (e :: es) [] pos) (tCB rSortKD xa) (wClP PSortK x) :=
  ⟨pe_callB (call_sortedD hc) hg hm (by decide +kernel) ha.pa (by decide) (by decide) he hpl, snd_clP snd_sortK ha.snd⟩
theorem c_listK (hr : Room k X.A) (hm : X.mg "list" = none) (ha : SO X (e :: es) xa x) (hg : Gl X "list" := by rfl) (he : starEach (e :: es) X.env = (false, eval e X.env) :: starEach es X.env := by rfl) (hpl : (backTo pos (starEach es X.env)).any (·.1) = false := by rfl) (hc : X.calm = true := by rfl) : SE X (.Call (.Name "list" pp) (e :: es) [] pos) (tCB rListKD xa) (wClP PListK x) :=
  ⟨pe_callTy (call_listD hc) hg hm (by decide +kernel) ha.pa (by decide) (by decide) he hpl, snd_clP snd_listK ha.snd⟩
end
end VL

/-! VQ6: int(text), the signs of a text one by one. -/
namespace VL
open PySem PySem.Spec PyProof.Rows L2
open Evl (Ex)
variable {K : PySem.W.Frag}
def cIntT : List D → Oz
  | [.str a] => if a.length ≤ 640 then (PySem.intText? a).bind fun n => ozI n else none
  | _ => none
def rIntT : List V → Hp → VK → Prop := fun xs H Q => ∃ a n, xs = [.str a] ∧ PySem.intText? a = some n ∧ a.length ≤ 640 ∧ Q (.int n) H
theorem snd_cIntT : ClS K rIntT cIntT := fun G B H vs ds z k R g g2 o hf r => by
  unfold cIntT at hf
  split at hf
  · rename_i a
    split at hf
    · rename_i hl
      cases o with
      | cons o1 o2 =>
        cases o2
        obtain rfl := ov_str o1
        cases hi : PySem.intText? a with
        | none => rw [hi] at hf; cases hf
        | some n =>
          rw [hi] at hf
          exact ⟨a, n, rfl, hi, hl, res_int hf r⟩
    · cases hf
  · cases hf
def signsD (x : Str) : List D := x.cps.toList.map fun c => .str ⟨#[c]⟩
theorem str_walk {G B : Hp} (x : Str) : Walks K (Its x) (signsD x) G B := fun G2 H2 i e1 e2 e3 => by
  have hl : x.cps.size = (signsD x).length := by unfold signsD; rw [List.length_map, Array.length_toList]
  refine ⟨fun d hd => ?_, fun hi => Nat.le_trans (Nat.le_of_eq hl) hi⟩
  unfold signsD at hd
  rw [List.getElem?_map, Array.getElem?_toList] at hd
  cases hx : x.cps[i]? with
  | none => rw [hx] at hd; cases hd
  | some c =>
    rw [hx] at hd; cases hd
    refine ⟨(Array.getElem?_eq_some_iff.mp hx).1, fun v H3 y => ?_⟩
    obtain ⟨rfl, c', h2, rfl⟩ := y
    rw [hx] at h2; cases h2
    exact .inl ⟨rfl, .str _⟩
def wiSO (w : WE) : WI := fun ρ Q => w ρ fun d _ ρ1 => match d with
  | .str x => Q (signsD x) ρ1
  | _ => False
theorem sndIO_str {te : TE} {w : WE} (h : SndE K te w) : SndIO K (iStr te) (wiSO w) := fun b G ρ σ H Q R s hq k => by
  refine h b G ρ σ H _ _ s hq fun d kd ρ' v G' H' q x s' r => ?_
  split at q
  · rename_i z
    obtain rfl := ov_str (r.ov s')
    exact ⟨z, rfl, k _ ρ' _ G' H' q x s' (str_walk z)⟩
  · exact q.elim
section
variable {X : Cx} {e : Expr} {es : List Expr} {te : TE} {t : WE} {xa : TA} {x : WA} {pp pos : Pos}
theorem io_str {tg : Expr} (h : SE X e te t) : SIO X tg e (iStr te) (wiSO t) := ⟨pi_str h.pe, sndIO_str h.snd⟩
theorem c_intT (hm : X.mg "int" = none) (ha : SO X (e :: es) xa x) (hg : Gl X "int" := by rfl) (he : starEach (e :: es) X.env = (false, eval e X.env) :: starEach es X.env := by rfl) (hpl : (backTo pos (starEach es X.env)).any (·.1) = false := by rfl) : SE X (.Call (.Name "int" pp) (e :: es) [] pos) (tCB rIntT xa) (wCl cIntT x) :=
  e_callT call_int_str snd_cIntT hm (by decide +kernel) ha hg (by decide) (by decide) he hpl
end
end VL

/-! VQ7: more lemmas of use to several laws (gathered out of the texts of k07 and k08). -/
namespace VL
open PySem PySem.Spec PyProof.Rows L2
section
variable {α : Type} {ρ : Rho} {wi : WI} {tt : WT} {t : WE} {i j l m : Nat} {k : Kd}
theorem ev_comp4 (e1 e2 e3 e4 : α → D) (tb : α → Bool) (el : α → D) (L : List α) (hi : Ei wi ρ (L.map fun a => .tup [e1 a, e2 a, e3 a, e4 a])) (hl : L.length ≤ LIM)
    (ht : ∀ a ∈ L, Et tt (((((wipeR ρ [i, j, l, m]).set i (.fz (e1 a))).set j (.fz (e2 a))).set l (.fz (e3 a))).set m (.fz (e4 a))) (tb a))
    (he : ∀ a ∈ L, tb a = true → Ev t (((((wipeR ρ [i, j, l, m]).set i (.fz (e1 a))).set j (.fz (e2 a))).set l (.fz (e3 a))).set m (.fz (e4 a))) (el a) k) (hk : k.ok = true := by rfl) (hr : restR ρ (wipeR ρ [i, j, l, m]) [i, j, l, m] = ρ := by rfl)
    (hw : ∀ d1 d2 d3 d4, wipeR (((((wipeR ρ [i, j, l, m]).set i (.fz d1)).set j (.fz d2)).set l (.fz d3)).set m (.fz d4)) [i, j, l, m] = wipeR ρ [i, j, l, m] := by intros; rfl) :
    Ev (wComp wi (wgTup 4 (wgCons (wgName i) (wgCons (wgName j) (wgCons (wgName l) (wgCons (wgName m) wgNil))))) tt t [i, j, l, m]) ρ (.lst ((L.filter tb).map el)) .nw := fun Q q => by
  unfold wComp
  refine hi _ ?_
  refine comp_mp (fun a => .tup [e1 a, e2 a, e3 a, e4 a]) (fun a => if tb a = true then some (el a) else none) L hl (fun a ha K hK => ?_) ?_
  · refine ⟨rfl, ?_⟩
    show tt (((((wipeR ρ [i, j, l, m]).set i (.fz (e1 a))).set j (.fz (e2 a))).set l (.fz (e3 a))).set m (.fz (e4 a))) _
    refine ht a ha _ ?_
    by_cases c : tb a = true
    · rw [if_pos c]
      rw [if_pos c] at hK
      refine he a ha c _ (toF_ok hk ?_)
      rw [hw]; exact hK
    · rw [if_neg c]
      rw [if_neg c] at hK
      rw [hw]; exact hK
  · rw [fm_filter, hr]; exact q
end
section
variable {ρ : Rho} {t u v w tk tv : WE} {c : WT} {R S : D → Prop} {k k' k3 : Kd} {d e : D} {i j : Nat} {r : WS} {P : PEnds} {wi : WI} {x : Int}
def DmN (t : WE) (ρ : Rho) (R : D → Prop) : Prop := ∀ Q : D → Kd → Rho → Prop, (∀ d, R d → Q d .nw ρ) → t ρ Q
def Dt (c : WT) (ρ : Rho) : Prop := ∀ Q : Bool → Rho → Prop, (∀ b, Q b ρ) → c ρ Q
theorem dmN_ev (h : Ev t ρ d .nw) (hR : R d) : DmN t ρ R := fun Q q => h _ (q _ hR)
theorem dmN_if (h : Dt c ρ) (a : DmN t ρ R) (b : DmN u ρ R) : DmN (wIfE c t u) ρ R := fun Q q => by
  rw [wIfE_e]
  refine h _ fun z => ?_
  cases z with
  | true => exact a _ q
  | false => exact b _ q
theorem dt_gt {V : Int → Prop} (h : Dm t ρ fun d => ∃ r, d = .int r ∧ V r) (h' : Ev u ρ (.int x) k) : Dt (wTest (wBin bGtD t u)) ρ := fun Q q => h _ fun d ⟨r, e, _⟩ => h' _ (by
  subst e
  exact q (decide (r > x)))
theorem dmN_disp {s : Str} (hk : Ev tk ρ (.str s) k) (hv : Dm tv ρ R) : DmN (wDisp (pCons tk tv pNil)) ρ (fun d => ∃ v, d = .dk [(.inr s, v)] ∧ R v) := fun Q q => hk _ (hv _ fun v hv => by
  refine ⟨by simp, ?_⟩
  exact q _ ⟨v, rfl, hv⟩)
theorem dm_tup2b (h : Ev t ρ d k) (h' : Dm u ρ R) (hk : k.ok = true := by rfl) : Dm (wTup (wConsF t (wConsF u wNil))) ρ (fun z => ∃ e, z = .tup [d, e] ∧ R e) := fun Q q => h _ (toF_ok hk (h' _ fun e he => ⟨by simp [LIM], q _ ⟨e, rfl, he⟩⟩))
theorem dm_tup2c (h : Dm t ρ R) (h' : Dm u ρ S) : Dm (wTup (wConsF t (wConsF u wNil))) ρ (fun z => ∃ d e, z = .tup [d, e] ∧ R d ∧ S e) := fun Q q => h _ fun d hd => h' _ fun e he => ⟨by simp [LIM], q _ ⟨d, e, rfl, hd, he⟩⟩
theorem dm_tup4 {T : D → Prop} (h1 : Dm t ρ R) (h2 : Dm u ρ S) (h3 : Ev v ρ d k) (h4 : Dm w ρ T) (hk : k.ok = true := by rfl) : Dm (wTup (wConsF t (wConsF u (wConsF v (wConsF w wNil))))) ρ (fun z => ∃ a b c, z = .tup [a, b, d, c] ∧ R a ∧ S b ∧ T c) := fun Q q =>
  h1 _ fun a ha => h2 _ fun b hb => h3 _ (toF_ok hk (h4 _ fun c hc => ⟨by simp [LIM], q _ ⟨a, b, c, rfl, ha, hb, hc⟩⟩))
theorem sq_parNN (h : Ev t ρ d .nw) (h' : Ev u ρ e .nw) (q : r P ((ρ.set i (.ow d)).set j (.ow e))) : wSeq (wPar [i, j] (nCons t (nCons u nNil))) r P ρ := h _ (h' _ ⟨rfl, q⟩)
theorem ev_dk0 : Ev wDk0 ρ (.dk []) .nw := fun _ q => q
theorem go_upd {es : List (Key × D)} (ho : ρ[i]? = some (.ow (.dk es))) (h : DmN w ρ R) (q : ∀ d, R d → ∃ more, d = .dk more ∧ es.length + more.length ≤ LIM ∧ P.nx (ρ.set i (.ow (.dk (mergeD es more))))) : wUpd i w P ρ := ⟨⟨_, ho⟩, h _ fun d hd => by
  obtain ⟨more, rfl, hl, hq⟩ := q d hd
  rw [ho]
  exact ⟨hl, hq⟩⟩
theorem go_appD {xs : List D} (ho : ρ[i]? = some (.ow (.lst xs))) (h : Dm w ρ R) (hl : xs.length < LIM) (q : ∀ d, R d → P.nx (ρ.set i (.ow (.lst (xs ++ [d]))))) : wMut i w fAppend P ρ :=
  ⟨⟨_, ho⟩, h _ fun d hd => by
    show (match ρ[i]? with
      | some (.ow d0) => match fAppend d0 d with
        | some z => P.nx (ρ.set i (.ow z))
        | none => False
      | _ => False)
    rw [ho]
    show (match fAppend (.lst xs) d with
        | some z => P.nx (ρ.set i (.ow z))
        | none => False)
    rw [fAppend, if_pos hl]
    exact q d hd⟩
theorem dm_w {sp : FS} (hw : ρ[i]? = some .w) (hs : ∀ q : D → Kd → Prop, (∀ z, R z → q z .fz) → sp [.w] q) : Dm (wCall sp (xW i xNil)) ρ R := fun Q q => ⟨hw, hs _ q⟩
theorem sq_asgT2D {l : Nat} (h : Dm w ρ R) (q : ∀ d, R d → ∃ a b, d = .tup [a, b] ∧ r P ((ρ.set i (.fz a)).set j (.fz b))) : wSeq (wAsgT (wgTup 2 (wgCons (wgName i) (wgCons (wgName j) wgNil))) w) r P ρ := h _ fun d hd => by
  obtain ⟨a, b, rfl, hq⟩ := q d hd
  exact ⟨rfl, hq⟩
theorem dmN_comp {B : Nat} (hB : B ≤ LIM) (hi : ∀ Q : List D → Rho → Prop, (∀ xs, xs.length ≤ B → Q xs ρ) → wi ρ Q) (he : ∀ x, Dm t ((wipeR ρ [i]).set i (.fz x)) R) (hr : restR ρ (wipeR ρ [i]) [i] = ρ := by rfl) (hw : ∀ d, wipeR ((wipeR ρ [i]).set i (.fz d)) [i] = wipeR ρ [i] := by intro; rfl) :
    ∀ Q : D → Kd → Rho → Prop, (∀ ds, ds.length ≤ B → (∀ d ∈ ds, R d) → Q (.lst ds) .nw ρ) → wComp wi (wgName i) wYes t [i] ρ Q := fun Q q => by
  unfold wComp
  refine hi _ fun xs hx => ?_
  refine comp_rel (fun _ o => ∃ d, o = some d ∧ R d) xs [] (by simpa using Nat.le_trans hx hB) (fun x _ K hK => ?_) fun ds hd => ?_
  · simp only [wgName, wYes]
    show (if true = true then t ((wipeR ρ [i]).set i (.fz x)) (toF fun d ρ3 => K (some d) (wipeR ρ3 [i])) else K none (wipeR ((wipeR ρ [i]).set i (.fz x)) [i]))
    rw [if_pos rfl]
    refine he x _ fun d hd => ?_
    show K (some d) (wipeR ((wipeR ρ [i]).set i (.fz x)) [i])
    rw [hw]
    exact hK _ ⟨d, rfl, hd⟩
  · obtain ⟨a, b⟩ := PF.all (p := R) (fun x o ⟨d, h1, h2⟩ => ⟨d, h1, h2⟩) hd
    rw [List.nil_append, hr]
    exact q ds (by omega) b
end
theorem okL {n : Nat} {xs : List D} (h : ∀ x ∈ xs, okE n x = true) : okE (n + 1) (.lst xs) = true := by rw [okE_lst]; exact okEs_all.mpr h
theorem bEq_nilT {xs : List D} (h : okE 20 (.tup xs) = true) : bEq (.tup xs) (.tup []) = ozB (decide (xs = [])) := by
  unfold bEq
  rw [if_pos ⟨h, rfl⟩]
  cases xs with
  | nil => rfl
  | cons x xs => simp [eqv, eqvs]
theorem bNe_nilT {xs : List D} (h : okE 20 (.tup xs) = true) : bNe (.tup xs) (.tup []) = ozB (!decide (xs = [])) := by
  unfold bNe
  rw [if_pos ⟨h, by simp [okE, okEs]⟩]
  cases xs <;> simp [eqv, eqvs]
theorem bEq_nil {xs : List D} (h : okE 20 (.lst xs) = true) : bEq (.lst xs) (.lst []) = ozB (decide (xs = [])) := by
  unfold bEq
  rw [if_pos ⟨h, rfl⟩]
  cases xs with
  | nil => rfl
  | cons x xs => simp [eqv, eqvs]
theorem sort_go {ta : WA} {ρ : Rho} {xs : List D} {sh : Sh} (h : Ea ta ρ [.lst xs]) (hs : SShp sh xs) : Ev (wClP PSort ta) ρ (.lst (isort xs)) .nw := fun Q q => h _ ⟨.lst (isort xs), .nw, ⟨xs, sh, rfl, hs, rfl, rfl⟩, q⟩
theorem ret_own {ρ : Rho} {i : Nat} {d : D} {sp : FS} {P : PEnds} (ho : ρ[i]? = some (.ow d)) (h : sp [.d d] fun d k => P.rt d k.ret) : wRet (wCall sp (xCons (wVar i) xNil)) P ρ := by
  show wVar i ρ _
  rw [wVar_e, ho]
  exact h
theorem own_go {ρ : Rho} {i : Nat} {d : D} {Q : D → Rho → Prop} (ho : ρ[i]? = some (.ow d)) (h : Q d (ρ.set i (.fz d))) : wVar i ρ (toF Q) := by
  rw [wVar_e, ho]; exact h
theorem ix_natL {xs : List D} {k : Nat} {d : D} (h : xs[k]? = some d) : bSubs (.lst xs) (.int k) = some (d, .fz) := by
  have hl := (List.getElem?_eq_some_iff.mp h).1
  have e : ixN xs.length (k : Int) = some k := by
    unfold ixN
    simp
    omega
  show (atI xs (k : Int)).map (fun d => (d, Kd.fz)) = _
  unfold atI
  rw [e]
  simp [h]
theorem ix_natT {xs : List D} {k : Nat} {d : D} (h : xs[k]? = some d) : bSubs (.tup xs) (.int k) = some (d, .fz) := by
  have hl := (List.getElem?_eq_some_iff.mp h).1
  have e : ixN xs.length (k : Int) = some k := by
    unfold ixN
    simp
    omega
  show (atI xs (k : Int)).map (fun d => (d, Kd.fz)) = _
  unfold atI
  rw [e]
  simp [h]
theorem ev_lenT {α : Type} {f : α → D} {ρ : Rho} {w : WE} {ws : List α} {k : Kd} (h : Ev w ρ (.tup (ws.map f)) k) : Ev (wCl cLen (wCons w wNil)) ρ (.int ws.length) .fz := ev_cl (ea_cons h ea_nil) (by show ozI _ = _; rw [List.length_map]; rfl)
theorem ev_lenL {α : Type} {f : α → D} {ρ : Rho} {w : WE} {ws : List α} {k : Kd} (h : Ev w ρ (.lst (ws.map f)) k) : Ev (wCl cLen (wCons w wNil)) ρ (.int ws.length) .fz := ev_cl (ea_cons h ea_nil) (by show ozI _ = _; rw [List.length_map]; rfl)
theorem ev_sset {ρ : Rho} {t : WE} {k : Kd} {ds : List D} {sh : Sh} (h : Ev t ρ (.lst ds) k) (hf : Flat sh ds) (hl : ds.length ≤ 1000) : Ev (wSortSet t) ρ (.lst (isort (uniqD ds))) .nw := fun Q q => h _ ⟨ds, sh, rfl, hf, Nat.lt_of_le_of_lt (Nat.succ_le_succ hl) (by decide +kernel), q⟩
theorem sq_asgT4 {i j l m : Nat} {a b c d : D} {ρ : Rho} {w : WE} {r : WS} {P : PEnds} (h : Ev w ρ (.tup [a, b, c, d]) .fz) (k : r P ((((ρ.set i (.fz a)).set j (.fz b)).set l (.fz c)).set m (.fz d))) : wSeq (wAsgT (wgTup 4 (wgCons (wgName i) (wgCons (wgName j) (wgCons (wgName l) (wgCons (wgName m) wgNil))))) w) r P ρ := h _ ⟨rfl, k⟩
theorem flat_if {α β : Type} (p : α → Bool) (f : α → β) : ∀ l : List α, (l.flatMap fun a => if p a = true then [f a] else []) = (l.filter p).map f
  | [] => rfl
  | a :: l => by
    rw [List.flatMap_cons, flat_if p f l, List.filter_cons]
    by_cases c : p a = true <;> simp [c]
theorem put_keys (es : List (Key × D)) (k : Key) (v : D) : (putD es k v).map (·.1) = addK (es.map (·.1)) k := by
  by_cases h : k ∈ es.map (·.1)
  · rw [addK_in h]
    have ha : (es.any fun kv => decide (kv.1 = k)) = true := by
      obtain ⟨p, hp, e⟩ := List.mem_map.mp h
      exact List.any_eq_true.mpr ⟨p, hp, by simp [e]⟩
    unfold putD
    rw [if_pos ha, List.map_map]
    refine List.map_congr_left fun p _ => ?_
    show (if p.1 = k then (p.1, v) else p).1 = p.1
    split <;> rfl
  · rw [addK_out h]
    have ha : (es.any fun kv => decide (kv.1 = k)) = false := by
      rw [Bool.eq_false_iff]
      intro q
      obtain ⟨p, hp, e⟩ := List.any_eq_true.mp q
      exact h (List.mem_map.mpr ⟨p, hp, by simpa using e⟩)
    unfold putD
    rw [if_neg (by rw [ha]; decide), List.map_append]; rfl
theorem merge_keys : ∀ (more es : List (Key × D)), (mergeD es more).map (·.1) = (more.map (·.1)).foldl addK (es.map (·.1))
  | [], es => rfl
  | p :: more, es => by
    show (mergeD (putD es p.1 p.2) more).map (·.1) = _
    rw [merge_keys more, put_keys]; rfl
theorem prs_map {α : Type} (s : α → Str) (v : α → D) : ∀ l : List α, prsOf (l.map fun a => .tup [.str (s a), v a]) = some (l.map fun a => (Sum.inr (s a), v a))
  | [] => rfl
  | a :: l => by
    rw [List.map_cons]
    show (match keyOf (.str (s a)), prsOf (l.map fun a => .tup [.str (s a), v a]) with
      | some key, some l => some ((key, v a) :: l)
      | _, _ => none) = _
    rw [prs_map s v l]; rfl
theorem ev_sortK {t : WE} {ρ : Rho} {k : Kd} {es : List (Key × D)} (h : Ev t ρ (.dk es) k) (hk : ∀ x ∈ keysD es, ∃ s, x = .str s ∧ hasSh .str (.str s) = true) (hl : es.length < 64) : Ev (wClP PSortK (wCons t wNil)) ρ (.lst (isort (keysD es))) .nw := fun Q q => h _ (by
  refine ⟨_, _, ⟨es, (keysD es).map fun x => (match x with
    | .str s => s
    | _ => Str.empty), rfl, ?_, by rw [List.length_map]; unfold keysD; rw [List.length_map]; exact hl, fun x hx => ?_, rfl, rfl⟩, q⟩
  · rw [List.map_map]
    unfold keysD at hk ⊢
    rw [List.map_map]
    refine List.map_congr_left fun p hp => ?_
    obtain ⟨s, e, _⟩ := hk (kD p.1) (List.mem_map.mpr ⟨p, hp, rfl⟩)
    show p.1 = Sum.inr (match kD p.1 with
      | .str s => s
      | _ => Str.empty)
    rw [e]
    obtain ⟨k, v⟩ := p
    cases k with
    | inl i => cases e
    | inr s' => cases e; rfl
  · obtain ⟨d, hd, rfl⟩ := List.mem_map.mp hx
    obtain ⟨s, rfl, hs⟩ := hk d hd
    exact hs)
theorem dmT_comp {wi : WI} {tt : WT} {ρ : Rho} {i : Nat} {xs : List D} (hi : Ei wi ρ xs) (hl : xs.length ≤ LIM) (ht : ∀ x ∈ xs, Dt tt ((wipeR ρ [i]).set i (.fz x))) (hv : ∀ x, ((wipeR ρ [i]).set i (.fz x))[i]? = some (.fz x) := by intro; rfl) (hr : restR ρ (wipeR ρ [i]) [i] = ρ := by rfl) (hw : ∀ d, wipeR ((wipeR ρ [i]).set i (.fz d)) [i] = wipeR ρ [i] := by intro; rfl) :
    ∀ Q : D → Kd → Rho → Prop, (∀ ds, ds.Sublist xs → Q (.lst ds) .nw ρ) → wComp wi (wgName i) tt (wVar i) [i] ρ Q := fun Q q => by
  unfold wComp
  refine hi _ ?_
  refine comp_rel (fun x o => o = some x ∨ o = none) xs [] (by simpa using hl) (fun x hx K hK => ?_) fun ds hd => ?_
  · show tt ((wipeR ρ [i]).set i (.fz x)) _
    refine ht x hx _ fun c => ?_
    cases c with
    | true =>
      rw [if_pos rfl]
      refine ev_var (hv x) _ ?_
      show K (some x) (wipeR ((wipeR ρ [i]).set i (.fz x)) [i])
      rw [hw]
      exact hK _ (.inl rfl)
    | false =>
      rw [if_neg (by decide), hw]
      exact hK _ (.inr rfl)
  · rw [List.nil_append, hr]
    exact q ds (hd.sub fun x d h => by
      rcases h with h | h
      · cases h; rfl
      · cases h)
theorem dt_eq {t u : WE} {ρ : Rho} {x : Int} {k : Kd} {V : Int → Prop} (h : Dm t ρ fun d => ∃ r, d = .int r ∧ V r) (h' : Ev u ρ (.int x) k) : Dt (wTest (wBin bEq t u)) ρ := fun Q q => h _ fun d ⟨r, e, _⟩ => h' _ (by
  subst e
  rw [bEq_ints]
  exact q (decide (r = x)))
theorem ev_slh {t : WE} {ρ : Rho} {d z : D} {k kz : Kd} {n : Int} (h : Ev t ρ d k) (e : dSlice d none (some n) = some (z, kz)) : Ev (wSlice t wPNone (wPSome (wCon (.int n)))) ρ z kz := fun Q q => h _ (by show oB _ _; rw [e]; exact q)
theorem sq_par3D {R S T : D → Prop} {t u v : WE} {ρ : Rho} {i j l : Nat} {r : WS} {P : PEnds} (h : Dm t ρ R) (h' : Dm u ρ S) (h2 : Dm v ρ T) (q : ∀ d e f, R d → S e → T f → r P (((ρ.set i (.fz d)).set j (.fz e)).set l (.fz f))) : wSeq (wPar [i, j, l] (nCons t (nCons u (nCons v nNil)))) r P ρ := h _ fun d hd => h' _ fun e he => h2 _ fun f hf => ⟨rfl, q d e f hd he hf⟩
theorem flat_filter {α β : Type} (p : β → Bool) (f : α → List β) : ∀ l : List α, (l.flatMap f).filter p = l.flatMap fun a => (f a).filter p
  | [] => rfl
  | a :: l => by rw [List.flatMap_cons, List.filter_append, List.flatMap_cons, flat_filter p f l]
theorem flat_map' {α β γ : Type} (g : β → γ) (f : α → List β) : ∀ l : List α, (l.flatMap f).map g = l.flatMap fun a => (f a).map g
  | [] => rfl
  | a :: l => by rw [List.flatMap_cons, List.map_append, List.flatMap_cons, flat_map' g f l]
theorem ei_r2 {ρ : Rho} {a : Int} {n : Nat} {b : Int} {ta : WA} (h : Ea ta ρ [.int a, .int b]) (e : b = a + n) (ha : -1000000000 ≤ a ∧ a ≤ 1000000000) (hn : n ≤ 1000000000) : Ei (wiR2 ta) ρ ((List.range n).map fun (k : Nat) => D.int (a + (k : Int))) := fun Q q => by
  rw [wiR2_e]
  refine h _ ?_
  subst e
  refine ⟨by unfold i62; omega, by unfold i62; omega, ?_⟩
  rw [show ((a + (n : Int) - a).toNat) = n by omega]
  exact q
theorem cMax_ints {xs : List Int} {m : Int} (hm : m ∈ xs) (h : ∀ x ∈ xs, x ≤ m) : cMax [.lst (xs.map .int)] = ozI m := by
  cases xs with
  | nil => cases hm
  | cons a as =>
    have hs : ∀ d ∈ as.map D.int, hasSh .int d = true := fun d hd => by obtain ⟨i, _, rfl⟩ := List.mem_map.mp hd; rfl
    have ho : allOrd ((a :: as).map .int) = true := allOrd_sh (sh := .int) (by decide) fun d hd => by obtain ⟨i, _, rfl⟩ := List.mem_map.mp hd; rfl
    show (if allOrd ((a :: as).map .int) = true then some (maxDD (.int a) (as.map .int), Kd.fz) else none) = _
    rw [if_pos ho]
    obtain ⟨m1, m2⟩ := maxDD_spec (sh := .int) (as.map .int) (.int a) rfl hs
    obtain ⟨c, hc, ec⟩ := List.mem_map.mp (show maxDD (.int a) (as.map .int) ∈ (a :: as).map D.int from m1)
    rw [← ec] at m2 ⊢
    have h1 := m2 (.int m) (show D.int m ∈ (a :: as).map D.int from List.mem_map.mpr ⟨m, hm, rfl⟩)
    have h2 : ¬ c < m := of_decide_eq_false (by simpa [dlt] using h1)
    have h3 := h c hc
    have : c = m := by omega
    rw [this]; rfl
theorem min_head {sh : Sh} {x : D} {xs : List D} (hx : hasSh sh x = true) (hs : ∀ d ∈ xs, hasSh sh d = true) : ∃ t, isort (x :: xs) = minDD x xs :: t := by
  have O := sh_ord sh
  have all : ∀ d ∈ x :: xs, hasSh sh d = true := fun d hd => by
    rcases List.mem_cons.mp hd with rfl | hd
    · exact hx
    · exact hs d hd
  have pm := isort_perm (x :: xs)
  have so := isort_srt O (x :: xs) all
  obtain ⟨m1, m2⟩ := minDD_spec xs x hx hs
  cases e : isort (x :: xs) with
  | nil => rw [e] at pm; exact absurd pm.length_eq (by simp)
  | cons h t =>
    rw [e] at pm so
    have hh : h ∈ x :: xs := pm.mem_iff.mp (by simp)
    have a1 := m2 h hh
    have a2 : dlt (minDD x xs) h = false := by
      rcases List.mem_cons.mp (pm.mem_iff.mpr m1) with q | q
      · rw [q]; exact O.irr _ (all h hh)
      · exact (List.pairwise_cons.mp so).1 _ q
    rcases O.tot h (minDD x xs) (all h hh) (all _ m1) with q | q | q
    · rw [q] at a1; cases a1
    · exact ⟨t, by rw [q]⟩
    · rw [q] at a2; cases a2
theorem ei_k {ρ : Rho} {i : Nat} {es : List (Key × D)} (h : ρ[i]? = some (.fz (.dk es))) : Ei (wiK i) ρ (keysD es) := fun Q q => by
  unfold wiK
  rw [wVar_e, h]
  exact q
theorem put_new {es : List (Key × D)} {k : Key} {v : D} (h : valD es k = none) : putD es k v = es ++ [(k, v)] := by
  have hn : (es.any fun kv => decide (kv.1 = k)) = false := by
    rw [Bool.eq_false_iff]
    intro ha
    obtain ⟨p, hp, e⟩ := List.any_eq_true.mp ha
    unfold valD at h
    rw [Option.map_eq_none_iff] at h
    have := List.find?_eq_none.mp h p hp
    simp at e this
    exact this e
  unfold putD
  rw [if_neg (by rw [hn]; decide)]
theorem valD_new {es : List (Key × D)} {k : Key} {v : D} (h : valD es k = none) (k' : Key) : valD (putD es k v) k' = if k = k' then some v else valD es k' := by
  have hn : (es.any fun kv => decide (kv.1 = k)) = false := by
    rw [Bool.eq_false_iff]
    intro ha
    obtain ⟨p, hp, e⟩ := List.any_eq_true.mp ha
    unfold valD at h
    rw [Option.map_eq_none_iff] at h
    have := List.find?_eq_none.mp h p hp
    simp at e this
    exact this e
  unfold putD
  rw [if_neg (by rw [hn]; decide)]
  unfold valD
  rw [List.find?_append]
  by_cases c : k = k'
  · subst c
    unfold valD at h
    rw [Option.map_eq_none_iff] at h
    rw [h]
    simp
  · rw [if_neg c]
    cases es.find? (fun kv => decide (kv.1 = k')) with
    | none => simp [c]
    | some p => simp
theorem len_put (es : List (Key × D)) (k : Key) (v : D) : (putD es k v).length ≤ es.length + 1 := by
  unfold putD
  split
  · simp
  · simp
theorem bNe_nilL {xs : List D} (h : okE 20 (.lst xs) = true) : bNe (.lst xs) (.lst []) = ozB (!decide (xs = [])) := by
  unfold bNe
  rw [if_pos ⟨h, by simp [okE, okEs]⟩]
  cases xs <;> simp [eqv, eqvs]
end VL

/-! VX0: defs that raise an own error with one field (a number or a text), calls of such defs, try .. except. -/
namespace VL
open PySem PySem.Spec PyProof.Rows L2
open Evl (Ex)
variable {K : PySem.W.Frag}
/-- data that an error's field may hold -/
def atV : D → Option V
  | .int i => some (.int i)
  | .str s => if s.length ≤ 1000 then some (.str s) else none
  | _ => none
def SvOk : Bool → V → Prop
  | true, v => ∃ s, v = .str s ∧ s.length ≤ 1000
  | false, v => ∃ i, v = .int i
def isTx : D → Bool
  | .str _ => true
  | _ => false
theorem atV_ok {d : D} {v : V} (h : atV d = some v) : SvOk (isTx d) v := by
  cases d with
  | int i => cases h; exact ⟨i, rfl⟩
  | str s =>
    change (if s.length ≤ 1000 then some (V.str s) else none) = some v at h
    split at h
    · cases h; exact ⟨s, rfl, by assumption⟩
    · cases h
  | _ => cases h
theorem atV_rp {d : D} {v : V} {G : Hp} (h : atV d = some v) : Rp K G v d := by
  cases d with
  | int i => cases h; exact .int i
  | str s =>
    change (if s.length ≤ 1000 then some (V.str s) else none) = some v at h
    split at h
    · cases h; exact .str s
    · cases h
  | _ => cases h
theorem ov_atV {d : D} {u v : V} {G B : Hp} (h : atV d = some v) (o : Ov K G B u d) : u = v := by
  cases d with
  | int i => cases h; exact ov_int o
  | str s =>
    change (if s.length ≤ 1000 then some (V.str s) else none) = some v at h
    split at h
    · cases h; exact ov_str o
    · cases h
  | _ => cases h
/-- what the wish W takes -/
def XOk (K : PySem.W.Frag) (b : Bs) (C : Addr) (f : Str) (W : L2.WX) (x : D → Rho → Prop) : Prop := ∀ a v ρ σ G H d, x a ρ → atV a = some v → Sim K b G ρ σ H → H d = some (.xd [(f, v)]) → W (.ref C) (some d) σ H
abbrev WRE := (D → Rho → Prop) → WE
abbrev WRS := (D → Rho → Prop) → WS
def SndEQ (K : PySem.W.Frag) (C : Addr) (f : Str) (W : L2.WX) (te : TE) (t : WRE) : Prop := ∀ (b : Bs) (G : Hp) (ρ : Rho) (σ : L2.St) (H : Hp) (Q : D → Kd → Rho → Prop) (R : VK) (x : D → Rho → Prop), XOk K b C f W x → Sim K b G ρ σ H → t x ρ Q →
  (∀ d k ρ' v G' H', Q d k ρ' → Xt b ρ σ G H ρ' G' H' → Sim K b G' ρ' σ H' → Rv K b H G' H' ρ' σ k v d → R v H') → te σ H R
def SndQ (K : PySem.W.Frag) (C : Addr) (f : Str) (W : L2.WX) (ts : TS) (t : WRS) : Prop := ∀ (b : Bs) (P : PEnds) (E : Ends) (G : Hp) (ρ : Rho) (σ : L2.St) (H : Hp) (x : D → Rho → Prop), EOk K b P E → XOk K b C f W x → Sim K b G ρ σ H → t x P ρ → ts E σ H
section
variable {C : Addr} {f : Str} {W : L2.WX} {ts us : TS} {t u : WRS} {te : TE} {w : WRE}
theorem sndQ_of {t : WS} (h : SndS K ts t) : SndQ K C f W ts (fun _ => t) := fun b P E G ρ σ H x e _ s q => h b P E G ρ σ H e s q
theorem sndQ_seq (ha : SndQ K C f W ts t) (hb : SndQ K C f W us u) : SndQ K C f W (tSeq ts us) (fun x => wSeq (t x) (u x)) := fun b P E G ρ σ H x e o s h =>
  ha b { P with nx := u x P } { E with nx := us E } G ρ σ H x ⟨fun ρ σ G H h s => hb b P E G ρ σ H x e o s h, e.rt, e.bk, e.ct⟩ o s h
theorem sndQ_if {tc : TT} {c : WT} (hc : SndT K tc c) (ha : SndQ K C f W ts t) (hb : SndQ K C f W us u) : SndQ K C f W (tIfS tc ts us) (fun x => wIf c (t x) (u x)) := fun b P E G ρ σ H x e o s h =>
  hc b G ρ σ H _ _ s h fun c ρ1 G1 H1 q1 x1 s1 => by
    cases c with
    | true => exact iteT (ha b P E G1 ρ1 σ H1 x e o s1 q1)
    | false => exact iteF (hb b P E G1 ρ1 σ H1 x e o s1 q1)
theorem sndQ_ret (h : SndEQ K C f W te w) : SndQ K C f W (tRet te) (fun x => wRet (w x)) := fun b P E G ρ σ H x e o s hq =>
  h b G ρ σ H _ _ x o s hq fun d k ρ' v G' H' q x s' r => e.rt d _ v ρ' σ G' H' q s' (r.rr s s')
theorem sndQ_asg {i : Nat} (h : SndEQ K C f W te w) : SndQ K C f W (tAsg te (gName i)) (fun x => wAsg i (w x)) := fun b P E G ρ σ H x e o s hq =>
  h b G ρ σ H _ _ x o s hq fun d k ρ' v G' H' q x s' r => name_ok (R := E.nx) r s x s' q fun ρ2 G2 q2 s2 => e.nx ρ2 _ G2 H' q2 s2
end
/-! ### a call of a def that may raise -/
abbrev FSX := List A → (D → Kd → Prop) → (D → Prop) → Prop
def toSpX (K : PySem.W.Frag) (C : Addr) (f : Str) (sp : FSX) : Sp := fun vs H R E => ∃ (aw : Option Addr) (G : Hp) (as : List A) (q : D → Kd → Prop) (x : D → Prop), Ex G (hd aw H) ∧ (∀ a, aw = some a → WOk K G H a) ∧ Paired (RpA K ⟨aw, G, hd aw H⟩ G) vs as ∧ sp as q x ∧
  (∀ d k v G' H', q d k → Ex G G' → Ex G' (hd aw H') → Ex (hd aw H) (hd aw H') → (∀ a o, hd aw H a = some o → G a = none → G' a = none) → (∀ a, aw = some a → WOk K G' H' a) → Rr K ⟨aw, G, hd aw H⟩ G' H' k v d → R v H') ∧
  ∀ a v G' H' d, x a → atV a = some v → Ex G G' → Ex G' (hd aw H') → Ex (hd aw H) (hd aw H') → (∀ a o, hd aw H a = some o → G a = none → G' a = none) → (∀ a, aw = some a → WOk K G' H' a) → H' d = some (.xd [(f, v)]) → E (.ref C) (some d) H'
def wCallX (sp : FSX) (t : WX) : WRE := fun x ρ Q => t ρ fun as ρ1 => sp as (fun d k => Q d k ρ1) (fun a => x a ρ1)
theorem Sim.after {b : Bs} {G1 H1 G2 H2 : Hp} {ρ1 : Rho} {σ : L2.St} (s1 : Sim K b G1 ρ1 σ H1) (g : Ex G1 G2) (sub : Ex G2 (hd b.aw H2)) (hh : Ex (hd b.aw H1) (hd b.aw H2)) (new : ∀ a o, hd b.aw H1 a = some o → G1 a = none → G2 a = none) (wk : ∀ a, b.aw = some a → WOk K G2 H2 a) : Sim K b G2 ρ1 σ H2 := by
  refine ⟨s1.len, sub, s1.g0.trans g, s1.b0.trans hh, fun a o e n => ?_, fun i d e => ?_, fun i d e => ?_, s1.dj, s1.ws, wk⟩
  · exact new a o (s1.b0 a o e) (s1.new a o e n)
  · obtain ⟨v, e1, r⟩ := s1.fz i d e
    exact ⟨v, e1, r.mono g⟩
  · obtain ⟨a, e1, e2, e3, e4, e5⟩ := s1.ow i d e
    obtain ⟨o, ho, _⟩ := e5.there
    have ho' : hd b.aw H1 a = some o := by rw [hd_ne e2]; exact ho
    exact ⟨a, e1, e2, e3, new a o ho' e4, e5.mono g fun u hu => by
      have : hd b.aw H1 a = some u := by rw [hd_ne e2]; exact hu
      exact (hd_some (hh a u this)).2⟩
theorem snd_callX {C : Addr} {f : Str} {W : L2.WX} {sp : FSX} {ta : TA} {t : WX} (h : SndX K ta t) : SndEQ K C f W (tCallS (toSpX K C f sp) (L2.WE W) ta) (wCallX sp t) := by
  intro b G ρ σ H Q R x o s hq k
  refine h b G ρ σ H _ _ s hq fun as ρ1 vs G1 H1 q1 x1 s1 r1 => ?_
  refine ⟨b.aw, G1, as, _, _, s1.sub, s1.wk, Paired.mapP r1 (fun v a r => by cases a with | d d => exact r | w => exact r), q1, fun d kd v G2 H2 q2 g sub hh new wk rr => ?_, fun a v G2 H2 d q2 av g sub hh new wk ed => ?_⟩
  · have s2 := s1.after g sub hh new wk
    have x2 : Xt b ρ1 σ G1 H1 ρ1 G2 H2 := ⟨g, hh, fun a o e n _ => new a o e n, fun _ _ e => e⟩
    refine k d kd ρ1 v G2 H2 q2 (x1.trans x2) s2 ?_
    cases kd with
    | fz => exact rr
    | nw =>
      obtain ⟨a, e0, e1, e2, e3, e4⟩ := rr
      exact ⟨a, e0, Evl.fresh_back x1.h e1, e2, e3, e4⟩
    | br i => exact rr.elim
  · exact o a v ρ1 σ G2 H2 d q2 av (s1.after g sub hh new wk) ed
section
variable {P : Program} {w : World} {mg : Str → Option Value} {base : Heap}
theorem fn_okX {x qual : Str} {st : Stmt} {fa : Addr} {fd : FuncData} {N ps : List Str} {k : Nat} {C : Addr} {f : Str} {sp : FSX} (t : WRS) (F : Fun K x qual st fa fd) (S : FnScope N ps (defScope st))
    (hb : ∀ (cdv : Value) (A : Around) (outer : List Env) (s : Shared) (H : Hp) (E : XK), Room k (A.deeper (envOfC qual (defScope st) s.heap.objs.size fa cdv)) →
      ∃ ts, PSs (cxOf (L2.CX P w) P w K mg base N qual (defScope st) fa cdv A outer s H E) (defBody st) ts ∧ SndQ K C f (fun cls d _ H => E cls d H) ts t)
    (hs : ∀ as q x, sp as q x → as.length = ps.length ∧ t (fun a _ => x a) ⟨fun _ => q .non .fz, q, fun _ => False, fun _ => False⟩ (rho0 N.length as)) : FnOk P w K mg base (L2.CX P w) (k + 1) fa fd ps (toSpX K C f sp) := by
  refine F.okX S (fun vs H Q E h => ?_) fun cdv A outer s H vs Q E hr h => ?_
  · obtain ⟨aw, G, as, q, x, _, _, r, hq, _⟩ := h
    rw [Paired.len r]
    exact (hs as q x hq).1
  · obtain ⟨aw, G, as, q, x, g, hw, r, hq, back, backX⟩ := h
    obtain ⟨ts, hps, hsn⟩ := hb cdv A outer s H E hr
    refine ⟨ts, hps, hsn ⟨aw, G, hd aw H⟩ ⟨fun _ => q .non .fz, q, fun _ => False, fun _ => False⟩ _ G _ _ H (fun a _ => x a) ⟨fun ρ σ G' H' q1 s1 => ?_, fun d k v ρ σ G' H' q1 s1 rr => ?_, fun ρ σ G' H' q1 s1 => q1.elim, fun ρ σ G' H' q1 s1 => q1.elim⟩ (fun a v ρ σ G' H' d xa av s1 ed => ?_) (start_sim g hw r) (hs as q x hq).2⟩
    · exact back .non .fz .non G' H' q1 s1.g0 s1.sub s1.b0 s1.new s1.wk .non
    · exact back d k v G' H' q1 s1.g0 s1.sub s1.b0 s1.new s1.wk rr
    · exact backX a v G' H' d xa av s1.g0 s1.sub s1.b0 s1.new s1.wk ed
end
/-! ### the making of the error -/
def spInit (tx : Bool) (C : Addr) (f : Str) : Sp := fun vs H Q _ => ∃ (a : Addr) (v : V), vs = [.ref a, v] ∧ SvOk tx v ∧ H a = some (exo a C none) ∧ ∀ d, H d = none → d ≠ a → Q .non (upd (upd H d (exd d [(f, v)])) a (exo a C (some d)))
def tRaiseO (tx : Bool) (C : Addr) (f : Str) (W : L2.WX) (te : TE) : TS := fun _ σ H => tMkO C (spInit tx C f) [] (tCons te tNil) σ H fun cls d H' => W cls d σ H'
def wRaise (tx : Bool) (w : WE) : WRS := fun x _ ρ => w ρ fun d _ ρ1 => isTx d = tx ∧ (atV d).isSome = true ∧ x d ρ1
theorem sndQ_raise {tx : Bool} {C : Addr} {f : Str} {W : L2.WX} {te : TE} {w : WE} (h : SndE K te w) : SndQ K C f W (tRaiseO tx C f W te) (wRaise tx w) := fun b P E G ρ σ H x e o s hq => by
  refine h b G ρ σ H _ (fun v H1 => [v].length ≤ 1000 ∧ ∀ a, H1 a = none → spInit tx C f (.ref a :: ([v] ++ [])) (upd H1 a (exo a C none)) (fun v2 H2 => v2 = .non ∧ ∃ (d : Addr) (fs : List (Str × V)), H2 a = some (exo a C (some d)) ∧ H2 d = some (exd d fs) ∧ H1 d = none ∧ W (.ref C) (some d) σ (upd (L2.del H2 a) d (.xd fs))) (fun _ _ _ => False)) s hq fun d k ρ' v G' H' ⟨q0, q1, q2⟩ x1 s' r => ⟨by simp, fun a ha => ?_⟩
  obtain ⟨v', hv⟩ := Option.isSome_iff_exists.mp q1
  obtain rfl := ov_atV hv (r.ov s')
  refine ⟨a, v, rfl, q0 ▸ atV_ok hv, upd_same, fun d2 hd2 hda => ⟨rfl, d2, [(f, v)], upd_same, ?_, ?_, ?_⟩⟩
  · rw [upd_ne hda, upd_same]
  · rw [upd_ne hda] at hd2; exact hd2
  · have hd3 : H' d2 = none := by rw [upd_ne hda] at hd2; exact hd2
    have e1 : upd (L2.del (upd (upd (upd H' a (exo a C none)) d2 (exd d2 [(f, v)])) a (exo a C (some d2))) a) d2 (.xd [(f, v)]) = upd H' d2 (.xd [(f, v)]) := by
      funext c
      by_cases c1 : c = d2
      · subst c1; rw [upd_same, upd_same]
      · rw [upd_ne c1, upd_ne c1]
        by_cases c2 : c = a
        · subst c2; rw [L2.del_same, ha]
        · rw [L2.del_ne c2, upd_ne c2, upd_ne c1, upd_ne c2]
    rw [e1]
    exact o d v ρ' σ G' _ d2 q2 hv (s'.laid hd3) upd_same
section
variable {X : Cx} {e : Expr} {es : List Expr} {te : TE} {ta : TA} {p1 p2 pos : Pos}
/-- B.__init__(self, ..), B an own class that has ValueError's -/
theorem pe_clsinit {pl : Sem Bool} {B : Addr} {y : Str} (hg : Gl X y) (hm : X.mg y = some (.ref B)) (tyB : PySem.W.typeIn X.K (.ref B) = some (.type "type")) (rd : PySem.W.readsIn X.K B (.type "type") = true)
    (gaB : PySem.W.specialIn X.K (.ref B) "__getattribute__" = some (some (.builtin "type.__getattribute__"))) (vV : PySem.W.findCls X.K (.ref B) (.type "type") "__init__" = some (.val (.builtin "ValueError.__init__"))) (ha : PA X (e :: es) ta)
    (hdb : (y == ("__debug__" : Str)) = false := by decide)
    (hc : eval (.Call (.Attribute (.Name y p1) "__init__" p2) (e :: es) [] pos) X.env = (do
      let ov ← eval (.Name y p1) X.env
      standAt p2.atName
      let (f, first) ← holding [ov] (getMethod ov "__init__" pl)
      callWith pos f first (backTo pos (starEach (e :: es) X.env)) (backToKw pos (keywordEach [] X.env))) := by rfl)
    (he : starEach (e :: es) X.env = (false, eval e X.env) :: starEach es X.env := by rfl) (hpl : (backTo pos (starEach es X.env)).any (·.1) = false := by rfl) :
    PE X (.Call (.Attribute (.Name y p1) "__init__" p2) (e :: es) [] pos) (tVeI X.K ta) := by
  refine ⟨fun pins s σ H Q I h => ?_⟩
  refine PySem.W.methodCall_KW (ld_glob I hg hm ?_ hdb) hc
  obtain ⟨m, fr⟩ := I.fr
  refine PySem.W.method_of_cls fr I.ok.mod.kin gaB ?_
  refine PySem.W.cls_val fr I.ok.mod.kin tyB rd vV (by decide +kernel) ?_
  show wpAny _ _ (callWith pos (Value.builtin "ValueError.__init__") [] (backTo pos (starEach (e :: es) X.env)) []) _ _ _
  refine PyProof.Rows.callWith_method1 (thn (ha.run pos pins _ σ H _ (I.tok _) h) fun us s1 ⟨vs, H1, I1, r1, a, C, ws, ev, hl, T, ea, q⟩ => ?_) he hpl
  subst ev
  cases r1 with
  | @cons _ u0 _ ur ra rw' =>
    obtain rfl : u0 = Value.ref a := ra
    have hlen : ur.length ≤ sizeLine := by
      rw [← Paired.length rw', sizeLine_eq]
      omega
    exact oinit_ok T I1 ea hlen fun s' J => ⟨.non, H1, J, rfl, q⟩
end
end VL

/-! VX1: rules for statements that may raise; an own class's error; try .. except. -/
namespace VL
open PySem PySem.Spec PyProof.Rows L2
open Evl (Ex)
structure SEQ (X : Cx) (C : Addr) (f : Str) (W : L2.WX) (e : Expr) (te : TE) (t : WRE) : Prop where
  pe : PE X e te
  snd : SndEQ X.K C f W te t
structure SSQ (X : Cx) (C : Addr) (f : Str) (W : L2.WX) (st : Stmt) (ts : TS) (t : WRS) : Prop where
  ps : PS X st ts
  snd : SndQ X.K C f W ts t
structure SBQ (X : Cx) (C : Addr) (f : Str) (W : L2.WX) (st : List Stmt) (ts : TS) (t : WRS) : Prop where
  ps : PSs X st ts
  snd : SndQ X.K C f W ts t
/-- what the written part says of an own class, at C, that keeps one field f -/
structure OwnE (K : PySem.W.Frag) (mg : Str → Option Value) (n f : Str) (C fI : Addr) : Prop where
  T : OexC K C
  E : ExcC K C
  gC : mg n = some (.ref C)
  no : PySem.W.findIn K (.ref C) f = some none
  ex : PySem.W.exmOne K (.ref C) (.ref C) = some true
  iC : PySem.W.findIn K (.ref C) "__init__" = some (some (.ref fI))
  tI : PySem.W.typeIn K (.ref fI) = some (.type "function")
section
variable {X : Cx} {C fI : Addr} {n f : Str} {W : L2.WX} {e c : Expr} {es : List Expr} {te : TE} {t : WE} {w : WRE} {st : Stmt} {sts ls rs : List Stmt} {ts us : TS} {r s : WRS} {u : WS} {tt : TT} {p : WT} {pos pp p1 p2 p3 : Pos}
theorem q_of (h : SS X st ts u) : SSQ X C f W st ts (fun _ => u) := ⟨h.ps, sndQ_of h.snd⟩
theorem qb_of (h : SB X sts ts u) : SBQ X C f W sts ts (fun _ => u) := ⟨h.ps, sndQ_of h.snd⟩
theorem qb_one (h : SSQ X C f W st ts r) : SBQ X C f W [st] ts r := ⟨pss_one h.ps, h.snd⟩
theorem qb_cons (h : SSQ X C f W st ts r) (k : SBQ X C f W sts us s) : SBQ X C f W (st :: sts) (tSeq ts us) (fun x => wSeq (r x) (s x)) := ⟨pss_cons h.ps k.ps, sndQ_seq h.snd k.snd⟩
theorem q_if (hc : ST X c tt p) (ha : SBQ X C f W ls ts r) (hb : SBQ X C f W rs us s) : SSQ X C f W (.If c ls rs pos) (tIfS tt ts us) (fun x => wIf p (r x) (s x)) := ⟨ps_if hc.pt ha.ps hb.ps, sndQ_if hc.snd ha.snd hb.snd⟩
theorem q_ret (h : SEQ X C f W e te w) : SSQ X C f W (.Return (some e) pos) (tRet te) (fun x => wRet (w x)) := ⟨ps_ret h.pe, sndQ_ret h.snd⟩
theorem q_asg (i : Nat) {x : Str} {pos' : Pos} (hN : X.N.Nodup) (he : SEQ X C f W e te w) (hi : X.N[i]? = some x := by rfl) (hx : Loc X.env.scope x := by first | exact Or.inl rfl | exact Or.inr rfl) (hs : swapsWith e (some (.Name x pos')) pos.line X.env = pure false := by rfl)
    (hf : X.fn x = true ∨ X.env.scope.names.lookup x = some .local := by first | exact .inl rfl | exact .inr rfl) : SSQ X C f W (.Assign [.Name x pos'] e pos) (tAsg te (gName i)) (fun z => wAsg i (w z)) := ⟨ps_set hN hi hx he.pe hs hf, sndQ_asg he.snd⟩
/-- a def that may raise -/
abbrev OkX (P : Program) (w : World) (base : Heap) {K : PySem.W.Frag} {mg : Str → Option Value} {x : Str} {ps : List Str} {st : Stmt} (D : Df K mg x ps st) (k : Nat) (C : Addr) (f : Str) (sp : FSX) : Prop := FnOk P w K mg base (L2.CX P w) k D.f D.fd ps (toSpX K C f sp)
theorem e_callX {x : Str} {ps : List Str} {st : Stmt} {k : Nat} {sp : FSX} {xa : TA} {y : WX} {D : Df X.K X.mg x ps st} (F : OkX X.prog X.w X.base D k C f sp) (hr : Room k X.A) (tk : Takes X W) (ha : SX X (e :: es) xa y) (hg : Gl X x := by rfl) (hdb : (x == ("__debug__" : Str)) = false := by decide)
    (he : starEach (e :: es) X.env = (false, eval e X.env) :: starEach es X.env := by rfl) (hpl : (backTo pos (starEach es X.env)).any (·.1) = false := by rfl) : SEQ X C f W (.Call (.Name x pp) (e :: es) [] pos) (tCallS (toSpX X.K C f sp) (L2.WE W) xa) (wCallX sp y) :=
  ⟨pe_callS F hr hg D.g D.F.kp D.b (fun σ => passAt tk σ) ha.pa hdb he hpl, snd_callX ha.snd⟩
/-- raise N(e) -/
theorem q_raise {tx : Bool} {k : Nat} {fd : FuncData} {ps : List Str} (hc : X.calm = true) (tk : Takes X W) (O : OwnE X.K X.mg n f C fI) (FI : FnOk X.prog X.w X.K X.mg X.base CX0 k fI fd ps (spInit tx C f)) (hb : Binds X.K fd ps []) (hr : Room (k + 1) X.A) (he : SE X e te t) (hg : Gl X n := by rfl)
    (hdb : (n == ("__debug__" : Str)) = false := by decide) (hse : starEach (e :: []) X.env = (false, eval e X.env) :: starEach [] X.env := by rfl) (hpl : (backTo pos (starEach [] X.env)).any (·.1) = false := by rfl) :
    SSQ X C f W (.Raise (some (.Call (.Name n pp) [e] [] pos)) none p2) (tRaiseO tx C f W te) (wRaise tx t) :=
  ⟨ps_raise hc tk (pmk_oex O.T O.iC O.tI FI hr hb .nil pass0 hg O.gC (pa_cons he.pe pa_nil hse) hdb hse hpl), sndQ_raise he.snd⟩
/-! ### try -/
/-- n.f, n the error that the suite holds -/
def tByF (C : Addr) (f : Str) (a : Addr) (cls : Value) (d : Option Addr) (te : TE) : TE := fun σ H Q => te σ H fun x H1 => x = .ref a ∧ cls = .ref C ∧ ∃ (dd : Addr) (v : V), d = some dd ∧ H1 dd = some (.xd [(f, v)]) ∧ Q v H1
theorem pe_byF {a : Addr} {oe : Obj} {cls : Value} {d : Option Addr} {pn : List (Addr × Obj)} (O : OwnE X.K X.mg n f C fI) (hz : Zc cls d oe) (hf : ∃ vs, oe.data = .fields vs) (he : PE (X.suite a ((a, oe) :: pn)) e te)
    (hb : attributeBase e f X.env (eval e X.env) = eval e X.env := by rfl) :
    PE (X.suite a ((a, oe) :: pn)) (.Attribute e f pos) (tByF C f a cls d te) := by
  refine ⟨fun pins s σ H Q I h => ?_⟩
  refine attr_of hb (thn (he.run pins s σ H _ I h) fun u s1 hh => ?_)
  obtain ⟨x, H1, I1, rx, ex, ec, dd, v, ed, ea, q⟩ := hh
  subst ex
  obtain rfl : u = Value.ref a := rx
  subst ec
  subst ed
  obtain ⟨ha, _⟩ := I1.pin (a, oe) (List.mem_append_left _ List.mem_cons_self)
  obtain ⟨vs, hd⟩ := hf
  have hx : ObjOk X.prog X.w H1 s1.heap dd (.xd [(f, v)]) := I1.hok dd _ ea
  obtain ⟨mA, hns, hr⟩ := hx
  obtain ⟨od, ho, hl⟩ := lookIn_ns hns
  have l : List.lookup f [(f, v)] = some v := by simp [List.lookup]
  obtain ⟨u, hu, ru⟩ := RelO.some_of (v := v) (o := mA f) (by rw [← l]; exact hr f)
  have J : PySem.W.InstAt s1.heap a oe C (some od) := ⟨ha, hz.1, by unfold PySem.W.notCls; rw [hd] <;> rfl, by rw [hz.2]; exact ho⟩
  exact HandSPX.exc_get I1.kIn J O.E.hg O.E.hk O.E.hs (PySem.W.findObj_own O.E.hd O.no rfl (by rw [hl, hu])) (handed_of ru) ⟨v, H1, I1.tok _, ru, q⟩
/-- isinstance(n, c) -/
def rIsD (K : PySem.W.Frag) (C a : Addr) (cls : Value) (d : Option Addr) : List V → Hp → VK → Prop := fun xs H Q => ∃ (cv : Value) (c : V) (b : Bool) (dd : Addr) (fs : List (Str × V)), cls = .ref C ∧ xs = [.ref a, c] ∧ ClsV c cv ∧ PySem.W.kitOne K (.ref C) cv = some b ∧ d = some dd ∧ H dd = some (.xd fs) ∧ Q (.bl b) H
theorem call_isD {a : Addr} {oe : Obj} {cls : Value} {pn : List (Addr × Obj)} {d : Option Addr} (E : ExcC X.K C) (hz : Zc cls d oe) (hf : ∃ vs, oe.data = .fields vs) : CallR (X.suite a ((a, oe) :: pn)) (.builtin "isinstance") (rIsD X.K C a cls d) := by
  intro pins s σ H xs us Q I r h
  obtain ⟨cv, c, b, dd, fs, ecl, rfl, hcv, e, ed, hd, q⟩ := h
  subst ecl
  cases r with
  | cons rx rr =>
    cases rr with
    | cons rt rr =>
      cases rr
      cases rx
      have ec := hcv.eq rt
      subst ec
      subst ed
      obtain ⟨hget, _⟩ := I.pin (a, oe) (List.mem_append.mpr (.inl List.mem_cons_self))
      obtain ⟨vs, hv⟩ := hf
      have hx : ObjOk X.prog X.w H s.heap dd (.xd fs) := I.hok dd _ hd
      obtain ⟨mA, hns, _⟩ := hx
      obtain ⟨od, ho, _⟩ := lookIn_ns hns
      have J : PySem.W.InstAt s.heap a oe C (some od) := ⟨hget, hz.1, by unfold PySem.W.notCls; rw [hv] <;> rfl, by rw [hz.2]; exact ho⟩
      have hcl : (PySem.W.clsIn X.K C).isSome = true := by obtain ⟨cd, hc, _⟩ := PySem.W.any_some E.hd; rw [hc]; rfl
      exact PySem.W.kia_one (PySem.W.kitx_exc hcl E.hg E.hk E.hs E.ha E.hn E.ht E.hm) I.kIn J e (fun z => nomatch z) fun tk => ⟨.bl b, H, I.kept (t' := tk) fun _ _ z => z, rfl, q⟩
end
end VL

/-! VX2: three shapes of try .. except. -/
namespace VL
open PySem PySem.Spec PyProof.Rows L2
open Evl (Ex)
variable {K : PySem.W.Frag}
/-- a slot that nothing is told of -/
theorem Sim.setU {b : Bs} {G H : Hp} {ρ : Rho} {σ : L2.St} (s : Sim K b G ρ σ H) (i : Nat) (x : Option V) : Sim K b G (ρ.set i .un) (σ.set i x) H := by
  have key : ∀ (j : Nat) (y : Slot), (ρ.set i .un)[j]? = some y → y ≠ .un → (j ≠ i ∧ ρ[j]? = some y) := fun j y e' ne => by
    by_cases hj : j = i
    · subst hj
      by_cases hl : j < ρ.length
      · rw [List.getElem?_set_self hl] at e'; cases e'; exact absurd rfl ne
      · rw [List.getElem?_eq_none (by simpa using hl)] at e'; cases e'
    · rw [List.getElem?_set_ne (Ne.symm hj)] at e'; exact ⟨hj, e'⟩
  refine ⟨by simp [s.len], s.sub, s.g0, s.b0, s.new, fun j y e' => ?_, fun j y e' => ?_, fun j k y z v' hne e1 e2 e3 e4 => ?_, fun j e' => ?_, s.wk⟩
  · obtain ⟨hj, h⟩ := key j _ e' (by simp)
    rw [List.getElem?_set_ne (Ne.symm hj)]; exact s.fz j y h
  · obtain ⟨hj, h⟩ := key j _ e' (by simp)
    rw [List.getElem?_set_ne (Ne.symm hj)]; exact s.ow j y h
  · obtain ⟨hj, h⟩ := key j _ e1 (by simp)
    obtain ⟨hk, h'⟩ := key k _ e2 (by simp)
    rw [List.getElem?_set_ne (Ne.symm hj)] at e3
    rw [List.getElem?_set_ne (Ne.symm hk)] at e4
    exact s.dj j k y z v' hne h h' e3 e4
  · obtain ⟨hj, h⟩ := key j _ e' (by simp)
    rw [List.getElem?_set_ne (Ne.symm hj)]; exact s.ws j h
/-- a new tuple, frozen -/
theorem Sim.tup {b : Bs} {G H : Hp} {ρ : Rho} {σ : L2.St} (s : Sim K b G ρ σ H) {p : Addr} {vs : List V} {ds : List D} (h : H p = none) (r : RpL K G vs ds) : Sim K b (upd G p (.tup vs)) ρ σ (upd H p (.tup vs)) ∧ Rp K (upd G p (.tup vs)) (.ref p) (.tup ds) :=
  ⟨s.laidF h, .tup upd_same (r.mono (ex_upd (s.fresh h)))⟩
/-- try: return f(..) / except N as n: return (n.f, isinstance(n, Y)) -/
def tSuA (K : PySem.W.Frag) (C : Addr) (f : Str) (i : Nat) (B : Addr) : Addr → Value → Option Addr → TS := fun a cls d => tRet (tTup (tCons (tByF C f a cls d (tVar i)) (tCons (tCB (rIsD K C a cls d) (tCons (tVar i) (tCons (tC (.ref B)) tNil))) tNil)))
def wTryA (i : Nat) (w : WRE) : WS := fun P ρ => w (fun a ρ1 => i < ρ1.length ∧ P.rt (.tup [a, .bl true]) .fz) ρ fun d k _ => P.rt d k.ret
def noW : L2.WX := fun _ _ _ _ => False
theorem set_at {σ : L2.St} {i : Nat} {x : Option V} (h : i < σ.length) : (σ.set i x)[i]? = some x := by rw [List.getElem?_set_self h]
section
variable {X : Cx} {C fI B : Addr} {n f nn Y : Str} {i j : Nat} {e : Expr} {te : L2.WX → TE} {w : WRE} {pos ph p0 p1 p2 p3 p4 p5 p6 p7 p8 p9 p10 p11 : Pos} {k1 k2 : Nat}
theorem s_tryA (hs : X.stack = X.env :: X.outer) (hf : X.env.frame = some X.env.locals) (O : OwnE X.K X.mg n f C fI) (hN : X.N.Nodup) (gB : X.mg Y = some (.ref B)) (isB : PySem.W.kitOne X.K (.ref C) (.ref B) = some true) (mis : X.mg "isinstance" = none)
    (hb : ∀ (W : L2.WX) (pn : List (Addr × Obj)) (xe : Value → Shared → Prop), Takes (X.tr pn xe) W → PE (X.tr pn xe) e (te W)) (hsn : ∀ W : L2.WX, SndEQ X.K C f W (te W) w)
    (hi : X.N[i]? = some nn := by rfl) (hln : X.env.kindOf nn = some .local := by rfl) (hg : Gl X n := by rfl) (hdb : (n == ("__debug__" : Str)) = false := by decide) (hgi : Gl X "isinstance" := by rfl) (hgY : Gl X Y := by rfl) (hdY : (Y == ("__debug__" : Str)) = false := by decide)
    (hv : Vis X.env.scope nn := by first | exact Or.inl rfl | exact Or.inr (Or.inl rfl) | exact Or.inr (Or.inr rfl)) (hd : (nn == ("__debug__" : Str)) = false := by decide) (hcd : (nn == ("__classdict__" : Str)) = false := by decide)
    (hab : attributeBase (.Name nn p3) f X.env (eval (.Name nn p3) X.env) = eval (.Name nn p3) X.env := by rfl)
    (h1 : starEach [.Attribute (.Name nn p3) f p4, .Call (.Name "isinstance" p5) [.Name nn p6, .Name Y p7] [] p8] X.env = (false, eval (.Attribute (.Name nn p3) f p4) X.env) :: starEach [.Call (.Name "isinstance" p5) [.Name nn p6, .Name Y p7] [] p8] X.env := by rfl)
    (h2 : starEach [.Call (.Name "isinstance" p5) [.Name nn p6, .Name Y p7] [] p8] X.env = (false, eval (.Call (.Name "isinstance" p5) [.Name nn p6, .Name Y p7] [] p8) X.env) :: starEach [] X.env := by rfl)
    (h3 : starEach [.Name nn p6, .Name Y p7] X.env = (false, eval (.Name nn p6) X.env) :: starEach [.Name Y p7] X.env := by rfl) (h4 : starEach [.Name Y p7] X.env = (false, eval (.Name Y p7) X.env) :: starEach [] X.env := by rfl)
    (h5 : (backTo p8 (starEach [.Name Y p7] X.env)).any (·.1) = false := by rfl) :
    SS X (.Try [.Return (some e) p1] [.ExceptHandler (some (.Name n p2)) (some nn) [.Return (some (.Tuple [.Attribute (.Name nn p3) f p4, .Call (.Name "isinstance" p5) [.Name nn p6, .Name Y p7] [] p8] k1 p9)) p0] ph] [] [] pos)
      (fun D σ H => tRet (te (wAs X.K (.ref C) i (tSuA X.K C f i B) noW D)) D σ H) (wTryA i w) := by
  refine ⟨?_, ?_⟩
  · refine ps_try_as (i := i) (tb := fun W => tRet (te W)) hs hf hN hi hln ⟨hg, hdb, .inl O.gC⟩ takes0 (fun W pn xe tk _ => pss_one (ps_ret (hb W pn xe tk))) (fun a oe cls d pn hz hf' => pss_one (ps_ret (pe_tup (pa_cons (pe_byF O hz hf' (pe_var (X := X.suite a ((a, oe) :: pn)) hi hv hd hcd) hab) (pa_cons ?_ pa_nil h2) h1))))
    exact pe_callB (X := X.suite a ((a, oe) :: pn)) (call_isD O.E hz hf') hgi mis (by decide +kernel) (pa_cons (pe_var hi hv hd hcd) (pa_cons (pe_glob hgY gB rfl hdY) pa_nil h4) h3) (by decide) (by decide) h3 h5
  · intro b P E G ρ σ H e s hq
    refine hsn (wAs X.K (.ref C) i (tSuA X.K C f i B) noW E) b G ρ σ H _ _ _ (fun a v ρ1 σ1 G1 H1 d hx av s1 ed => ?_) s hq fun d k ρ' v G' H' q x s' r => e.rt d _ v ρ' σ G' H' q s' (r.rr s s')
    obtain ⟨hl, xa⟩ := hx
    have hl' : i < σ1.length := by rw [← s1.len]; exact hl
    refine ⟨true, O.ex, fun _ ax hax => ?_, fun q => nomatch q⟩
    refine ⟨.ref ax, set_at hl', rfl, rfl, d, v, rfl, ed, .ref ax, set_at hl', .ref B, .ref B, true, d, [(f, v)], rfl, rfl, .own B, isB, rfl, ed, by show 2 ≤ sizeLine; rw [sizeLine_eq]; omega, fun p hp => ?_⟩
    obtain ⟨s2, r2⟩ := s1.tup hp (.cons (atV_rp av) (.cons (.bl true) .nil))
    exact e.rt _ .fz _ ρ1 σ1 _ _ xa s2 r2
/-- try: return f(..) / except N: return None -/
def wTryN (w : WRE) : WS := fun P ρ => w (fun _ _ => P.rt .non .fz) ρ fun d k _ => P.rt d k.ret
theorem s_tryN (hs : X.stack = X.env :: X.outer) (hf : X.env.frame = some X.env.locals) (O : OwnE X.K X.mg n f C fI)
    (hb : ∀ (W : L2.WX) (pn : List (Addr × Obj)) (xe : Value → Shared → Prop), Takes (X.tr pn xe) W → PE (X.tr pn xe) e (te W)) (hsn : ∀ W : L2.WX, SndEQ X.K C f W (te W) w)
    (hg : Gl X n := by rfl) (hdb : (n == ("__debug__" : Str)) = false := by decide) :
    SS X (.Try [.Return (some e) p1] [.ExceptHandler (some (.Name n p2)) none [.Return (some (.Constant .none k1 p3)) p0] ph] [] [] pos)
      (fun D σ H => tRet (te (wOnly X.K (.ref C) (fun _ _ _ => tRet (tC .non)) noW D)) D σ H) (wTryN w) := by
  refine ⟨?_, ?_⟩
  · exact ps_try_only (tb := fun W => tRet (te W)) hs hf ⟨hg, hdb, .inl O.gC⟩ takes0 (fun W pn xe tk _ => pss_one (ps_ret (hb W pn xe tk))) (fun a oe cls d pn hz hf' => pss_one (ps_ret pe_non))
  · intro b P E G ρ σ H e s hq
    refine hsn (wOnly X.K (.ref C) (fun _ _ _ => tRet (tC .non)) noW E) b G ρ σ H _ _ _ (fun a v ρ1 σ1 G1 H1 d hx av s1 ed => ?_) s hq fun d k ρ' v G' H' q x s' r => e.rt d _ v ρ' σ G' H' q s' (r.rr s s')
    exact ⟨true, O.ex, fun _ ax hax => e.rt .non .fz .non ρ1 σ1 G1 H1 hx s1 .non, fun q => nomatch q⟩
/-- try: t = (True, f(..)) / except N as n: t = (False, n.f) -/
def tSuT (C : Addr) (f : Str) (i j : Nat) : Addr → Value → Option Addr → TS := fun a cls d => tAsg (tTup (tCons (tC (.bl false)) (tCons (tByF C f a cls d (tVar i)) tNil))) (gName j)
def wTryT (i j : Nat) (w : WRE) : WS := fun P ρ => w (fun a ρ1 => i < ρ1.length ∧ P.nx ((((ρ1.set i .un).set j (.fz (.tup [.bl false, a]))).set i .un))) ρ (toF fun d ρ1 => P.nx (ρ1.set j (.fz (.tup [.bl true, d]))))
theorem s_tryT {tn : Str} (hs : X.stack = X.env :: X.outer) (hf : X.env.frame = some X.env.locals) (O : OwnE X.K X.mg n f C fI) (hN : X.N.Nodup)
    (hb : ∀ (W : L2.WX) (pn : List (Addr × Obj)) (xe : Value → Shared → Prop), Takes (X.tr pn xe) W → PE (X.tr pn xe) e (te W)) (hsn : ∀ W : L2.WX, SndEQ X.K C f W (te W) w)
    (hi : X.N[i]? = some nn := by rfl) (hj : X.N[j]? = some tn := by rfl) (hij : i ≠ j := by decide) (hln : X.env.kindOf nn = some .local := by rfl) (hg : Gl X n := by rfl) (hdb : (n == ("__debug__" : Str)) = false := by decide)
    (hv : Vis X.env.scope nn := by first | exact Or.inl rfl | exact Or.inr (Or.inl rfl) | exact Or.inr (Or.inr rfl)) (hd : (nn == ("__debug__" : Str)) = false := by decide) (hcd : (nn == ("__classdict__" : Str)) = false := by decide)
    (hab : attributeBase (.Name nn p3) f X.env (eval (.Name nn p3) X.env) = eval (.Name nn p3) X.env := by rfl)
    (hx : Loc X.env.scope tn := by first | exact Or.inl rfl | exact Or.inr rfl) (hfn : X.fn tn = true ∨ X.env.scope.names.lookup tn = some .local := by first | exact .inl rfl | exact .inr rfl)
    (hs1 : swapsWith (.Tuple [.Constant (.bool true) k2 p5, e] k1 p6) (some (.Name tn p1)) p7.line X.env = pure false := by rfl)
    (hs2 : swapsWith (.Tuple [.Constant (.bool false) k2 p8, .Attribute (.Name nn p3) f p4] k1 p9) (some (.Name tn p10)) p11.line X.env = pure false := by rfl)
    (h1 : starEach [.Constant (.bool true) k2 p5, e] X.env = (false, eval (.Constant (.bool true) k2 p5) X.env) :: starEach [e] X.env := by rfl) (h2 : starEach [e] X.env = (false, eval e X.env) :: starEach [] X.env := by rfl)
    (h3 : starEach [.Constant (.bool false) k2 p8, .Attribute (.Name nn p3) f p4] X.env = (false, eval (.Constant (.bool false) k2 p8) X.env) :: starEach [.Attribute (.Name nn p3) f p4] X.env := by rfl)
    (h4 : starEach [.Attribute (.Name nn p3) f p4] X.env = (false, eval (.Attribute (.Name nn p3) f p4) X.env) :: starEach [] X.env := by rfl) :
    SS X (.Try [.Assign [.Name tn p1] (.Tuple [.Constant (.bool true) k2 p5, e] k1 p6) p7] [.ExceptHandler (some (.Name n p2)) (some nn) [.Assign [.Name tn p10] (.Tuple [.Constant (.bool false) k2 p8, .Attribute (.Name nn p3) f p4] k1 p9) p11] ph] [] [] pos)
      (fun D σ H => tAsg (tTup (tCons (tC (.bl true)) (tCons (te (wAs X.K (.ref C) i (tSuT C f i j) noW D)) tNil))) (gName j) D σ H) (wTryT i j w) := by
  refine ⟨?_, ?_⟩
  · exact ps_try_as (i := i) (tb := fun W => tAsg (tTup (tCons (tC (.bl true)) (tCons (te W) tNil))) (gName j)) hs hf hN hi hln ⟨hg, hdb, .inl O.gC⟩ takes0 (fun W pn xe tk _ => pss_one (ps_set (X := X.tr pn xe) hN hj hx (pe_tup (pa_cons pe_bl (pa_cons (hb W pn xe tk) pa_nil h2) h1)) hs1 hfn))
      (fun a oe cls d pn hz hf' => pss_one (ps_set (X := X.suite a ((a, oe) :: pn)) hN hj hx (pe_tup (pa_cons pe_bl (pa_cons (pe_byF O hz hf' (pe_var (X := X.suite a ((a, oe) :: pn)) hi hv hd hcd) hab) pa_nil h4) h3)) hs2 hfn))
  · intro b P E G ρ σ H e s hq
    refine hsn (wAs X.K (.ref C) i (tSuT C f i j) noW E) b G ρ σ H _ _ _ (fun a v ρ1 σ1 G1 H1 d hx' av s1 ed => ?_) s hq fun d k ρ' v G' H' q x s' r => ?_
    · obtain ⟨hl, xa⟩ := hx'
      have hl' : i < σ1.length := by rw [← s1.len]; exact hl
      refine ⟨true, O.ex, fun _ ax hax => ?_, fun q => nomatch q⟩
      refine ⟨.ref ax, set_at hl', rfl, rfl, d, v, rfl, ed, by show 2 ≤ sizeLine; rw [sizeLine_eq]; omega, fun p hp => ?_⟩
      obtain ⟨s2, r2⟩ := (s1.setU i (some (.ref ax))).tup hp (.cons (.bl false) (.cons (atV_rp av) .nil))
      exact e.nx _ _ _ _ xa ((s2.setF j r2).setU i none)
    · refine frozen (R := fun v H' => [V.bl true, v].length ≤ sizeLine ∧ ∀ p, H' p = none → gName j (.ref p) σ (upd H' p (.tup [V.bl true, v])) E.nx) q x s s' r fun d ρ1 v G1 q1 x1 s1 r1 => ⟨by show 2 ≤ sizeLine; rw [sizeLine_eq]; omega, fun p hp => ?_⟩
      obtain ⟨s2, r2⟩ := s1.tup hp (.cons (.bl true) (.cons r1 .nil))
      exact e.nx _ _ _ _ q1 (s2.setF j r2)
end
end VL

/-! VX3: loops that may raise, calls in a try, what the text says of an error's class. -/
namespace VL
open PySem PySem.Spec PyProof.Rows L2
open Evl (Ex)
variable {K : PySem.W.Frag}
theorem sndQ_for {C : Addr} {f : Str} {W : L2.WX} {wi : TI} {t : WI} {tg : TG} {g : WG} {ts : TS} {r : WRS} (hi : SndIF K wi t) (hg : SndG K tg g) (hb : SndQ K C f W ts r) : SndQ K C f W (tFor wi tg ts) (fun x => wFor t g (r x)) := fun b P E G ρ σ H x0 e o0 s hq => by
  refine hi b G ρ σ H _ _ s hq fun xs ρ1 J G1 H1 q1 x1 s1 wk => ?_
  refine ⟨fun i m σ H => m = xs.length - i ∧ i ≤ xs.length ∧ ∃ G2 ρ2, Sim K b G2 ρ2 σ H ∧ Ex G1 G2 ∧ wLoop g (r x0) P (xs.drop i) ρ2, ⟨_, rfl, Nat.zero_le _, G1, ρ1, s1, Ex.refl _, q1⟩, ?_⟩
  rintro i m σ2 H2 ⟨rfl, hi2, G2, ρ2, s2, g2, q2⟩
  obtain ⟨w1, w2⟩ := wk G2 H2 i g2 (g2.trans s2.le) s2.le
  by_cases hlt : i < xs.length
  · obtain ⟨go, yl⟩ := w1 xs[i] (List.getElem?_eq_getElem hlt)
    rw [List.drop_eq_getElem_cons hlt] at q2
    refine .inr ⟨go, fun σ' H' => ∃ G' ρ', Sim K b G' ρ' σ' H' ∧ Ex G1 G' ∧ wLoop g (r x0) P (xs.drop (i + 1)) ρ', fun σ' H' ⟨G', ρ', a1, a2, a3⟩ => ⟨xs.length - (i + 1), by omega, rfl, hlt, G', ρ', a1, a2, a3⟩, fun x H' y => ?_⟩
    refine yl_go s2 (yl x H' y) fun G3 g3 x3 s3 r3 => ?_
    refine hg b G3 ρ2 σ2 H' x _ _ _ s3 r3 q2 fun ρ4 σ4 q4 p4 => ?_
    -- the body, from G3 on: what it leaves frozen stays
    have b' : Sim K ⟨b.aw, G3, b.B0⟩ G3 ρ4 σ4 H' := ⟨p4.1.len, p4.1.sub, Ex.refl _, p4.1.b0, fun a o e1 e2 => e2, p4.1.fz, p4.1.ow, p4.1.dj, p4.1.ws, p4.1.wk⟩
    have back : ∀ {ρ σ G H}, Sim K ⟨b.aw, G3, b.B0⟩ G ρ σ H → Sim K b G ρ σ H ∧ Ex G1 G := fun {ρ σ G H} z =>
      ⟨⟨z.len, z.sub, s3.g0.trans z.g0, z.b0, fun a o e1 e2 => z.new a o e1 (s3.new a o e1 e2), z.fz, z.ow, z.dj, z.ws, z.wk⟩, (g2.trans g3).trans z.g0⟩
    refine hb ⟨b.aw, G3, b.B0⟩ _ _ G3 ρ4 σ4 H' x0 ⟨fun ρ σ G H q z => ?_, fun d k v ρ σ G H q z r => ?_, fun ρ σ G H q z => ?_, fun ρ σ G H q z => ?_⟩ (fun a v ρ σ G H d q av z ed => o0 a v ρ σ G H d q av (back z).1 ed) b' q4
    · exact ⟨G, ρ, (back z).1, (back z).2, q⟩
    · exact e.rt d k v ρ σ G H q (back z).1 (by cases k <;> exact r)
    · exact e.nx ρ σ G H q (back z).1
    · exact ⟨G, ρ, (back z).1, (back z).2, q⟩
  · have ei : i = xs.length := by omega
    subst ei
    rw [List.drop_length] at q2
    exact .inl ⟨w2 (Nat.le_refl _), e.nx ρ2 σ2 G2 H2 q2 s2⟩
section
variable {X : Cx} {C fI B : Addr} {n f nn Y : Str} {i j : Nat} {W : L2.WX} {tg iter e : Expr} {es : List Expr} {sts : List Stmt} {wi : TI} {wj : WI} {tgt : TG} {g : WG} {ts : TS} {r : WRS} {sp : FSX} {xa : TA} {y : VL.WX} {k : Nat} {x : Str} {ps : List Str} {st : Stmt} {pos ph p0 p1 p2 p3 p4 p5 p6 p7 p8 p9 p10 p11 pp pc : Pos} {k1 k2 : Nat}
theorem q_for (hi : SIF X tg iter wi wj) (hg : SG X tg tgt g) (hb : SBQ X C f W sts ts r) (hp : PassesOwn (model X.prog X.w) X.A X.env X.xe := by exact passes_of rfl) (hc : X.calm = true := by rfl) (hs : ∀ x, foldedSetIterable iter X.env x = pure x := by intro _; rfl) :
    SSQ X C f W (.For tg iter sts [] pos) (tFor wi tgt ts) (fun z => wFor wj g (r z)) := ⟨ps_for hp hc hi.pi hg.pg hb.ps hs, sndQ_for hi.snd hg.snd hb.snd⟩
theorem s_tryAc {D : Df X.K X.mg x ps st} (F : OkX X.prog X.w X.base D k C f sp) (hr : Room k X.A) (ha : ∀ (pn : List (Addr × Obj)) (xe : Value → Shared → Prop), SX (X.tr pn xe) (e :: es) xa y) (i : Nat) (O : OwnE X.K X.mg n f C fI) (hN : X.N.Nodup) (gB : X.mg Y = some (.ref B)) (isB : PySem.W.kitOne X.K (.ref C) (.ref B) = some true) (mis : X.mg "isinstance" = none)
    (hs : X.stack = X.env :: X.outer := by rfl) (hf : X.env.frame = some X.env.locals := by rfl)
    (hgx : Gl X x := by rfl) (hdx : (x == ("__debug__" : Str)) = false := by decide) (hse : starEach (e :: es) X.env = (false, eval e X.env) :: starEach es X.env := by rfl) (hpl : (backTo pc (starEach es X.env)).any (·.1) = false := by rfl)
    (hi : X.N[i]? = some nn := by rfl) (hln : X.env.kindOf nn = some .local := by rfl) (hg : Gl X n := by rfl) (hdb : (n == ("__debug__" : Str)) = false := by decide) (hgi : Gl X "isinstance" := by rfl) (hgY : Gl X Y := by rfl) (hdY : (Y == ("__debug__" : Str)) = false := by decide)
    (hv : Vis X.env.scope nn := by first | exact Or.inl rfl | exact Or.inr (Or.inl rfl) | exact Or.inr (Or.inr rfl)) (hd : (nn == ("__debug__" : Str)) = false := by decide) (hcd : (nn == ("__classdict__" : Str)) = false := by decide)
    (hab : attributeBase (.Name nn p3) f X.env (eval (.Name nn p3) X.env) = eval (.Name nn p3) X.env := by rfl)
    (h1 : starEach [.Attribute (.Name nn p3) f p4, .Call (.Name "isinstance" p5) [.Name nn p6, .Name Y p7] [] p8] X.env = (false, eval (.Attribute (.Name nn p3) f p4) X.env) :: starEach [.Call (.Name "isinstance" p5) [.Name nn p6, .Name Y p7] [] p8] X.env := by rfl)
    (h2 : starEach [.Call (.Name "isinstance" p5) [.Name nn p6, .Name Y p7] [] p8] X.env = (false, eval (.Call (.Name "isinstance" p5) [.Name nn p6, .Name Y p7] [] p8) X.env) :: starEach [] X.env := by rfl)
    (h3 : starEach [.Name nn p6, .Name Y p7] X.env = (false, eval (.Name nn p6) X.env) :: starEach [.Name Y p7] X.env := by rfl) (h4 : starEach [.Name Y p7] X.env = (false, eval (.Name Y p7) X.env) :: starEach [] X.env := by rfl)
    (h5 : (backTo p8 (starEach [.Name Y p7] X.env)).any (·.1) = false := by rfl) :
    SS X (.Try [.Return (some (.Call (.Name x pp) (e :: es) [] pc)) p1] [.ExceptHandler (some (.Name n p2)) (some nn) [.Return (some (.Tuple [.Attribute (.Name nn p3) f p4, .Call (.Name "isinstance" p5) [.Name nn p6, .Name Y p7] [] p8] k1 p9)) p0] ph] [] [] pos)
      (fun D σ H => tRet (tCallS (toSpX X.K C f sp) (L2.WE (wAs X.K (.ref C) i (tSuA X.K C f i B) noW D)) xa) D σ H) (wTryA i (wCallX sp y)) :=
  s_tryA (te := fun W => tCallS (toSpX X.K C f sp) (L2.WE W) xa) hs hf O hN gB isB mis (fun W pn xe tk => pe_callS (X := X.tr pn xe) F hr hgx D.g D.F.kp D.b (fun σ => passAt tk σ) (ha pn xe).pa hdx hse hpl) (fun W => snd_callX (ha X.pn X.xe).snd) hi hln hg hdb hgi hgY hdY hv hd hcd hab h1 h2 h3 h4 h5
theorem s_tryNc {D : Df X.K X.mg x ps st} (F : OkX X.prog X.w X.base D k C f sp) (hr : Room k X.A) (ha : ∀ (pn : List (Addr × Obj)) (xe : Value → Shared → Prop), SX (X.tr pn xe) (e :: es) xa y) (O : OwnE X.K X.mg n f C fI)
    (hs : X.stack = X.env :: X.outer := by rfl) (hf : X.env.frame = some X.env.locals := by rfl)
    (hgx : Gl X x := by rfl) (hdx : (x == ("__debug__" : Str)) = false := by decide) (hse : starEach (e :: es) X.env = (false, eval e X.env) :: starEach es X.env := by rfl) (hpl : (backTo pc (starEach es X.env)).any (·.1) = false := by rfl)
    (hg : Gl X n := by rfl) (hdb : (n == ("__debug__" : Str)) = false := by decide) :
    SS X (.Try [.Return (some (.Call (.Name x pp) (e :: es) [] pc)) p1] [.ExceptHandler (some (.Name n p2)) none [.Return (some (.Constant .none k1 p3)) p0] ph] [] [] pos)
      (fun D σ H => tRet (tCallS (toSpX X.K C f sp) (L2.WE (wOnly X.K (.ref C) (fun _ _ _ => tRet (tC .non)) noW D)) xa) D σ H) (wTryN (wCallX sp y)) :=
  s_tryN (te := fun W => tCallS (toSpX X.K C f sp) (L2.WE W) xa) hs hf O (fun W pn xe tk => pe_callS (X := X.tr pn xe) F hr hgx D.g D.F.kp D.b (fun σ => passAt tk σ) (ha pn xe).pa hdx hse hpl) (fun W => snd_callX (ha X.pn X.xe).snd) hg hdb
theorem s_tryTc {tn : Str} {D : Df X.K X.mg x ps st} (F : OkX X.prog X.w X.base D k C f sp) (hr : Room k X.A) (ha : ∀ (pn : List (Addr × Obj)) (xe : Value → Shared → Prop), SX (X.tr pn xe) (e :: es) xa y) (i j : Nat) (O : OwnE X.K X.mg n f C fI) (hN : X.N.Nodup)
    (hs : X.stack = X.env :: X.outer := by rfl) (hf : X.env.frame = some X.env.locals := by rfl)
    (hgx : Gl X x := by rfl) (hdx : (x == ("__debug__" : Str)) = false := by decide) (hse : starEach (e :: es) X.env = (false, eval e X.env) :: starEach es X.env := by rfl) (hpl : (backTo pc (starEach es X.env)).any (·.1) = false := by rfl)
    (hi : X.N[i]? = some nn := by rfl) (hj : X.N[j]? = some tn := by rfl) (hij : i ≠ j := by decide) (hln : X.env.kindOf nn = some .local := by rfl) (hg : Gl X n := by rfl) (hdb : (n == ("__debug__" : Str)) = false := by decide)
    (hv : Vis X.env.scope nn := by first | exact Or.inl rfl | exact Or.inr (Or.inl rfl) | exact Or.inr (Or.inr rfl)) (hd : (nn == ("__debug__" : Str)) = false := by decide) (hcd : (nn == ("__classdict__" : Str)) = false := by decide)
    (hab : attributeBase (.Name nn p3) f X.env (eval (.Name nn p3) X.env) = eval (.Name nn p3) X.env := by rfl)
    (hx : Loc X.env.scope tn := by first | exact Or.inl rfl | exact Or.inr rfl) (hfn : X.fn tn = true ∨ X.env.scope.names.lookup tn = some .local := by first | exact .inl rfl | exact .inr rfl)
    (hs1 : swapsWith (.Tuple [.Constant (.bool true) k2 p5, .Call (.Name x pp) (e :: es) [] pc] k1 p6) (some (.Name tn p1)) p7.line X.env = pure false := by rfl)
    (hs2 : swapsWith (.Tuple [.Constant (.bool false) k2 p8, .Attribute (.Name nn p3) f p4] k1 p9) (some (.Name tn p10)) p11.line X.env = pure false := by rfl)
    (h1 : starEach [.Constant (.bool true) k2 p5, .Call (.Name x pp) (e :: es) [] pc] X.env = (false, eval (.Constant (.bool true) k2 p5) X.env) :: starEach [.Call (.Name x pp) (e :: es) [] pc] X.env := by rfl) (h2 : starEach [.Call (.Name x pp) (e :: es) [] pc] X.env = (false, eval (.Call (.Name x pp) (e :: es) [] pc) X.env) :: starEach [] X.env := by rfl)
    (h3 : starEach [.Constant (.bool false) k2 p8, .Attribute (.Name nn p3) f p4] X.env = (false, eval (.Constant (.bool false) k2 p8) X.env) :: starEach [.Attribute (.Name nn p3) f p4] X.env := by rfl)
    (h4 : starEach [.Attribute (.Name nn p3) f p4] X.env = (false, eval (.Attribute (.Name nn p3) f p4) X.env) :: starEach [] X.env := by rfl) :
    SS X (.Try [.Assign [.Name tn p1] (.Tuple [.Constant (.bool true) k2 p5, .Call (.Name x pp) (e :: es) [] pc] k1 p6) p7] [.ExceptHandler (some (.Name n p2)) (some nn) [.Assign [.Name tn p10] (.Tuple [.Constant (.bool false) k2 p8, .Attribute (.Name nn p3) f p4] k1 p9) p11] ph] [] [] pos)
      (fun D σ H => tAsg (tTup (tCons (tC (.bl true)) (tCons (tCallS (toSpX X.K C f sp) (L2.WE (wAs X.K (.ref C) i (tSuT C f i j) noW D)) xa) tNil))) (gName j) D σ H) (wTryT i j (wCallX sp y)) :=
  s_tryT (te := fun W => tCallS (toSpX X.K C f sp) (L2.WE W) xa) hs hf O hN (fun W pn xe tk => pe_callS (X := X.tr pn xe) F hr hgx D.g D.F.kp D.b (fun σ => passAt tk σ) (ha pn xe).pa hdx hse hpl) (fun W => snd_callX (ha X.pn X.xe).snd) hi hj hij hln hg hdb hv hd hcd hab hx hfn hs1 hs2 h1 h2 h3 h4
end
/-- the base of the error's class -/
structure BaseE (K : PySem.W.Frag) (mg : Str → Option Value) (y : Str) (B : Addr) : Prop where
  g : mg y = some (.ref B)
  ty : PySem.W.typeIn K (.ref B) = some (.type "type")
  rd : PySem.W.readsIn K B (.type "type") = true
  ga : PySem.W.specialIn K (.ref B) "__getattribute__" = some (some (.builtin "type.__getattribute__"))
  vV : PySem.W.findCls K (.ref B) (.type "type") "__init__" = some (.val (.builtin "ValueError.__init__"))
def clsBody : Stmt → List Stmt
  | .ClassDef _ _ _ b _ _ _ _ _ _ _ => b
  | _ => []
def rAddS : R2 := fun x y H Q => ∃ i j, x = .str i ∧ y = .str j ∧ i.length + j.length ≤ sizeLine ∧ Q (.str (i ++ j)) H
/-- __init__(self, a): B.__init__(self, 'm' + a); self.f = a -/
theorem init_txt {f m : Str} {C : Addr} {vs : List V} {H : Hp} {Q : VK} {E : XK} {a1 a2 : Str} (T : OexC K C) (no : PySem.W.findIn K (.ref C) f = some none) (hm : m.length ≤ 1000) (h : spInit true C f vs H Q E) :
    tSeq (tDrop (tVeI K (tCons (tVar 0) (tCons (tOp rAddS (tC (.str m)) (tVar 1)) tNil)))) (tOst K f (tVar 0) (tVar 1)) { nx := fun _ H' => Q .non H', rt := Q } (L2.start [a1, a2] vs) H := by
  obtain ⟨a, v, rfl, ⟨s, rfl, hl⟩, ha, hq⟩ := h
  exact ⟨_, rfl, _, rfl, m, s, rfl, rfl, by rw [sizeLine_eq]; omega, a, C, _, rfl, by simp, T, ha, _, rfl, _, rfl, a, C, rfl, T, no, .inl ⟨ha, fun dx hd hne => hq dx hd hne⟩⟩
/-- __init__(self, a): B.__init__(self, 'm'); self.f = a -/
theorem init_con {f m : Str} {C : Addr} {vs : List V} {H : Hp} {Q : VK} {E : XK} {a1 a2 : Str} (T : OexC K C) (no : PySem.W.findIn K (.ref C) f = some none) (h : spInit false C f vs H Q E) :
    tSeq (tDrop (tVeI K (tCons (tVar 0) (tCons (tC (.str m)) tNil)))) (tOst K f (tVar 0) (tVar 1)) { nx := fun _ H' => Q .non H', rt := Q } (L2.start [a1, a2] vs) H := by
  obtain ⟨a, v, rfl, ⟨i, rfl⟩, ha, hq⟩ := h
  exact ⟨_, rfl, a, C, _, rfl, by simp, T, ha, _, rfl, _, rfl, a, C, rfl, T, no, .inl ⟨ha, fun dx hd hne => hq dx hd hne⟩⟩
end VL

/-! VY1: sep.join(xs), x.split(sep), a tuple's index of a text; targets with subscripts side by side. -/
namespace VL
open PySem PySem.Spec PyProof.Rows L2
open Evl (Ex)
variable {K : PySem.W.Frag}
def txtsOf : List D → Option (List Str)
  | [] => some []
  | .str x :: r => (txtsOf r).map (x :: ·)
  | _ :: _ => none
theorem txtsOf_map : ∀ xs : List Str, txtsOf (xs.map .str) = some xs
  | [] => rfl
  | x :: r => by rw [List.map_cons, txtsOf, txtsOf_map r]; rfl
theorem txts_v {G : Hp} : ∀ {vs : List V} {ds : List D} {xs : List Str}, RpL K G vs ds → txtsOf ds = some xs → vs = xs.map V.str
  | _, _, _, .nil, h => by cases h; rfl
  | _, _, xs, .cons (d := d) (ds := r0) a r, h => by
    cases a with
    | str x =>
      unfold txtsOf at h
      cases hr : txtsOf r0 with
      | none => rw [hr] at h; cases h
      | some ys =>
        rw [hr] at h; cases h
        rw [txts_v r hr]; rfl
    | _ => cases h
/-- sep.join(xs) -/
def wJoin (t u : WE) : WE := fun ρ Q => t ρ fun d _ ρ1 => match d with
  | .str a => u ρ1 fun e _ ρ2 => match e with
    | .lst ds => match txtsOf ds with
      | some ys => (ys.map (·.length)).sum + ys.length * a.length ≤ 16777216 ∧ Q (.str (Txt.join a ys)) .fz ρ2
      | none => False
    | _ => False
  | _ => False
/-- x.split(sep) -/
def wSplit (t u : WE) : WE := fun ρ Q => t ρ fun d _ ρ1 => match d with
  | .str a => u ρ1 fun e _ ρ2 => match e with
    | .str b => b.length ≠ 0 ∧ a.length ≤ 100000 ∧ Q (.lst ((Txt.split a b).map .str)) .nw ρ2
    | _ => False
  | _ => False
def rJoin (K : PySem.W.Frag) : V → List V → Hp → VK → Prop := fun x xs H Q => ∃ a p, ∃ ys : List Str, x = .str a ∧ xs = [.ref p] ∧ (SqL K H p (ys.map V.str) ∨ SqT K H p (ys.map V.str)) ∧
      (ys.map (·.length)).sum + ys.length * a.length ≤ 16777216 ∧ Q (.str (Txt.join a ys)) H
def rSplit : V → List V → Hp → VK → Prop := fun x xs H Q => ∃ a b, x = .str a ∧ xs = [.str b] ∧ (b.length == 0) = false ∧ a.length + 2 ≤ sizeLine ∧ rNewStrs (Txt.split a b) H Q
theorem rp_strs {G : Hp} : ∀ xs : List Str, RpL K G (xs.map V.str) (xs.map D.str)
  | [] => .nil
  | x :: r => .cons (.str x) (rp_strs r)
section
variable {X : Cx} {e a b c : Expr} {es : List Expr} {te ta tb : TE} {t u : WE} {pos pp p2 : Pos} {xa : TA} {x : WA}
theorem e_join {ap : Pos} (ha : SE X a ta t) (hb : SE X b tb u) (hs : starEach [b] X.env = [(false, eval b X.env)] := by rfl) (hbase : attributeBase a "join" X.env (eval a X.env) = eval a X.env := by rfl) (hline : (ap.endLine == pos.line) = true := by rfl) :
    SE X (.Call (.Attribute a "join" ap) [b] [] pos) (tM1 (rJoin X.K) ta tb) (wJoin t u) :=
  ⟨pe_join ha.pe hb.pe hs hbase hline, fun B G ρ σ H Q R s hq k => by
    refine ha.snd B G ρ σ H _ _ s hq fun d kd ρ1 v G1 H1 q1 x1 s1 r1 => ?_
    split at q1
    · rename_i z
      obtain rfl := ov_str (r1.ov s1)
      refine ⟨⟨z, rfl⟩, ?_⟩
      refine hb.snd B G1 ρ1 σ H1 _ _ s1 q1 fun e ke ρ2 w G2 H2 q2 x2 s2 r2 => ?_
      split at q2
      · rename_i ds
        obtain ⟨p, vs, rfl, t2, l2⟩ := r2.ov s2
        split at q2
        · rename_i ys hy
          obtain rfl := txts_v l2 hy
          exact ⟨z, p, ys, rfl, rfl, .inl (.inl (.inl (hd_le _ _ t2))), q2.1, k _ .fz _ _ _ _ q2.2 (x1.trans x2) s2 (.str _)⟩
        · exact q2.elim
      · exact q2.elim
    · exact q1.elim⟩
theorem e_split {ap : Pos} (ha : SE X a ta t) (hb : SE X b tb u) (hs : starEach [b] X.env = [(false, eval b X.env)] := by rfl) (hbase : attributeBase a "split" X.env (eval a X.env) = eval a X.env := by rfl) (hline : (ap.endLine == pos.line) = true := by rfl) :
    SE X (.Call (.Attribute a "split" ap) [b] [] pos) (tM1 rSplit ta tb) (wSplit t u) :=
  ⟨pe_split ha.pe hb.pe hs hbase hline, fun B G ρ σ H Q R s hq k => by
    refine ha.snd B G ρ σ H _ _ s hq fun d kd ρ1 v G1 H1 q1 x1 s1 r1 => ?_
    split at q1
    · rename_i z
      obtain rfl := ov_str (r1.ov s1)
      refine ⟨⟨z, rfl⟩, ?_⟩
      refine hb.snd B G1 ρ1 σ H1 _ _ s1 q1 fun e ke ρ2 w G2 H2 q2 x2 s2 r2 => ?_
      split at q2
      · rename_i y
        obtain rfl := ov_str (r2.ov s2)
        refine ⟨z, y, rfl, rfl, by simpa using q2.1, by rw [sizeLine_eq]; have := q2.2.1; omega, fun p hp => ?_⟩
        exact (res_of s2 (fun d k' ρ' v G' H' q x s r => k d k' ρ' v G' H' q ((x1.trans x2).trans x) s (r.back (x1.trans x2).h)) q2.2.2).new p _ rfl hp ⟨_, upd_same, rp_strs _⟩
      · exact q2.elim
    · exact q1.elim⟩
end
/-! ### tuple.index of texts -/
def rTIx (K : PySem.W.Frag) : V → List V → Hp → VK → Prop := fun x xs H Q => ∃ p, ∃ ys : List Str, ∃ z j, x = .ref p ∧ xs = [.str z] ∧ SqT K H p (ys.map V.str) ∧ ys[j]? = some z ∧ (∀ m, m < j → ys[m]? ≠ some z) ∧ Q (.int (j : Nat)) H
theorem idx_at {ys : List Str} {z : Str} (h : z ∈ ys) : ys[ys.idxOf z]? = some z ∧ ∀ m, m < ys.idxOf z → ys[m]? ≠ some z := by
  refine ⟨?_, fun m hm e => ?_⟩
  · rw [List.getElem?_eq_getElem (List.idxOf_lt_length_of_mem h), List.getElem_idxOf]
  · have hml : m < ys.length := Nat.lt_trans hm (List.idxOf_lt_length_of_mem h)
    rw [List.getElem?_eq_getElem hml] at e
    have := List.not_of_lt_findIdx (p := (· == z)) (xs := ys) (i := m) hm
    simp at this e
    exact this e
def tTIx (K : PySem.W.Frag) (ta : TA) (te : TE) : TE := fun σ H Q => ta σ H fun xs H1 => xs.length ≤ sizeLine ∧ ∀ p, H1 p = none → te σ (upd H1 p (.tup xs)) fun y H2 => rTIx K (.ref p) [y] H2 Q
def wTIx (t : WA) (u : WE) : WE := fun ρ Q => t ρ fun ds ρ1 => ds.length ≤ LIM ∧ u ρ1 fun e _ ρ2 => match e with
  | .str z => match txtsOf ds with
    | some ys => z ∈ ys ∧ Q (.int (ys.idxOf z : Nat)) .fz ρ2
    | none => False
  | _ => False
section
variable {X : Cx} {e a b c : Expr} {es : List Expr} {te ta tb : TE} {t u : WE} {pos pp p2 : Pos} {xa : TA} {x : WA}
theorem pe_tix {ap tp : Pos} {k1} (ha : PA X es xa) (hb : PE X b tb) (hbase : attributeBase (.Tuple es k1 tp) "index" X.env (eval (.Tuple es k1 tp) X.env) = eval (.Tuple es k1 tp) X.env := by rfl)
    (hfew : ((backTo pos (starEach [b] X.env)).all (fun x => !x.1) && (backToKw pos (keywordEach [] X.env)).all (fun x => x.1.isSome)
      && decide (([b] : List Expr).length + ([] : List Keyword).length + (if ([] : List Keyword).isEmpty then 0 else 1) < 30)) = true := by rfl)
    (hline : (ap.endLine == pos.line) = true := by rfl) (hs : backTo pos (starEach [b] X.env) = [(false, eval b X.env)] := by rfl) : PE X (.Call (.Attribute (.Tuple es k1 tp) "index" ap) [b] [] pos) (tTIx X.K xa tb) := by
  refine ⟨fun pins s σ H Q I h => ?_⟩
  refine wpAny_Call_method_late hbase hfew hline hs (wpAny_Tuple_spliced (thn (ha.run tp pins s σ H _ I h) fun us s1 ⟨xs, H1, I1, r, z, q⟩ => ⟨by rw [← r.length]; exact z, ?_⟩))
  have hf : H1 s1.heap.objs.size = none := I1.hok.fresh (Nat.le_refl _)
  have ht : IsTup (s1.heap.push { cls := .type "tuple", data := .seq us.toArray }) s1.heap.objs.size us.toArray := ⟨_, Heap.get?_push_size _ rfl, rfl, _, rfl⟩
  refine ⟨"tuple", "tuple.index", PySem.F.plainAttrs_tuple, PySem.F.slot_tuple_index, PySem.F.type_tuple_index, ⟨_, Heap.get?_push_size _ rfl, rfl⟩, fun a e => by cases e; exact ⟨_, Heap.get?_push_size _ rfl, rfl⟩, ?_⟩
  have I2 := I1.laid (o := .tup xs) (t' := s1.toks) (h' := s1.heap.push { cls := .type "tuple", data := .seq us.toArray }) (fun b u e => Heap.get?_push_of_some _ e) (Nat.le_refl _) ⟨z, us, r, ht⟩
  refine Calls.callWith_builtin rfl (Calls.evalArgs_plain (Calls.spliced_cons ?_))
  exact thn (hb.run pins _ σ _ _ I2 (q _ hf)) fun u s2 ⟨y, H2, I3, r2, q2⟩ => Calls.spliced_nil (mt_tup_index pins s2 σ H2 (.ref s1.heap.objs.size) [y] _ [u] Q I3 rfl (.cons r2 .nil) q2)
theorem e_tix {ap tp : Pos} {k1} (ha : SA X es xa x) (hb : SE X b tb u) (hbase : attributeBase (.Tuple es k1 tp) "index" X.env (eval (.Tuple es k1 tp) X.env) = eval (.Tuple es k1 tp) X.env := by rfl)
    (hfew : ((backTo pos (starEach [b] X.env)).all (fun x => !x.1) && (backToKw pos (keywordEach [] X.env)).all (fun x => x.1.isSome)
      && decide (([b] : List Expr).length + ([] : List Keyword).length + (if ([] : List Keyword).isEmpty then 0 else 1) < 30)) = true := by rfl)
    (hline : (ap.endLine == pos.line) = true := by rfl) (hs : backTo pos (starEach [b] X.env) = [(false, eval b X.env)] := by rfl) : SE X (.Call (.Attribute (.Tuple es k1 tp) "index" ap) [b] [] pos) (tTIx X.K xa tb) (wTIx x u) :=
  ⟨pe_tix ha.pa hb.pe hbase hfew hline hs, fun B G ρ σ H Q R s hq k => by
    refine ha.snd B G ρ σ H _ _ s hq fun ds ρ1 vs G1 H1 q1 x1 s1 r1 => ?_
    refine ⟨by rw [r1.length]; exact lim_le q1.1, fun p hp => ?_⟩
    have s2 := s1.laidF (o := .tup vs) hp
    refine hb.snd B _ ρ1 σ _ _ _ s2 q1.2 fun e ke ρ2 w G2 H2 q2 x2 s3 r2 => ?_
    split at q2
    · rename_i z
      obtain rfl := ov_str (r2.ov s3)
      split at q2
      · rename_i ys hy
        obtain rfl := txts_v r1 hy
        have hi := idx_at q2.1
        exact ⟨p, ys, z, ys.idxOf z, rfl, rfl, exT s3.le (x2.g _ _ upd_same), hi.1, hi.2, k _ .fz _ _ _ _ q2.2 ((x1.trans (.laidF hp (s1.fresh hp))).trans x2) s3 (.int _)⟩
      · exact q2.elim
    · exact q2.elim⟩
/-- a module's tuple of texts -/
def GlobTx (K : PySem.W.Frag) (mg : Str → Option Value) (x : Str) (ys : List Str) : Prop := ∃ p o, mg x = some (.ref p) ∧ K.lookup p = some o ∧ o.cls = .type "tuple" ∧ o.dict = none ∧ ∀ H : Hp, SqT K H p (ys.map V.str)
theorem glob_tx {h : Heap} {mg : Str → Option Value} (X : K.In h) (G : h.Ns mainGlobals mg) {x : Str} {p : Addr} {its : Array Value} {n : Nat} {sl : Array (Option Value)} {ys : List Str} (a : PySem.W.nsIn K mainGlobals x = some (some (.ref p)))
    (l : K.lookup p = some ⟨.type "tuple", none, .seq its n, sl⟩) (hz : its.size ≤ sizeLine) (hv : Vals (ys.map V.str) its.toList) : GlobTx K mg x ys :=
  ⟨p, _, PySem.W.mg_of X G a, l, rfl, rfl, fun H => .inr ⟨_, its, n, l, rfl, rfl, hz, hv⟩⟩
def wGIx (ys : List Str) (u : WE) : WE := fun ρ Q => u ρ fun e _ ρ1 => match e with
  | .str z => z ∈ ys ∧ Q (.int (ys.idxOf z : Nat)) .fz ρ1
  | _ => False
theorem e_gix {x : Str} {ys : List Str} {np ap : Pos} (h : GlobTx X.K X.mg x ys) (hb : SE X b tb u) (hg : Gl X x := by rfl) (hd : (x == ("__debug__" : Str)) = false := by decide)
    (hbase : attributeBase (.Name x np) "index" X.env (eval (.Name x np) X.env) = eval (.Name x np) X.env := by rfl)
    (hfew : ((backTo pos (starEach [b] X.env)).all (fun x => !x.1) && (backToKw pos (keywordEach [] X.env)).all (fun x => x.1.isSome)
      && decide (([b] : List Expr).length + ([] : List Keyword).length + (if ([] : List Keyword).isEmpty then 0 else 1) < 30)) = true := by rfl)
    (hline : (ap.endLine == pos.line) = true := by rfl) (hs : starEach [b] X.env = (false, eval b X.env) :: starEach [] X.env := by rfl) (hplain : (backTo pos (starEach [] X.env)).any (·.1) = false := by rfl) :
    SE X (.Call (.Attribute (.Name x np) "index" ap) [b] [] pos) (tBM X.K "tuple" (rTIx X.K) (tC (.ref (Classical.choose h))) (tCons tb tNil)) (wGIx ys u) :=
  ⟨pe_bm PySem.F.plainAttrs_tuple PySem.F.slot_tuple_index PySem.F.type_tuple_index mt_tup_index (pe_glob hg (Classical.choose_spec (Classical.choose_spec h)).1 rfl hd) (pa_cons hb.pe pa_nil hs) hbase hfew hline hs hplain, fun B G ρ σ H Q R s hq k => by
    obtain ⟨h1, h2, h3, h4, h5⟩ := Classical.choose_spec (Classical.choose_spec h)
    refine ⟨.inr (.inl ⟨rfl, _, h2, h3, h4⟩), ?_⟩
    refine hb.snd B G ρ σ H _ _ s hq fun e ke ρ2 w G2 H2 q2 x2 s3 r2 => ?_
    split at q2
    · rename_i z
      obtain rfl := ov_str (r2.ov s3)
      have hi := idx_at q2.1
      exact ⟨_, ys, z, ys.idxOf z, rfl, rfl, h5 _, hi.1, hi.2, k _ .fz _ _ _ _ q2.2 x2 s3 (.int _)⟩
    · exact q2.elim⟩
end
/-! ### targets side by side, some with a subscript: xs[i], a = x, y -/
abbrev WGS := List D → WS
def SndGS (K : PySem.W.Frag) (tg : TGs) (g : WGS) : Prop := ∀ (b : Bs) (P : PEnds) (E : Ends) (G : Hp) (ρ : Rho) (σ : L2.St) (H : Hp) (vs : List V) (ds : List D), EOk K b P E → Sim K b G ρ σ H → RpL K G vs ds → g ds P ρ → tg vs σ H E.nx
def gsNil : WGS := fun ds P ρ => ds = [] ∧ P.nx ρ
def gsName (i : Nat) (u : WGS) : WGS := fun ds P ρ => match ds with
  | d :: r => u r P (ρ.set i (.fz d))
  | [] => False
def gsPut (j : Nat) (wk : WE) (u : WGS) : WGS := fun ds P ρ => match ds with
  | d :: r => (∃ d0, ρ[j]? = some (.ow d0)) ∧ wk ρ fun k _ ρ2 => match ρ2[j]? with
    | some (.ow dd) => match lputD dd k d with
      | some z => u r P (ρ2.set j (.ow z))
      | none => False
    | _ => False
  | [] => False
theorem sndGS_nil : SndGS K gNil gsNil := fun b P E G ρ σ H vs ds e s r q => by
  obtain ⟨rfl, q⟩ := q
  cases r
  exact ⟨rfl, e.nx _ _ _ _ q s⟩
theorem sndGS_name {i : Nat} {tu : TGs} {u : WGS} (h : SndGS K tu u) : SndGS K (gCons (gName i) tu) (gsName i u) := fun b P E G ρ σ H vs ds e s r q => by
  unfold gsName at q
  split at q
  · cases r with
    | cons ra rb => exact ⟨_, _, rfl, h b P E G _ _ H _ _ e (s.setF i ra) rb q⟩
  · exact q.elim
theorem sndGS_put {j : Nat} {tk : TE} {wk : WE} {tu : TGs} {u : WGS} (hk : SndE K tk wk) (h : SndGS K tu u) : SndGS K (gCons (gSub (tVar j) tk rSetL) tu) (gsPut j wk u) := fun b P E G ρ σ H vs ds e s r q => by
  unfold gsPut at q
  split at q
  · cases r with
    | cons ra rb =>
      refine ⟨_, _, rfl, ?_⟩
      obtain ⟨⟨d0, e0⟩, q1⟩ := q
      obtain ⟨a, h1, _⟩ := s.ow j d0 e0
      refine ⟨_, h1, ?_⟩
      refine hk b G ρ σ H _ _ s q1 fun k kk ρ2 u2 G2 H2 q2 x2 s2 r2 => ?_
      have ok := r2.ov s2
      split at q2
      · rename_i dd e2
        split at q2
        · rename_i z ez
          obtain ⟨a', c1, c2, c3, c4, c5⟩ := s2.ow j dd e2
          rw [h1] at c1; cases c1
          have rv := ra.mono x2.g
          unfold lputD at ez
          split at ez
          · rename_i xs i
            obtain ⟨vs', c6, c7⟩ := c5
            obtain rfl := ov_int ok
            cases hi : ixN xs.length i with
            | none => rw [hi] at ez; cases ez
            | some n =>
              rw [hi] at ez; cases ez
              refine ⟨a, vs', i, n, rfl, rfl, c6, by rw [c7.length]; exact hi, ?_⟩
              exact h b P E G2 _ σ _ _ _ e (s2.put (d := .lst (xs.set n _)) e2 h1 ⟨_, upd_same, RpL.set rv n c7⟩) (rb.mono x2.g) q2
          · cases ez
        · exact q2.elim
      · exact q2.elim
  · exact q.elim
def wAsgS (n : Nat) (g : WGS) (w : WE) : WS := fun P ρ => w ρ (toF fun d ρ1 => match d with
  | .tup ds => ds.length = n ∧ g ds P ρ1
  | _ => False)
theorem snd_asgS {n : Nat} {tg : TGs} {g : WGS} {te : TE} {w : WE} (hg : SndGS K tg g) (h : SndE K te w) : SndS K (tAsg te (gTup K n tg)) (wAsgS n g w) := fun b P E G ρ σ H e s hq =>
  h b G ρ σ H _ _ s hq fun d k ρ' v G' H' q x s' r => frozen (R := fun v H' => gTup K n tg v σ H' E.nx) q x s s' r fun d ρ2 v G2 q2 x2 s2 r2 => by
    split at q2
    · rename_i ds
      cases r2 with
      | @tup a vs _ e1 rl => exact ⟨a, vs, rfl, exT s2.le e1, by rw [rl.length]; exact q2.1, hg b P E G2 ρ2 σ _ _ _ e s2 rl q2.2⟩
    · exact q2.elim
structure SGS (X : Cx) (e : List Expr) (tg : TGs) (g : WGS) : Prop where
  pg : PGs X e tg
  snd : SndGS X.K tg g
section
variable {X : Cx} {e a b c : Expr} {es : List Expr} {te ta tb : TE} {t u : WE} {pos pp p2 : Pos} {tg : TGs} {g : WGS}
theorem gs_nil : SGS X [] gNil gsNil := ⟨pgs_nil, sndGS_nil⟩
theorem gs_name (i : Nat) {x : Str} (nd : X.N.Nodup) (h : SGS X es tg g) (hi : X.N[i]? = some x := by rfl) (hx : Loc X.env.scope x := by first | exact Or.inl rfl | exact Or.inr rfl) (hf : X.fn x = true ∨ X.env.scope.names.lookup x = some .local := by first | exact .inl rfl | exact .inr rfl)
    (hs : (assignEach (.Name x pos :: es) X.env).map (·.2) = assign (.Name x pos) X.env :: (assignEach es X.env).map (·.2) := by rfl) : SGS X (.Name x pos :: es) (gCons (gName i) tg) (gsName i g) :=
  ⟨pgs_cons (pg_name nd hi hx hf) h.pg hs, sndGS_name h.snd⟩
theorem gs_put (j : Nat) {n : Str} {np pos' : Pos} (hk : SE X b tb u) (h : SGS X es tg g) (hN : X.N[j]? = some n := by rfl) (hv' : Vis X.env.scope n := by first | exact Or.inl rfl | exact Or.inr (Or.inl rfl) | exact Or.inr (Or.inr rfl)) (hd : (n == ("__debug__" : Str)) = false := by decide) (hcd : (n == ("__classdict__" : Str)) = false := by decide)
    (ha : ∀ v, assign (.Subscript (.Name n np) b pos') X.env v = (do
      let ov ← holding [v] (eval (.Name n np) X.env)
      let iv ← holding [v, ov] (eval b X.env)
      standAt pos'
      holding [v, ov, iv] (setItem ov iv v)
      release [v, ov, iv] []) := by intro _; rfl)
    (hs : (assignEach (.Subscript (.Name n np) b pos' :: es) X.env).map (·.2) = assign (.Subscript (.Name n np) b pos') X.env :: (assignEach es X.env).map (·.2) := by rfl) :
    SGS X (.Subscript (.Name n np) b pos' :: es) (gCons (gSub (tVar j) tb rSetL) tg) (gsPut j u g) :=
  ⟨pgs_cons (pg_sub (pe_var hN hv' hd hcd) hk.pe set_list ha) h.pg hs, sndGS_put hk.snd h.snd⟩
theorem s_asgS {n : Nat} {k1 : Nat} {tp : Pos} (he : SE X e te t) (hg : SGS X es tg g) (hn : (assignEach es X.env).length = n := by rfl) (hst : (assignEach es X.env).findIdx? (·.1) = none := by rfl) (hc : X.calm = true := by rfl)
    (hs : swapsWithSole [.Tuple es k1 tp] e pos.line X.env = pure false := by rfl) (hw : swappedStores [.Tuple es k1 tp] e X.env = pure none := by rfl)
    (h1 : (assignEach [.Tuple es k1 tp] X.env).map (·.2) = [assign (.Tuple es k1 tp) X.env] := by rfl) : SS X (.Assign [.Tuple es k1 tp] e pos) (tAsg te (gTup X.K n tg)) (wAsgS n g t) :=
  ⟨ps_asg he.pe (pg_tup hc hg.pg hn hst) hs hw h1, snd_asgS hg.snd he.snd⟩
end
end VL

/-! VY2: a def that may raise, called where it does not. -/
namespace VL
open PySem PySem.Spec PyProof.Rows L2
open Evl (Ex)
variable {X : Cx} {e : Expr} {es : List Expr} {pos pp : Pos} {C : Addr} {f : Str}
theorem e_callN {x : Str} {ps : List Str} {st : Stmt} {k : Nat} {sp : FSX} {xa : TA} {y : WX} {D : Df X.K X.mg x ps st} (F : OkX X.prog X.w X.base D k C f sp) (hr : Room k X.A) (ha : SX X (e :: es) xa y) (hg : Gl X x := by rfl) (hdb : (x == ("__debug__" : Str)) = false := by decide)
    (he : starEach (e :: es) X.env = (false, eval e X.env) :: starEach es X.env := by rfl) (hpl : (backTo pos (starEach es X.env)).any (·.1) = false := by rfl) : SE X (.Call (.Name x pp) (e :: es) [] pos) (tCallS (toSpX X.K C f sp) (L2.WE noW) xa) (wCallX sp y fun _ _ => False) := by
  have h := e_callX (W := noW) (pp := pp) F hr (fun u s' ⟨_, _, _, _, _, _, _, _, _, _, _, _, _, _, _, _, w⟩ => False.elim w) ha hg hdb he hpl
  exact ⟨h.pe, fun b G ρ σ H Q R s q k => h.snd b G ρ σ H Q R _ (fun _ _ _ _ _ _ _ (z : False) => z.elim) s q k⟩
end VL

/-! VY3: slices of texts and lists by plain lists. -/
namespace VL
open PySem PySem.Spec PyProof.Rows L2
theorem str_num (n : Nat) : strI (n : Int) = SX.S (TL.numL n) := SX.num_S n
theorem take_min {α : Type} (l : List α) (k : Nat) : l.take (min k l.length - 0) = l.take k := by
  rw [Nat.sub_zero]
  by_cases h : k ≤ l.length
  · rw [Nat.min_eq_left h]
  · rw [Nat.min_eq_right (by omega), List.take_length, List.take_of_length_le (by omega)]
theorem drop_min {α : Type} (l : List α) (k : Nat) : (l.drop (min k l.length)).take (l.length - min k l.length) = l.drop k := by
  rw [List.take_of_length_le (by rw [List.length_drop]; exact Nat.le_refl _)]
  by_cases h : k ≤ l.length
  · rw [Nat.min_eq_left h]
  · rw [Nat.min_eq_right (by omega), List.drop_length, List.drop_of_length_le (by omega)]
theorem slS_to {l : List Nat} {k : Nat} (hl : l.length ≤ LIM) : dSlice (.str (SX.S l)) none (some (k : Int)) = some (.str (SX.S (l.take k)), .fz) := by
  show (if (SX.S l).length ≤ LIM then some (D.str (cutS (SX.S l) none (some (k : Int))), Kd.fz) else none) = _
  rw [SX.S_len, if_pos hl]
  have : cutS (SX.S l) none (some (k : Int)) = SX.S (l.take k) := by
    unfold cutS
    rw [HT.sIx_none, HT.sIx_nat, SX.S_len]
    show SX.S ((l.drop 0).take (min k l.length - 0)) = _
    rw [List.drop_zero, take_min]
  rw [this]
theorem slS_from {l : List Nat} {k : Nat} (hl : l.length ≤ LIM) : dSlice (.str (SX.S l)) (some (k : Int)) none = some (.str (SX.S (l.drop k)), .fz) := by
  show (if (SX.S l).length ≤ LIM then some (D.str (cutS (SX.S l) (some (k : Int)) none), Kd.fz) else none) = _
  rw [SX.S_len, if_pos hl]
  have : cutS (SX.S l) (some (k : Int)) none = SX.S (l.drop k) := by
    unfold cutS
    rw [HT.sIx_none, HT.sIx_nat, SX.S_len]
    show SX.S ((l.drop (min k l.length)).take (l.length - min k l.length)) = _
    rw [drop_min]
  rw [this]
theorem slL_to {l : List D} {k : Nat} : dSlice (.lst l) none (some (k : Int)) = some (.lst (l.take k), .nw) := by
  show some (D.lst (VL.cutD l none (some (k : Int))), Kd.nw) = _
  have : VL.cutD l none (some (k : Int)) = l.take k := by
    unfold VL.cutD
    rw [HT.sIx_none, HT.sIx_nat, List.drop_zero, take_min]
  rw [this]
theorem slT_to {l : List D} {k : Nat} : dSlice (.tup l) none (some (k : Int)) = some (.tup (l.take k), .fz) := by
  show some (D.tup (VL.cutD l none (some (k : Int))), Kd.fz) = _
  have : VL.cutD l none (some (k : Int)) = l.take k := by
    unfold VL.cutD
    rw [HT.sIx_none, HT.sIx_nat, List.drop_zero, take_min]
  rw [this]
theorem slL_from {l : List D} {k : Nat} : dSlice (.lst l) (some (k : Int)) none = some (.lst (l.drop k), .nw) := by
  show some (D.lst (VL.cutD l (some (k : Int)) none), Kd.nw) = _
  have : VL.cutD l (some (k : Int)) none = l.drop k := by
    unfold VL.cutD
    rw [HT.sIx_none, HT.sIx_nat, drop_min]
  rw [this]
section
variable {t u : WE} {ρ : Rho} {d z : D} {k k' kz : Kd} {n : Int}
theorem ev_slE (h : Ev t ρ d k) (hu : Ev u ρ (.int n) k') (e : dSlice d none (some n) = some (z, kz)) : Ev (wSlice t wPNone (wPSome u)) ρ z kz := fun Q q => h _ (hu _ (by show oB _ _; rw [e]; exact q))
theorem ev_slB (h : Ev t ρ d k) (hu : Ev u ρ (.int n) k') (e : dSlice d (some n) none = some (z, kz)) : Ev (wSlice t (wPSome u) wPNone) ρ z kz := fun Q q => h _ (hu _ (by show oB _ _; rw [e]; exact q))
end
theorem ixS {l : List Nat} {k : Nat} {c : Nat} (hl : l.length ≤ LIM) (h : l[k]? = some c) : bSubs (.str (SX.S l)) (.int (k : Int)) = some (.str (SX.S [c]), .fz) := by
  have hk : k < l.length := (List.getElem?_eq_some_iff.mp h).1
  show (if (SX.S l).length ≤ LIM then (atI l (k : Int)).map fun c => (D.str ⟨#[c]⟩, Kd.fz) else none) = _
  rw [SX.S_len, if_pos hl]
  unfold atI ixN
  rw [if_pos (by omega), if_pos (by omega)]
  show (l[(k : Int).toNat]?).map (fun c => (D.str ⟨#[c]⟩, Kd.fz)) = _
  rw [Int.toNat_natCast, h]
  rfl
theorem addS {a b : List Nat} (h : a.length + b.length ≤ LIM) : bAdd (.str (SX.S a)) (.str (SX.S b)) = some (.str (SX.S (a ++ b)), .fz) := by
  show (if (SX.S a).length + (SX.S b).length ≤ LIM then some (D.str (SX.S a ++ SX.S b), Kd.fz) else none) = _
  rw [SX.S_len, SX.S_len, if_pos h, SX.S_cat]
theorem intS {cs : List Nat} (h : NumText.AllDigits cs) (h0 : cs ≠ []) (hl : cs.length ≤ 640) : cIntT [.str (SX.S cs)] = some (.int ((NumText.digitsVal cs : Nat) : Int), .fz) := by
  show (if (SX.S cs).length ≤ 640 then (intText? (SX.S cs)).bind fun n => ozI n else none) = _
  rw [SX.S_len, if_pos hl, PySem.intText_digits (x := SX.S cs) h h0 (by rw [SX.S_len]; omega)]
  rfl
theorem lenS {cs : List Nat} (h : cs.length ≤ LIM) : cLen [.str (SX.S cs)] = some (.int (cs.length : Int), .fz) := by
  show (if (SX.S cs).length ≤ LIM then ozI (SX.S cs).length else none) = _
  rw [SX.S_len, if_pos h]
  rfl
theorem num_ok {n : Nat} (h : n < 1000) : NumText.AllDigits (TL.numL n) ∧ 1 ≤ (TL.numL n).length ∧ (TL.numL n).length ≤ 3 :=
  ⟨TL.numL_digits n, by have := TL.numL_ne n; exact List.length_pos_iff.mpr this, TL.numL_len (k := 3) (by decide) h⟩
theorem cstr {n : Nat} (h : n < 1000) : cStr [.int (n : Int)] = some (.str (SX.S (TL.numL n)), .fz) := by
  show (if (n : Int).natAbs < 1000000000000 then some (D.str (strI n), Kd.fz) else none) = _
  rw [if_pos (by omega), str_num]
theorem go_forO {g : WG} {tb : WS} {P : PEnds} {ρ : Rho} {i : Nat} {xs : List D} (ho : ρ[i]? = some (.ow (.lst xs))) (h : wLoop g tb P xs (ρ.set i (.fz (.lst xs)))) : wFor (wiF (wVar i)) g tb P ρ := by
  show wVar i ρ _
  rw [wVar_e, ho]
  exact h
section
variable {t u : WE} {ρ : Rho} {k k' : Kd} {r : WS} {P : PEnds} {d e z : D} {i j : Nat} {w wk : WE} {kk : Kd} {key : D} {x1 : D}
theorem sq_put2 (h : Ev w ρ (.tup [d, e]) .fz) (ho : ρ[i]? = some (.ow x1)) (hk : Ev wk ρ key kk) (hl : lputD x1 key d = some z) (q : r P ((ρ.set i (.ow z)).set j (.fz e))) : wSeq (wAsgS 2 (gsPut i wk (gsName j gsNil)) w) r P ρ :=
  h _ ⟨rfl, ⟨_, ho⟩, hk _ (by
    rw [ho]
    show (match lputD x1 key d with | some z => _ | none => False)
    rw [hl]
    exact ⟨rfl, q⟩)⟩
theorem go_put2 (h : Ev w ρ (.tup [d, e]) .fz) (ho : ρ[i]? = some (.ow x1)) (hk : Ev wk ρ key kk) (hl : lputD x1 key d = some z) (q : P.nx ((ρ.set i (.ow z)).set j (.fz e))) : wAsgS 2 (gsPut i wk (gsName j gsNil)) w P ρ :=
  h _ ⟨rfl, ⟨_, ho⟩, hk _ (by
    rw [ho]
    show (match lputD x1 key d with | some z => _ | none => False)
    rw [hl]
    exact ⟨rfl, q⟩)⟩
theorem go_augI {a b : Int} (ho : ρ[i]? = some (.fz (.int a))) (h : Ev w ρ (.int b) k) (q : P.nx (ρ.set i (.fz (.int (a + b))))) : wAugI i w P ρ := by
  unfold wAugI wAug
  rw [ho]
  exact h _ q
theorem ei_split {cs sep : List Nat} (h : Ev t ρ (.str (SX.S cs)) k) (h' : Ev u ρ (.str (SX.S sep)) k') (hs : sep ≠ []) (hb : sep.all (· < 256) = true) (hl : cs.length ≤ 100000) : Ei (wiF (wSplit t u)) ρ ((TL.spl sep 0 [] cs).map fun p => .str (SX.S p)) := fun Q q => by
  rw [wiF_e]
  refine h _ (h' _ ⟨by rw [SX.S_len]; exact fun z => hs (List.length_eq_zero_iff.mp z), by rw [SX.S_len]; exact hl, ?_⟩)
  rw [toF_nw, seq_lst, sqK_e, SX.split_S hs hb, List.map_map]
  exact q
theorem ev_join {sep : List Nat} {ys : List (List Nat)} (h : Ev t ρ (.str (SX.S sep)) k) (h' : Ev u ρ (.lst (ys.map fun p => .str (SX.S p))) k') (hl : (ys.map (·.length)).sum + ys.length * sep.length ≤ 16777216) : Ev (wJoin t u) ρ (.str (SX.S (TL.joinL sep ys))) .fz := fun Q q => by
  refine h _ (h' _ ?_)
  have e : (ys.map fun p => D.str (SX.S p)) = (ys.map SX.S).map .str := by rw [List.map_map]; rfl
  show (match txtsOf (ys.map fun p => D.str (SX.S p)) with | some ys => _ | none => False)
  rw [e, txtsOf_map]
  refine ⟨?_, ?_⟩
  · rw [SX.lens, List.length_map, SX.S_len]; exact hl
  · rw [SX.join_S]; exact q
theorem sq_parNMM {v : WE} {f : D} {l : Nat} (h : Ev t ρ d .nw) (h' : Ev u ρ e .fz) (h2 : Ev v ρ f .fz) (q : r P (((ρ.set i (.ow d)).set j (.fz e)).set l (.fz f))) : wSeq (wPar [i, j, l] (nCons t (nCons u (nCons v nNil)))) r P ρ := h _ (h' _ (h2 _ ⟨rfl, q⟩))
theorem sq_parNMN {v : WE} {f : D} {l : Nat} (h : Ev t ρ d .nw) (h' : Ev u ρ e .fz) (h2 : Ev v ρ f .nw) (q : r P (((ρ.set i (.ow d)).set j (.fz e)).set l (.ow f))) : wSeq (wPar [i, j, l] (nCons t (nCons u (nCons v nNil)))) r P ρ := h _ (h' _ (h2 _ ⟨rfl, q⟩))
end
end VL

/-! VY4: xs.remove(k), xs[a::s], dict(pairs) with keys that are tuples. -/
namespace VL
open PySem PySem.Spec PyProof.Rows L2
open Evl (Ex)
variable {K : PySem.W.Frag}
/-! ### xs.remove(k), ints -/
def fRemove : D → D → Option D
  | .lst ds, .int k => (intsOf ds).bind fun ns => if k ∈ ns then some (.lst ((ns.eraseIdx (ns.idxOf k)).map .int)) else none
  | _, _ => none
theorem rp_intsY {G : Hp} : ∀ ns : List Int, RpL K G (ns.map V.int) (ns.map D.int)
  | [] => .nil
  | n :: r => .cons (.int n) (rp_intsY r)
theorem idx_first {α : Type} [BEq α] [LawfulBEq α] {ys : List α} {z : α} (h : z ∈ ys) : ys[ys.idxOf z]? = some z ∧ ∀ m, m < ys.idxOf z → ys[m]? ≠ some z := by
  refine ⟨?_, fun m hm e => ?_⟩
  · rw [List.getElem?_eq_getElem (List.idxOf_lt_length_of_mem h), List.getElem_idxOf]
  · have hml : m < ys.length := Nat.lt_trans hm (List.idxOf_lt_length_of_mem h)
    rw [List.getElem?_eq_getElem hml] at e
    have := List.not_of_lt_findIdx (p := (· == z)) (xs := ys) (i := m) hm
    simp at this e
    exact this e
theorem snd_remove {j : Nat} {te : TE} {w : WE} (h : SndE K te w) : SndS K (tDrop (tBM K "list" rRemI (tVar j) (tCons te tNil))) (wMut j w fRemove) := fun b P E G ρ σ H e s hq => by
  obtain ⟨⟨ds0, e0⟩, hq⟩ := hq
  obtain ⟨a, h1, h2, h3, h4, vs0, h5, h6⟩ := s.ow j _ e0
  refine ⟨_, h1, .inl ⟨rfl, _, .inl (.inl h5)⟩, ?_⟩
  refine h b G ρ σ H _ _ s hq fun d k ρ' v G' H' q x s' r => ?_
  refine frozen (R := fun v H' => rRemI (.ref a) [v] H' fun _ H1 => E.nx σ H1) q x s s' r fun d ρ2 v G2 q2 x2 s2 r2 => ?_
  split at q2
  · rename_i d0 e2
    split at q2
    · rename_i z ez
      obtain ⟨a', c1, c2, c3, c4, c5⟩ := s2.ow j d0 e2
      rw [h1] at c1; cases c1
      unfold fRemove at ez
      split at ez
      · rename_i ds k2
        obtain ⟨vs, c6, c7⟩ := c5
        cases r2
        cases hi : intsOf ds with
        | none => rw [hi] at ez; cases ez
        | some ns =>
          rw [hi] at ez
          obtain rfl := ints_v c7 hi
          have ez : (if k2 ∈ ns then some (D.lst ((ns.eraseIdx (ns.idxOf k2)).map .int)) else none) = some z := ez
          split at ez
          · rename_i hm
            cases ez
            obtain ⟨i1, i2⟩ := idx_first hm
            refine ⟨a, ns, k2, ns.idxOf k2, rfl, rfl, c6, i1, i2, ?_⟩
            exact e.nx _ σ G2 _ q2 (s2.put (d := .lst ((ns.eraseIdx (ns.idxOf k2)).map .int)) e2 h1 ⟨_, upd_same, rp_intsY _⟩)
          · cases ez
      · cases ez
    · exact q2.elim
  · exact q2.elim
section
variable {X : Cx} {e a b c : Expr} {es : List Expr} {te ta tb : TE} {t u : WE} {pos pp p2 : Pos} {xa : TA} {x : WA} {n : Str} {np ap cp : Pos}
theorem s_remove (i : Nat) (he : SE X e te t) (hN : X.N[i]? = some n := by rfl) (hv : Vis X.env.scope n := by first | exact Or.inl rfl | exact Or.inr (Or.inl rfl) | exact Or.inr (Or.inr rfl)) (hd : (n == ("__debug__" : Str)) = false := by decide) (hcd : (n == ("__classdict__" : Str)) = false := by decide)
    (hse : starEach [e] X.env = [(false, eval e X.env)] := by rfl)
    (hbase : attributeBase (.Name n np) "remove" X.env (eval (.Name n np) X.env) = eval (.Name n np) X.env := by rfl)
    (hfew : ((backTo cp (starEach [e] X.env)).all (fun x => !x.1) && (backToKw cp (keywordEach [] X.env)).all (fun x => x.1.isSome) && decide ([e].length + ([] : List Keyword).length + (if ([] : List Keyword).isEmpty then 0 else 1) < 30)) = true := by rfl)
    (hline : (ap.endLine == cp.line) = true := by rfl) (hplain : (backTo cp (starEach [] X.env)).any (·.1) = false := by rfl)
    (hs : swapsWith (.Call (.Attribute (.Name n np) "remove" ap) [e] [] cp) none pos.line X.env = pure false := by rfl) :
    SS X (.Expr (.Call (.Attribute (.Name n np) "remove" ap) [e] [] cp) pos) (tDrop (tBM X.K "list" rRemI (tVar i) (tCons te tNil))) (wMut i t fRemove) :=
  ⟨ps_expr (pe_bm PySem.F.plainAttrs_list PySem.F.slot_list_remove PySem.F.type_list_remove mt_remove (pe_var hN hv hd hcd) (pa_cons he.pe pa_nil hse) hbase hfew hline hse hplain) hs, snd_remove he.snd⟩
end
/-! ### xs[a::s] -/
def stepIx (lo : Option Int) (st : Int) (n : Nat) : List Nat := sliceRange (sliceBounds lo none (some st) n).1 (sliceBounds lo none (some st) n).2.1 (sliceBounds lo none (some st) n).2.2
def pickD {α : Type} (lo : Option Int) (st : Int) (xs : List α) : List α := (stepIx lo st xs.length).filterMap (xs[·]?)
def tStep (K : PySem.W.Frag) (lo : Option Int) (st : Int) (te : TE) : TE := fun σ H Q => te σ H fun x H1 => ∃ a xs, x = .ref a ∧ SqL K H1 a xs ∧ (pickD lo st xs).length ≤ sizeLine ∧ ∀ p, H1 p = none → Q (.ref p) (upd H1 p (.lst (pickD lo st xs)))
def wStep (lo : Option Int) (st : Int) (t : WE) : WE := fun ρ Q => t ρ fun d _ ρ1 => match d with
  | .lst xs => (pickD lo st xs).length ≤ LIM ∧ Q (.lst (pickD lo st xs)) .nw ρ1
  | _ => False
theorem vals_pick {xs : List V} {its : List Value} (r : Vals xs its) : ∀ l : List Nat, Vals (l.filterMap (xs[·]?)) (l.filterMap (its[·]?))
  | [] => .nil
  | i :: l => by
    have ih := vals_pick r l
    rw [List.filterMap_cons, List.filterMap_cons]
    cases hx : xs[i]? with
    | none =>
      have h1 := r.length
      have h2 := List.getElem?_eq_none_iff.mp hx
      have : its[i]? = none := List.getElem?_eq_none (by omega)
      rw [this]; exact ih
    | some v =>
      obtain ⟨u, hu, ru⟩ := r.get hx
      rw [hu]; exact .cons ru ih
theorem rpl_pick {G : Hp} {xs : List V} {ds : List D} (r : RpL K G xs ds) : ∀ l : List Nat, RpL K G (l.filterMap (xs[·]?)) (l.filterMap (ds[·]?))
  | [] => .nil
  | i :: l => by
    have ih := rpl_pick r l
    rw [List.filterMap_cons, List.filterMap_cons]
    cases hx : ds[i]? with
    | none =>
      have h1 := r.length
      have h2 := List.getElem?_eq_none_iff.mp hx
      have : xs[i]? = none := List.getElem?_eq_none (by omega)
      rw [this]; exact ih
    | some d =>
      obtain ⟨v, hv, rv⟩ := r.get hx
      rw [hv]; exact .cons rv ih
section
variable {X : Cx} {e : Expr} {te : TE} {t : WE} {pos : Pos}
theorem pe_step {lo : Option Expr} {l : Option Int} {tl : TO} {k2 : Nat} {st : Int} {p2 p3 : Pos} (he : PE X e te) (hlo : PO X lo tl) (hl : ∀ σ H (Q : Option Int → Hp → Prop), Q l H → tl σ H Q) (h0 : st ≠ 0) : PE X (.Subscript e (.Slice lo none (some (.Constant (.int st) k2 p2)) p3) pos) (tStep X.K l st te) := by
  refine ⟨fun pins s σ H Q I h => ?_⟩
  refine Subscript_ (thn (he.run pins s σ H _ I h) fun v s1 ⟨x, H1, I1, r1, q1⟩ => ?_)
  obtain ⟨a, xs, ex, hx, hsz, q⟩ := q1
  subst ex
  cases r1
  have hst : PO X (some (.Constant (.int st) k2 p2)) (tPart (tC (.int st))) := po_some pe_int
  refine wpAny_Slice (thn (hlo.run pins s1 σ H1 (fun o H2 => o = l ∧ H2 = H1) I1 (hl _ _ _ ⟨rfl, rfl⟩)) fun vl s2 ⟨l', H2, I2, pl, el, e2⟩ => ?_)
  subst el e2
  refine thn (po_none.run pins s2 σ H2 (fun o H3 => o = none ∧ H3 = H2) I2 ⟨rfl, rfl⟩) fun vu s3 ⟨u, H3, I3, pu, eu, e3⟩ => ?_
  subst eu e3
  refine thn (hst.run pins s3 σ H3 (fun o H4 => o = some st ∧ H4 = H3) I3 ⟨st, rfl, rfl, rfl⟩) fun vs s4 ⟨o, H4, I4, ps, eo, e4⟩ => ?_
  subst eo e4
  have I5 : Inv X pins σ H4 { s4 with heap := s4.heap.push { cls := .type "slice", data := .fields #[vl, vu, vs] } } := I4.kept (t' := s4.toks) fun b ob q => Heap.get?_push_of_some _ q
  obtain ⟨its, r, ht, hz⟩ := I5.list hx
  have hlen := r.length
  show wpAny (model X.prog X.w) X.A (subscriptTail e (.Slice lo none (some (.Constant (.int st) k2 p2)) p3) (.ref a) (.ref s4.heap.objs.size)) (EP X pins σ Q) X.xe { s4 with heap := s4.heap.push { cls := .type "slice", data := .fields #[vl, vu, vs] } }
  refine tail_any (ops := [.ref a, .ref s4.heap.objs.size]) ht.isList.typeIs (PySem.slot_list_getitem.lookup) ?_ (by with_unfolding_all rfl)
  refine wpAny_getItem_list_slice ht.isList (Heap.IsSliceOf.new _ vl vu vs) pl pu ps (by simpa using h0) ?_ (by rw [List.size_toArray]; omega)
  have hp : slicePick its.toArray l' none (some st) = ((stepIx l' st xs.length).filterMap (its[·]?)).toArray := by
    unfold slicePick stepIx
    rw [List.size_toArray, ← hlen]
    simp
  rw [hp]
  refine ⟨.ref _, _, I5.laid (t' := s4.toks) (o := .lst (pickD l' st xs)) (fun b ob q => Heap.get?_push_of_some _ q) (Nat.le_refl _) ?_, rfl, q _ (I5.hok.fresh (Nat.le_refl _))⟩
  exact ⟨hsz, _, 0, vals_pick r _, Heap.get?_push_size _ rfl⟩
theorem snd_step {lo : Option Int} {st : Int} (h : SndE K te t) : SndE K (tStep K lo st te) (wStep lo st t) := fun b G ρ σ H Q R s hq k => by
  refine h b G ρ σ H _ _ s hq fun d kd ρ1 v G1 H1 q1 x1 s1 r1 => ?_
  split at q1
  · rename_i ds
    obtain ⟨p, vs, rfl, t1, l1⟩ := r1.ov s1
    have rp := rpl_pick l1 (stepIx lo st ds.length)
    have el : vs.length = ds.length := l1.length
    refine ⟨p, vs, rfl, .inl (.inl (hd_le _ _ t1)), ?_, fun q hp => ?_⟩
    · unfold pickD; rw [el, rp.length]; exact lim_le q1.1
    · refine (res_of s1 (fun d k' ρ' v G' H' q x s r => k d k' ρ' v G' H' q (x1.trans x) s (r.back x1.h)) q1.2).new q _ rfl hp ⟨_, upd_same, ?_⟩
      unfold pickD
      rw [el]; exact rp
  · exact q1.elim
theorem e_stepA {k1 k2 : Nat} {p1 p2 p3 : Pos} (lo st : Int) (he : SE X e te t) (h0 : st ≠ 0 := by decide) : SE X (.Subscript e (.Slice (some (.Constant (.int lo) k1 p1)) none (some (.Constant (.int st) k2 p2)) p3) pos) (tStep X.K (some lo) st te) (wStep (some lo) st t) :=
  ⟨pe_step he.pe (po_some pe_int) (fun σ H Q q => ⟨lo, rfl, q⟩) h0, snd_step he.snd⟩
theorem e_step0 {k2 : Nat} {p2 p3 : Pos} (st : Int) (he : SE X e te t) (h0 : st ≠ 0 := by decide) : SE X (.Subscript e (.Slice none none (some (.Constant (.int st) k2 p2)) p3) pos) (tStep X.K none st te) (wStep none st t) :=
  ⟨pe_step he.pe po_none (fun σ H Q q => q) h0, snd_step he.snd⟩
end
end VL

/-! VY5: dict(pairs) with keys that are tuples of ints and texts. -/
namespace VL
open PySem PySem.Spec PyProof.Rows L2
open Evl (Ex)
abbrev KX := List L2.Key × Addr × Value
def mgH (acc rest : List KX) : List KX := rest.foldl (fun acc q => storedH acc q.1 q.2.1 q.2.2) acc
theorem stH_len (xs : List KX) (k : List L2.Key) (a : Addr) (v : Value) : (storedH xs k a v).length ≤ xs.length + 1 := by
  unfold storedH
  split
  · rw [List.length_map]; omega
  · rw [List.length_append, List.length_cons, List.length_nil]; omega
theorem stH_mem {xs : List KX} {k : List L2.Key} {a : Addr} {v : Value} {x : KX} (h : x ∈ storedH xs k a v) : x.2.1 = a ∨ ∃ y ∈ xs, y.2.1 = x.2.1 := by
  unfold storedH at h
  split at h
  · obtain ⟨y, hy, rfl⟩ := List.mem_map.mp h
    refine .inr ⟨y, hy, ?_⟩
    unfold putAt
    split <;> rfl
  · rcases List.mem_append.mp h with h | h
    · exact .inr ⟨x, h, rfl⟩
    · rw [List.mem_singleton.mp h]; exact .inl rfl
section
variable {prog : Program} {w : World} {A : Around} {E : Value → Shared → Prop}
theorem tk_at {h h' : Heap} {ks : List L2.Key} {a : Addr} (x : (tupleKind (mixKind prog w)).is h ks a) (k : ∀ o, h.get? a = some o → h'.get? a = some o) : (tupleKind (mixKind prog w)).is h' ks a := by
  obtain ⟨o, items, n, ho, r⟩ := x
  exact ⟨o, items, n, k o ho, r⟩
theorem dh_at {h h' : Heap} {d : Addr} {xs : List KX} (x : h.DictOfH (tupleKind (mixKind prog w)) d xs) (kd : ∀ o, h.get? d = some o → h'.get? d = some o) (k : ∀ y ∈ xs, ∀ o, h.get? y.2.1 = some o → h'.get? y.2.1 = some o) : h'.DictOfH (tupleKind (mixKind prog w)) d xs := by
  obtain ⟨o, es, ep, ho, h1, h2, h3, h4, h5⟩ := x
  exact ⟨o, es, ep, kd o ho, h1, h2, h3, fun y hy => tk_at (h4 y hy) (k y hy), h5⟩
/-- the walk over the pairs -/
theorem upd_loopT {R : Result → Shared → Prop} {S I l : Addr} {items : Array Value} {res : Value} (hh : A.handled = none) (hu : A.units + 1 < cLine) (hlI : l ≠ I) (hSI : S ≠ I) (hSl : S ≠ l) :
    ∀ (rest : List KX) (i : Nat) (acc : List KX) (ix : Int) (t : Tok) (s : Shared), items.size = i + rest.length → acc.length + rest.length ≤ sizeLine → (∀ y ∈ acc, y.2.1 ≠ I) →
      (∀ (j : Nat) (q : KX), rest[j]? = some q → ∃ (b : Addr), items[i + j]? = some (.ref b) ∧ b ≠ S ∧ b ≠ I ∧ IsTup s.heap b #[.ref q.2.1, q.2.2] ∧ (tupleKind (mixKind prog w)).is s.heap q.1 q.2.1 ∧ q.2.1 ≠ S ∧ q.2.1 ≠ I) →
      s.heap.IsListIter I l i → s.heap.IsList l items → s.heap.DictOfH (tupleKind (mixKind prog w)) S acc →
      (∀ h' tk, h'.DictOfH (tupleKind (mixKind prog w)) S (mgH acc rest) → (∀ b o, b ≠ S → b ≠ I → s.heap.get? b = some o → h'.get? b = some o) → R (.ok (.ret res)) { s with heap := h', toks := tk }) →
      codeAny (model prog w) A (.builtin "dict.update.loop" ⟨[.ref S, .ref I, .int ix t, res], []⟩) R s
  | [], i, acc, ix, t, s, hsz, hln, hac, ht, hit, hl, hm, hR => by
    refine codeAny_builtin ud_entry ?_
    rw [Around.under_plainId ud_plain _]
    show wpAny _ A.in1 (pyNext (.ref I) >>= _) _ _ s
    refine wpAny_bind (wpAny_pyNext_list_end (A := A.in1) hh hit hl (by first | exact Array.getElem?_eq_none (Nat.le_of_eq hsz) | (simp at hsz; simp; omega)) fun h' he => ?_)
    show wpAny _ A.in1 (Builtin.Dict.addKeywords S [] >>= _) _ _ _
    refine wpAny_bind (wpAny_pure (wpAny_pure ?_))
    exact hR h' s.toks (dh_at hm (fun o e => he S o hSI e) fun y hy o e => he y.2.1 o (hac y hy) e) fun b o _ hb e => he b o hb e
  | q :: rest, i, acc, ix, t, s, hsz, hln, hac, ht, hit, hl, hm, hR => by
    obtain ⟨b, hb, hbS, hbI, htup, hk, hqS, hqI⟩ := ht 0 q rfl
    rw [List.length_cons] at hsz hln
    refine codeAny_builtin ud_entry ?_
    rw [Around.under_plainId ud_plain _]
    show wpAny _ A.in1 (pyNext (.ref I) >>= _) _ _ s
    refine wpAny_bind (wpAny_pyNext_list_item (x := .ref b) hit hl (by simpa using hb) fun h1 hit1 hs1 => ?_)
    have ht1 : IsTup h1 b #[.ref q.2.1, q.2.2] := htup.extBut hs1.extBut hbI
    have hl1 : h1.IsList l items := hl.extBut hs1.extBut hlI
    have hk1 : (tupleKind (mixKind prog w)).is h1 q.1 q.2.1 := tk_at hk fun o e => hs1.extBut _ o hqI e
    have hm1 : h1.DictOfH (tupleKind (mixKind prog w)) S acc := dh_at hm (fun o e => hs1.extBut S o hSI e) fun y hy o e => hs1.extBut _ o (hac y hy) e
    obtain ⟨o, ho, hc, n, hd⟩ := id ht1
    show wpAny _ A.in1 (holding [Value.ref b] _ >>= _) _ _ _
    refine wpAny_bind (wpAny_holding ?_)
    refine wpAny_bind (wpAny_tryCatch ?_)
    unfold Builtin.Dict.pairItems
    refine wpAny_bind (wpAny_typeOf (T := "tuple") ⟨o, ho, hc⟩ ?_)
    rw [if_pos (by first | decide | rfl | simp)]
    refine wpAny_bind (wpAny_seqItems ho hd (wpAny_pure ?_))
    show wpAny _ A.in1 (holding [.ref q.2.1, q.2.2] (dictSet S (.ref q.2.1) q.2.2)) _ _ _
    refine wpAny_holding (wpAny_dictSet_heap (knd := tupleKind (mixKind prog w)) (k := q.1) (show A.in1.units < cLine from hu) hk1 hm1 (fun h2 hm2 hs2 => ?_) (by omega))
    refine wpAny_pure ⟨plainId_quiet ud_plain _, upd_loopT (items := items) hh hu hlI hSI hSl rest (i + 1) (storedH acc q.1 q.2.1 q.2.2) (ix + 1) 0 _ (show items.size = i + 1 + rest.length by omega) ?_ (fun y hy => ?_) (fun j q' e => ?_) ?_ ?_ hm2 fun h' tk hd' k => ?_⟩
    · have z := stH_len acc q.1 q.2.1 q.2.2
      omega
    · rcases stH_mem hy with z | ⟨y', hy', z⟩
      · rw [z]; exact hqI
      · rw [← z]; exact hac y' hy'
    · obtain ⟨b', hb', hbS', hbI', htup', hk', hqS', hqI'⟩ := ht (j + 1) q' (by simpa using e)
      refine ⟨b', ?_, hbS', hbI', (htup'.extBut hs1.extBut hbI').extBut hs2.extBut hbS', tk_at (tk_at hk' fun o e => hs1.extBut _ o hqI' e) fun o e => hs2.extBut _ o hqS' e, hqS', hqI'⟩
      rw [show i + 1 + j = i + (j + 1) by omega]
      exact hb'
    · exact hit1.at fun o' e => hs2.extBut I o' (Ne.symm hSI) e
    · exact hl1.extBut hs2.extBut (Ne.symm hSl)
    · exact hR h' tk hd' fun c oc h3 h4 e => k c oc h3 h4 (hs2.extBut c oc h3 (hs1.extBut c oc h4 e))
theorem call_dict_pairsT {s : Shared} {l : Addr} {ol : Obj} {items : Array Value} {n : Nat} {prs : List KX} {Q : Value → Shared → Prop} (hh : A.handled = none) (hu : A.units + 3 < cLine) (hl : s.heap.get? l = some ol) (hc : ol.cls = .type "list") (hd : ol.dict = none)
    (hdat : ol.data = .seq items n) (hsz : items.size = prs.length) (hln : prs.length ≤ sizeLine)
    (ht : ∀ (j : Nat) (q : KX), prs[j]? = some q → ∃ (b : Addr), items[j]? = some (.ref b) ∧ IsTup s.heap b #[.ref q.2.1, q.2.2] ∧ (tupleKind (mixKind prog w)).is s.heap q.1 q.2.1)
    (h : ∀ h' tk, h'.DictOfH (tupleKind (mixKind prog w)) s.heap.objs.size (mgH [] prs) → (∀ b o, s.heap.get? b = some o → h'.get? b = some o) → Q (.ref s.heap.objs.size) { s with heap := h', toks := tk }) :
    wpAny (model prog w) A (call (.type "dict") [.ref l]) Q E s := by
  refine callType_codes (Q₁ := fun obj s₁ => obj = .ref s.heap.objs.size ∧ s₁ = { s with heap := s.heap.push { cls := .type "dict", data := .dict #[] } }) PySem.F.kt_called_dict (PySem.F.kt_typeCall_dict_1 _) PySem.F.entry_dict_init (kt_code_dict_new _ ⟨rfl, rfl⟩) ?_
  rintro obj s₁ ⟨rfl, rfl⟩
  have hnew : (s.heap.push { cls := .type "dict", data := .dict #[] }).DictOfH (tupleKind (mixKind prog w)) s.heap.objs.size [] := Heap.DictOfH.new s.heap
  have hnewT : (s.heap.push { cls := .type "dict", data := .dict #[] }).DictOf (mixKind prog w) s.heap.objs.size [] := Heap.DictOf.new s.heap
  have k0 : ∀ b o, s.heap.get? b = some o → (s.heap.push { cls := .type "dict", data := .dict #[] }).get? b = some o := fun b o e => Heap.get?_push_of_some _ e
  refine ⟨hnewT.typeIs, PySem.F.args_dict_init_2 _ _, ?_⟩
  unfold Builtin.«dict.__init__»
  refine wpAny_bind ?_
  unfold Builtin.Dict.selfAndRest
  refine wpAny_bind (wpAny_notOrdered_dict hnewT.typeIs ?_)
  show wpAny _ _ (pure (s.heap.objs.size, [Value.ref l])) _ _ _
  refine wpAny_pure ?_
  show wpAny _ _ (Builtin.Dict.updateFrom "dict.__init__" s.heap.objs.size (.ref l) [] .none) _ _ _
  unfold Builtin.Dict.updateFrom
  refine wpAny_bind (wpAny_typeOf (T := "list") ⟨ol, k0 _ _ hl, hc⟩ ?_)
  rw [if_pos (by first | decide | rfl | simp)]
  refine wpAny_bind (miss_list (k0 _ _ hl) hc hdat hd hh fun h1 tk1 hk1 => ?_)
  rw [if_pos (show (none : Option Value).isNone = true from rfl)]
  refine wpAny_bind (wpAny_rule ?_)
  have hl1 : h1.IsList l items := ⟨ol, hk1 _ _ (k0 _ _ hl), hc, n, hdat⟩
  have hS1 : s.heap.objs.size < h1.objs.size := by
    have e : (s.heap.push { cls := .type "dict", data := .dict #[] }).get? s.heap.objs.size = some { cls := .type "dict", data := .dict #[] } := Heap.get?_push_size _ rfl
    exact Heap.lt_size (hk1 _ _ e)
  refine wpAny_bind (wpAny_pyIter_list hl1 ?_)
  have k2 : ∀ b o, h1.get? b = some o → (h1.push { cls := .type "list_iterator", data := .fields #[.ref l, .int 0 0] }).get? b = some o := fun b o e => Heap.get?_push_of_some _ e
  have hlt : l < s.heap.objs.size := Heap.lt_size hl
  have key := upd_loopT (prog := prog) (w := w) (A := A.in1) (R := wants (fun r s₂ => r = .none ∧ Q (.ref s.heap.objs.size) s₂) E) (S := s.heap.objs.size) (I := h1.objs.size) (l := l) (items := items) (res := Value.none) hh (by have e : A.in1.units = A.units + 1 := rfl; rw [e]; omega)
    (Nat.ne_of_lt (Nat.lt_trans hlt hS1)) (Nat.ne_of_lt hS1) (Nat.ne_of_gt hlt) prs 0 [] 0 0
    { s with heap := h1.push { cls := .type "list_iterator", data := .fields #[.ref l, .int 0 0] }, toks := tk1 } (by rw [hsz, Nat.zero_add]) (by rw [List.length_nil, Nat.zero_add]; exact hln) (by simp)
    (fun j q e => by
      obtain ⟨b, e1, e2, e3⟩ := ht j q e
      have hb : b < s.heap.objs.size := e2.lt
      have hq : q.2.1 < s.heap.objs.size := by obtain ⟨o, _, _, ho, _⟩ := e3; exact Heap.lt_size ho
      exact ⟨b, by rw [Nat.zero_add]; exact e1, Nat.ne_of_lt hb, Nat.ne_of_lt (Nat.lt_trans hb hS1), e2.keeps fun c o z => k2 _ _ (hk1 _ _ (k0 _ _ z)), tk_at e3 fun o z => k2 _ _ (hk1 _ _ (k0 _ _ z)), Nat.ne_of_lt hq, Nat.ne_of_lt (Nat.lt_trans hq hS1)⟩)
    ⟨_, Heap.get?_push_size _ rfl, rfl, rfl⟩ (hl1.at fun o e => k2 _ _ e) (dh_at hnew (fun o e => k2 _ _ (hk1 _ _ e)) (by simp))
    (fun h' tk hd' k => ⟨rfl, h h' tk hd' fun b o e => k b o (Nat.ne_of_lt (Heap.lt_size e)) (Nat.ne_of_lt (Nat.lt_trans (Heap.lt_size e) hS1)) (k2 _ _ (hk1 _ _ (k0 _ _ e)))⟩)
  first
    | exact wpAny_pure ⟨plainId_quiet ud_plain _, key⟩
    | exact wpAny_bind (wpAny_pure (wpAny_pure ⟨plainId_quiet ud_plain _, key⟩))
end
def mgT (kvs more : List (List L2.Key × V)) : List (List L2.Key × V) := more.foldl (fun acc kv => putK acc kv.1 kv.2) kvs
theorem mgT_len : ∀ (more kvs : List (List L2.Key × V)), (mgT kvs more).length ≤ kvs.length + more.length
  | [], kvs => by show kvs.length ≤ kvs.length + 0; omega
  | p :: r, kvs => by
    have h1 := mgT_len r (putK kvs p.1 p.2)
    have h2 := length_putK kvs p.1 p.2
    show (mgT (putK kvs p.1 p.2) r).length ≤ _
    rw [List.length_cons]; omega
theorem kt_mg {H : Hp} : ∀ {more : List (List L2.Key × V)} {rs : List KX} {kvs : List (List L2.Key × V)} {xs : List KX}, KT H more rs → KT H kvs xs → KT H (mgT kvs more) (mgH xs rs) := by
  intro more rs kvs xs r
  induction r generalizing kvs xs with
  | nil => intro q; exact q
  | @cons p q ps qs h t ih =>
    intro z
    obtain ⟨h1, h2, h3⟩ := h
    have := z.put p.1 (b := q.2.1) (u := q.2.2) (y := p.2) h2 h3
    rw [h1] at this
    have g := ih this
    show KT H (mgT (putK kvs p.1 p.2) ps) (mgH (storedH xs q.1 q.2.1 q.2.2) qs)
    rw [h1]; exact g
section
variable {X : Cx}
/-- dict(xs) of a list of pairs (tuple of keys, value) -/
def rDictT (K : PySem.W.Frag) : List V → Hp → VK → Prop := fun xs H Q => ∃ (a : Addr) (ps : List Addr) (kvs : List (List L2.Key × V)), xs = [.ref a] ∧ SqL K H a (ps.map V.ref) ∧ Paired (fun p kv => ∃ b, H p = some (.tup [.ref b, kv.2]) ∧ H b = some (.tup (kv.1.map kV))) ps kvs ∧
    ∀ p, H p = none → Q (.ref p) (upd H p (.dT (mgT [] kvs)))
theorem pairs_ofT {pins : List (Addr × Obj)} {σ : L2.St} {H : Hp} {s : Shared} (I : Inv X pins σ H s) : ∀ {ps : List Addr} {kvs : List (List L2.Key × V)}, Paired (fun p kv => ∃ b, H p = some (.tup [.ref b, kv.2]) ∧ H b = some (.tup (kv.1.map kV))) ps kvs →
    ∃ prs : List KX, KT H kvs prs ∧ prs.length = ps.length ∧ ∀ (j : Nat) (q : KX), prs[j]? = some q → ∃ (b : Addr), ps[j]? = some b ∧ IsTup s.heap b #[.ref q.2.1, q.2.2] ∧ (tupleKind (mixKind X.prog X.w)).is s.heap q.1 q.2.1
  | _, _, .nil => ⟨[], .nil, rfl, fun j q e => by simp at e⟩
  | _, _, .cons (a := p) (b := kv) h t => by
    obtain ⟨prs, r, hl, hp⟩ := pairs_ofT I t
    obtain ⟨b, h1, h2⟩ := h
    obtain ⟨its, rv, ht, _⟩ := I.tuple (.inl (.inl h1))
    obtain ⟨u, y, ei, ru, ry⟩ := vals2 rv
    subst ei
    cases (show u = Value.ref b from ru)
    refine ⟨(kv.1, b, y) :: prs, .cons ⟨rfl, h2, ry⟩ r, by rw [List.length_cons, List.length_cons, hl], fun j q e => ?_⟩
    cases j with
    | zero =>
      have e' : (kv.1, b, y) = q := Option.some.inj e
      subst e'
      exact ⟨p, rfl, ht, key_of I.hok h2⟩
    | succ j =>
      obtain ⟨b, e1, e2, e3⟩ := hp j q (by simpa using e)
      exact ⟨b, by simpa using e1, e2, e3⟩
theorem call_dictT (hcalm : X.calm = true) (hu : X.A.units + 3 < cLine) : CallR X (.type "dict") (rDictT X.K) := by
  intro pins s σ H xs us Q I r q
  obtain ⟨a, ps, kvs, ex, hq, hp, q⟩ := q
  subst ex
  obtain ⟨u, eu, rx⟩ := vals1 r
  subst eu
  cases rx
  obtain ⟨its, rv, pl, hz⟩ := I.list hq
  have ei := refs_at rv
  subst ei
  rw [List.length_map] at hz
  obtain ⟨prs, rel, hl, hpr⟩ := pairs_ofT I hp
  obtain ⟨o, n, ho, hc, hd, hdat⟩ := pl
  have hkl : kvs.length = prs.length := Paired.length rel
  refine call_dict_pairsT (prs := prs) (I.ok.hd hcalm) hu ho hc hd hdat (by simp [hl]) (by rw [hl]; exact hz) (fun j q' e => ?_) fun h' tk hd' k => ?_
  · obtain ⟨b, e1, e2, e3⟩ := hpr j q' e
    exact ⟨b, by simp [e1], e2, e3⟩
  · have hm : (s.heap.objs.size == sysModules) = false := beq_eq_false_iff_ne.mpr (Nat.ne_of_gt I.big)
    have hlen : (mgT [] kvs).length ≤ sizeLine := by
      refine Nat.le_trans (mgT_len kvs []) ?_
      rw [List.length_nil, Nat.zero_add, hkl, hl]
      exact hz
    have hfr : H s.heap.objs.size = none := I.hok.fresh (Nat.le_refl _)
    obtain ⟨od, es, ep, g1, g2, g3, g4, _, g5⟩ := hd'
    exact ⟨.ref s.heap.objs.size, upd H s.heap.objs.size (.dT (mgT [] kvs)), I.laid (t' := tk) k (Nat.le_refl _) (show ObjOk X.prog X.w _ _ _ (.dT (mgT [] kvs)) from ⟨hlen, hm, mgH [] prs, (kt_mg rel .nil).keeps (fun c ys ec => by
      rw [upd_ne (fun z => by subst z; rw [hfr] at ec; cases ec)]
      exact ec), od, es, ep, g1, g2, g3, g4, g5⟩), rfl, q _ hfr⟩
end
/-! ### its reading -/
variable {K : PySem.W.Frag}
def prsT : List D → Option (List (List L2.Key × D))
  | [] => some []
  | .tup [.tup ks, v] :: r => match keysOf ks, prsT r with
    | some key, some l => some ((key, v) :: l)
    | _, _ => none
  | _ => none
def mgTD (kvs more : List (List L2.Key × D)) : List (List L2.Key × D) := more.foldl (fun acc kv => putD acc kv.1 kv.2) kvs
theorem RpT.mg {G : Hp} : ∀ {more : List (List L2.Key × V)} {em : List (List L2.Key × D)} {kvs : List (List L2.Key × V)} {es : List (List L2.Key × D)}, RpT K G more em → RpT K G kvs es → RpT K G (mgT kvs more) (mgTD es em)
  | _, _, _, _, .nil, h => h
  | _, _, kvs, es, .cons (k := k) (v := v) (d := d) (vs := vs) (ds := ds) a r, h => by
    show RpT K G (mgT (putK kvs k v) vs) (mgTD (putD es k d) ds)
    exact RpT.mg r (h.put a)
theorem prsT_v {G H : Hp} (e : Ex G H) : ∀ {ds : List D} {vs : List V} {es : List (List L2.Key × D)}, RpL K G vs ds → prsT ds = some es → ∃ (ps : List Addr) (kvs : List (List L2.Key × V)), vs = ps.map V.ref ∧ Paired (fun p kv => ∃ b, H p = some (.tup [.ref b, kv.2]) ∧ H b = some (.tup (kv.1.map kV))) ps kvs ∧ RpT K G kvs es
  | [], _, _, .nil, h => by cases h; exact ⟨[], [], rfl, .nil, .nil⟩
  | d :: ds, _, es, .cons a r, h => by
    unfold prsT at h
    split at h
    · rename_i heq; cases heq
    · rename_i k v r' heq
      obtain ⟨rfl, rfl⟩ := List.cons.inj heq
      split at h
      · rename_i key l hk hl
        cases h
        obtain ⟨ps, kvs, rfl, h2, h3⟩ := prsT_v e r hl
        cases a with
        | tup t rr =>
          cases rr with
          | cons a1 r1 => cases r1 with
            | cons a2 r2 =>
              cases r2
              cases a1 with
              | tup t1 l1 =>
                obtain rfl := keys_v l1 hk
                exact ⟨_ :: ps, (key, _) :: kvs, rfl, .cons ⟨_, e _ _ t, e _ _ t1⟩ h2, .cons a2 h3⟩
      · cases h
    · cases h
def cDictT : List D → Oz
  | [.lst ds] => (prsT ds).map fun es => (.dt (mgTD [] es), .nw)
  | _ => none
theorem snd_cDictT : ClS K (rDictT K) cDictT := fun G B H vs ds z k R g g2 o hf r => by
  unfold cDictT at hf
  split at hf
  · rename_i ds
    cases o with
    | cons o1 o2 =>
      cases o2
      obtain ⟨a, us, rfl, t, l⟩ := o1
      cases hb : prsT ds with
      | none => rw [hb] at hf; cases hf
      | some es =>
        rw [hb] at hf; cases hf
        obtain ⟨ps, kvs, rfl, h2, h3⟩ := prsT_v (g.trans g2) l hb
        exact ⟨a, ps, kvs, rfl, .inl (.inl (g2 _ _ t)), h2, fun p hp => r.new p _ rfl hp ⟨_, upd_same, RpT.mg h3 .nil⟩⟩
  · cases hf
theorem c_dictT {X : Cx} {e : Expr} {es : List Expr} {pos pp : Pos} {xa : TA} {x : WA} {k : Nat} (hr : Room k X.A) (hm : X.mg "dict" = none) (ha : SO X (e :: es) xa x) (hg : Gl X "dict" := by rfl) (he : starEach (e :: es) X.env = (false, eval e X.env) :: starEach es X.env := by rfl) (hpl : (backTo pos (starEach es X.env)).any (·.1) = false := by rfl) (hc : X.calm = true := by rfl) :
    SE X (.Call (.Name "dict" pp) (e :: es) [] pos) (tCB (rDictT X.K) xa) (wCl cDictT x) :=
  e_callT (call_dictT hc (by have := u64 hr; omega)) snd_cDictT hm (by decide +kernel) ha hg (by decide) (by decide) he hpl
end VL

/-! VY6: comprehensions with two clauses (what the second walks is frozen ahead). -/
namespace VL
open PySem PySem.Spec PyProof.Rows L2
open Evl (Ex)
variable {K : PySem.W.Frag}
def inL (g1 : WG) (tt1 : WT) (t : WE) (vs1 : List Nat) : List D → List D → Rho → (List D → Rho → Prop) → Prop
  | [], acc, ρ, Q => Q acc ρ
  | y :: r, acc, ρ, Q => g1 y ρ fun ρ1 => tt1 ρ1 fun c ρ2 => if c = true then t ρ2 (toF fun d ρ3 => acc.length < LIM ∧ inL g1 tt1 t vs1 r (acc ++ [d]) (wipeR ρ3 vs1) Q) else inL g1 tt1 t vs1 r acc (wipeR ρ2 vs1) Q
def outL (g : WG) (tt : WT) (wi1 : WI) (g1 : WG) (tt1 : WT) (t : WE) (vs vs1 : List Nat) : List D → List D → Rho → (List D → Rho → Prop) → Prop
  | [], acc, ρ, Q => Q acc ρ
  | x :: r, acc, ρ, Q => g x ρ fun ρ1 => tt ρ1 fun c ρ2 => if c = true then wi1 ρ2 fun ys ρ3 => inL g1 tt1 t vs1 ys acc (wipeR ρ3 vs1) fun acc2 ρ4 => outL g tt wi1 g1 tt1 t vs vs1 r acc2 (wipeR ρ4 vs) Q
      else outL g tt wi1 g1 tt1 t vs vs1 r acc (wipeR ρ2 vs) Q
def wComp2 (wi : WI) (g : WG) (tt : WT) (wi1 : WI) (g1 : WG) (tt1 : WT) (t : WE) (vs vs1 : List Nat) : WE := fun ρ Q => wi ρ fun xs ρ1 => outL g tt wi1 g1 tt1 t vs vs1 xs [] (wipeR ρ1 vs) fun ds ρ2 => Q (.lst ds) .nw (restR ρ1 ρ2 vs)
/-- what holds all the way: from the base (ρ0, σ0, G1, H1) on, the new list at D -/
structure Big (K : PySem.W.Frag) (b : Bs) (ρ0 : Rho) (σ0 : L2.St) (G1 H1 : Hp) (Dl : Addr) (ρ : Rho) (σ : L2.St) (G H : Hp) (va : List V) (acc : List D) : Prop where
  sim : Sim K b G ρ σ H
  xg : Ex G1 G
  xh : Ex (hd b.aw H1) (hd b.aw H)
  new : ∀ a o, hd b.aw H1 a = some o → G1 a = none → ¬ Own ρ0 σ0 a → G a = none
  own : ∀ (i : Nat) (d : D), ρ[i]? = some (.ow d) → ρ0[i]? = some (.ow d) ∧ σ[i]? = σ0[i]?
  hD : H Dl = some (.lst va)
  ra : RpL K G va acc
  gD : G Dl = none
section
variable {b : Bs} {ρ0 ρ ρ' : Rho} {σ0 σ σ' : L2.St} {G1 H1 G H G' H' : Hp} {Dl : Addr} {va : List V} {acc : List D}
theorem Big.base {ρb : Rho} {σb : L2.St} (s : Sim K b G1 ρb σb H1) (hD : H1 Dl = none) : Big K b ρb σb G1 H1 Dl ρb σb G1 (upd H1 Dl (.lst [])) [] [] :=
  ⟨s.laid hD, Ex.refl _, hd_new hD, fun _ _ _ h _ => h, fun _ _ h => ⟨h, rfl⟩, upd_same, .nil, s.fresh hD⟩
theorem Big.noD (B : Big K b ρ0 σ0 G1 H1 Dl ρ σ G H va acc) (s0 : Sim K b G1 ρ0 σ0 H1) (hD : H1 Dl = none) (i : Nat) (d : D) (e : ρ[i]? = some (.ow d)) : σ[i]? ≠ some (some (.ref Dl)) := fun z => by
  obtain ⟨e1, e2⟩ := B.own i d e
  obtain ⟨a, c1, c2, c3, c4, c5⟩ := s0.ow i d e1
  rw [e2] at z
  rw [z] at c1; cases c1
  exact c5.known hD
theorem Big.step (B : Big K b ρ0 σ0 G1 H1 Dl ρ σ G H va acc) (s0 : Sim K b G1 ρ0 σ0 H1) (hD : H1 Dl = none) (hw : b.aw ≠ some Dl) (x : Xt b ρ σ G H ρ' G' H') (s : Sim K b G' ρ' σ H') : Big K b ρ0 σ0 G1 H1 Dl ρ' σ G' H' va acc := by
  have nD : ¬ Own ρ σ Dl := fun ⟨i, d, z1, z2⟩ => B.noD s0 hD i d z1 z2
  have hDh : hd b.aw H Dl = some (.lst va) := by rw [hd_ne hw]; exact B.hD
  refine ⟨s, B.xg.trans x.g, B.xh.trans x.h, fun a o e n no => x.new a o (B.xh a o e) (B.new a o e n no) fun ⟨i, d, z1, z2⟩ => no ?_, fun i d e => B.own i d (x.own i d e), (hd_some (x.h Dl _ hDh)).2, B.ra.mono x.g, x.new Dl _ hDh B.gD nD⟩
  obtain ⟨c1, c2⟩ := B.own i d z1
  exact ⟨i, d, c1, by rw [← c2]; exact z2⟩
theorem Big.tgt (B : Big K b ρ0 σ0 G1 H1 Dl ρ σ G H va acc) (p : GPost K b G H ρ σ ρ' σ') : Big K b ρ0 σ0 G1 H1 Dl ρ' σ' G H va acc :=
  ⟨p.1, B.xg, B.xh, B.new, fun i d e => by
    obtain ⟨c1, c2⟩ := p.2 i d e
    obtain ⟨c3, c4⟩ := B.own i d c1
    exact ⟨c3, c2.trans c4⟩, B.hD, B.ra, B.gD⟩
theorem Big.wipe (B : Big K b ρ0 σ0 G1 H1 Dl ρ σ G H va acc) (vs : List Nat) : Big K b ρ0 σ0 G1 H1 Dl (wipeR ρ vs) (L2.wipe σ vs) G H va acc :=
  ⟨B.sim.wipe vs, B.xg, B.xh, B.new, fun i d e => by
    rw [wipeR_get] at e
    split at e
    · cases e
    · rename_i hn
      have hl : i < ρ.length := (List.getElem?_eq_some_iff.mp e).1
      rw [wipe_get, if_neg fun z => hn ⟨z.1, hl⟩]
      exact B.own i d e, B.hD, B.ra, B.gD⟩
theorem Big.app (B : Big K b ρ0 σ0 G1 H1 Dl ρ σ G H va acc) (s0 : Sim K b G1 ρ0 σ0 H1) (hD : H1 Dl = none) (hw : b.aw ≠ some Dl) (h0 : b.B0 Dl = none) {v : V} {d : D} (r : Rp K G v d) : Big K b ρ0 σ0 G1 H1 Dl ρ σ G (upd H Dl (.lst (va ++ [v]))) (va ++ [v]) (acc ++ [d]) := by
  refine ⟨B.sim.poke hw h0 B.gD (B.noD s0 hD), B.xg, fun a o e => ?_, B.new, B.own, upd_same, B.ra.append (.cons r .nil), B.gD⟩
  rw [hd_upd hw, upd_ne (fun z => by subst z; rw [hd_none hD] at e; cases e)]
  exact B.xh a o e
end
theorem wipe_wipe {σ : L2.St} {vs vs1 : List Nat} (h : ∀ i ∈ vs1, i ∈ vs) : L2.wipe (L2.wipe σ vs1) vs = L2.wipe σ vs := by
  apply List.ext_getElem?
  intro j
  rw [wipe_get (L2.wipe σ vs1) j vs, wipe_get σ j vs1, wipe_get σ j vs, wipe_length]
  by_cases hj : j ∈ vs ∧ j < σ.length
  · rw [if_pos hj, if_pos hj]
  · rw [if_neg hj, if_neg hj, if_neg fun z => hj ⟨h j z.1, z.2⟩]
theorem snd_comp2 {wi wi1 : TI} {t t1 : WI} {tg tg1 : TG} {g g1 : WG} {tt tt1 : TT} {c c1 : WT} {te : TE} {w : WE} {vs vs1 : List Nat} (hi : SndIO K wi t) (hg : SndG K tg g) (hin : TgIn tg vs) (hc : SndT K tt c) (hi1 : SndIF K wi1 t1) (hg1 : SndG K tg1 g1) (hin1 : TgIn tg1 vs1) (hc1 : SndT K tt1 c1) (he : SndE K te w) (hv : ∀ i ∈ vs1, i ∈ vs) :
    SndE K (tLc2 wi tg tt wi1 tg1 tt1 te vs vs1) (wComp2 t g c t1 g1 c1 w vs vs1) := by
  intro b G ρ σ H Q R s hq k
  refine hi b G ρ σ H _ _ s hq fun xs ρ1 J G1 H1 q1 x1 s1 wk Dl hD => ?_
  have hwD := s1.aw_ne hD
  have h0D := s1.fresh0 hD
  have hfD : hd b.aw H1 Dl = none := hd_none hD
  have s0 := s1.wipe vs
  let Qc : List D → Rho → Prop := fun ds ρ2 => Q (.lst ds) .nw (restR ρ1 ρ2 vs)
  refine ⟨fun i m H => m = xs.length - i ∧ i ≤ xs.length ∧ ∃ G2 ρ2 va acc, Big K b (wipeR ρ1 vs) (L2.wipe σ vs) G1 H1 Dl ρ2 (L2.wipe σ vs) G2 H va acc ∧ outL g c t1 g1 c1 w vs vs1 (xs.drop i) acc ρ2 Qc,
    ⟨_, rfl, Nat.zero_le _, G1, wipeR ρ1 vs, [], [], Big.base s0 hD, q1⟩, ?_⟩
  rintro i m H2 ⟨rfl, hi2, G2, ρ2, va, acc, B2, q2⟩
  have e12 : Ex (hd b.aw H1) H2 := B2.xh.trans hd_le
  obtain ⟨w1, w2⟩ := wk G2 H2 i B2.xg e12 B2.sim.le
  by_cases hlt : i < xs.length
  · obtain ⟨go, yl⟩ := w1 xs[i] (List.getElem?_eq_getElem hlt)
    rw [List.drop_eq_getElem_cons hlt] at q2
    let Nx : Hp → Prop := fun H' => ∃ G' ρ' va acc, Big K b (wipeR ρ1 vs) (L2.wipe σ vs) G1 H1 Dl ρ' (L2.wipe σ vs) G' H' va acc ∧ outL g c t1 g1 c1 w vs vs1 (xs.drop (i + 1)) acc ρ' Qc
    refine .inr ⟨go, Nx, fun H' ⟨G', ρ', va, acc, a1⟩ => ⟨xs.length - (i + 1), by omega, rfl, hlt, G', ρ', va, acc, a1⟩, fun x H' y => ?_⟩
    refine yl_go B2.sim (yl x H' y) fun G3 g3 x3 s3 r3 => ?_
    have B3 := B2.step s0 hD hwD x3 s3
    have q2 : g xs[i] ρ2 fun ρ1 => c ρ1 fun c' ρ2 => if c' = true then t1 ρ2 fun ys ρ3 => inL g1 c1 w vs1 ys acc (wipeR ρ3 vs1) fun acc2 ρ4 => outL g c t1 g1 c1 w vs vs1 (xs.drop (i + 1)) acc2 (wipeR ρ4 vs) Qc
      else outL g c t1 g1 c1 w vs vs1 (xs.drop (i + 1)) acc (wipeR ρ2 vs) Qc := q2
    have hww : L2.wipe (L2.wipe σ vs) vs = L2.wipe σ vs := wipe_wipe fun _ h => h
    refine hin x (L2.wipe σ vs) (L2.wipe σ vs) H' (fun σ' H'' => L2.wipe σ' vs = L2.wipe σ vs → tt σ' H'' fun b H3 => if b = true then wi1 σ' H3 fun J1 H4 => ∃ W1 : Nat → Nat → Hp → Prop, (∃ m, W1 0 m H4) ∧ ∀ j k H, W1 j k H →
      (J1.stop j H ∧ Nx H) ∨ (J1.go j H ∧ ∃ Nx1 : Hp → Prop, (∀ H', Nx1 H' → ∃ k', k' < k ∧ W1 (j + 1) k' H') ∧ ∀ x H', J1.yld j H x H' → tg1 x (L2.wipe σ' vs1) H' fun σ3 H5 => L2.wipe σ3 vs1 = L2.wipe σ' vs1 ∧ tt1 σ3 H5 fun b H6 =>
        if b = true then te σ3 H6 fun y H7 => ∃ acc, H7 Dl = some (.lst acc) ∧ acc.length < sizeLine ∧ Nx1 (upd H7 Dl (.lst (acc ++ [y]))) else Nx1 H6)
      else Nx H3) _ hww (fun σ' H'' e' q' => ⟨e', q' e'⟩) ?_
    refine hg b G3 ρ2 (L2.wipe σ vs) H' x _ _ _ s3 r3 q2 fun ρ4 σ4 q4 p4 ew => ?_
    have B4 := B3.tgt p4
    refine hc b G3 ρ4 σ4 H' _ _ p4.1 q4 fun c' ρ5 G5 H5 q5 x5 s5 => ?_
    have B5 := B4.step s0 hD hwD x5 s5
    cases c' with
    | false =>
      refine iteF ?_
      have := B5.wipe vs
      rw [ew] at this
      exact ⟨G5, wipeR ρ5 vs, va, acc, this, q5⟩
    | true =>
      refine iteT ?_
      refine hi1 b G5 ρ5 σ4 H5 _ _ s5 q5 fun ys ρ6 J1 G6 H6 q6 x6 s6 wk1 => ?_
      have B6 := B5.step s0 hD hwD x6 s6
      let Qi : List D → Rho → Prop := fun acc2 ρ4 => outL g c t1 g1 c1 w vs vs1 (xs.drop (i + 1)) acc2 (wipeR ρ4 vs) Qc
      refine ⟨fun j m H => m = ys.length - j ∧ j ≤ ys.length ∧ ∃ G' ρ' va acc, Big K b (wipeR ρ1 vs) (L2.wipe σ vs) G1 H1 Dl ρ' (L2.wipe σ4 vs1) G' H va acc ∧ Ex G6 G' ∧ inL g1 c1 w vs1 (ys.drop j) acc ρ' Qi,
        ⟨_, rfl, Nat.zero_le _, G6, wipeR ρ6 vs1, va, acc, B6.wipe vs1, Ex.refl _, q6⟩, ?_⟩
      rintro j m H7 ⟨rfl, hj2, G7, ρ7, va7, acc7, B7, g67, q7⟩
      obtain ⟨v1, v2⟩ := wk1 G7 H7 j g67 (g67.trans B7.sim.le) B7.sim.le
      by_cases hjl : j < ys.length
      · obtain ⟨go1, yl1⟩ := v1 ys[j] (List.getElem?_eq_getElem hjl)
        rw [List.drop_eq_getElem_cons hjl] at q7
        let Nx1 : Hp → Prop := fun H' => ∃ G' ρ' va acc, Big K b (wipeR ρ1 vs) (L2.wipe σ vs) G1 H1 Dl ρ' (L2.wipe σ4 vs1) G' H' va acc ∧ Ex G6 G' ∧ inL g1 c1 w vs1 (ys.drop (j + 1)) acc ρ' Qi
        refine .inr ⟨go1, Nx1, fun H' ⟨G', ρ', va, acc, a1⟩ => ⟨ys.length - (j + 1), by omega, rfl, hjl, G', ρ', va, acc, a1⟩, fun x H' y => ?_⟩
        refine yl_go B7.sim (yl1 x H' y) fun G8 g8 x8 s8 r8 => ?_
        have B8 := B7.step s0 hD hwD x8 s8
        have q7 : g1 ys[j] ρ7 fun ρ1 => c1 ρ1 fun c' ρ2 => if c' = true then w ρ2 (toF fun d ρ3 => acc7.length < LIM ∧ inL g1 c1 w vs1 (ys.drop (j + 1)) (acc7 ++ [d]) (wipeR ρ3 vs1) Qi) else inL g1 c1 w vs1 (ys.drop (j + 1)) acc7 (wipeR ρ2 vs1) Qi := q7
        have hww1 : L2.wipe (L2.wipe σ4 vs1) vs1 = L2.wipe σ4 vs1 := wipe_wipe fun _ h => h
        refine hin1 x (L2.wipe σ4 vs1) (L2.wipe σ4 vs1) H' (fun σ3 H5 => L2.wipe σ3 vs1 = L2.wipe σ4 vs1 → tt1 σ3 H5 fun b H6 =>
          if b = true then te σ3 H6 fun y H7 => ∃ acc, H7 Dl = some (.lst acc) ∧ acc.length < sizeLine ∧ Nx1 (upd H7 Dl (.lst (acc ++ [y]))) else Nx1 H6) _ hww1 (fun σ' H'' e' q' => ⟨e', q' e'⟩) ?_
        refine hg1 b G8 ρ7 (L2.wipe σ4 vs1) H' x _ _ _ s8 r8 q7 fun ρ9 σ9 q9 p9 ew9 => ?_
        have B9 := B8.tgt p9
        refine hc1 b G8 ρ9 σ9 H' _ _ p9.1 q9 fun c' ρa Ga Ha qa xa sa => ?_
        have Ba := B9.step s0 hD hwD xa sa
        cases c' with
        | false =>
          refine iteF ?_
          have := Ba.wipe vs1
          rw [ew9] at this
          exact ⟨Ga, wipeR ρa vs1, va7, acc7, this, (g67.trans g8).trans xa.g, qa⟩
        | true =>
          refine iteT ?_
          refine he b Ga ρa σ9 Ha _ _ sa qa fun d kd ρb v Gb Hb qb xb sb rb => ?_
          refine frozen (R := fun v H' => ∃ acc, H' Dl = some (.lst acc) ∧ acc.length < sizeLine ∧ Nx1 (upd H' Dl (.lst (acc ++ [v])))) qb xb sa sb rb fun d ρc v Gc qc xc sc rc => ?_
          have Bc := Ba.step s0 hD hwD xc sc
          have Bd := (Bc.app s0 hD hwD h0D rc).wipe vs1
          rw [ew9] at Bd
          exact ⟨va7, Bc.hD, by rw [Bc.ra.length]; exact lim_lt qc.1, Gc, wipeR ρc vs1, va7 ++ [v], acc7 ++ [d], Bd, ((g67.trans g8).trans xa.g).trans xc.g, qc.2⟩
      · have ei : j = ys.length := by omega
        subst ei
        rw [List.drop_length] at q7
        refine .inl ⟨v2 (Nat.le_refl _), ?_⟩
        have B8 := B7.wipe vs
        rw [wipe_wipe hv, ew] at B8
        exact ⟨G7, wipeR ρ7 vs, va7, acc7, B8, q7⟩
  · have ei : i = xs.length := by omega
    subst ei
    rw [List.drop_length] at q2
    refine .inl ⟨w2 (Nat.le_refl _), ?_⟩
    have q2 : Q (.lst acc) .nw (restR ρ1 ρ2 vs) := q2
    have s2 := B2.sim
    have x2 : Xt b (wipeR ρ1 vs) (L2.wipe σ vs) G1 H1 ρ2 G2 H2 := ⟨B2.xg, B2.xh, B2.new, fun i d e => (B2.own i d e).1⟩
    have hl : ρ1.length = ρ2.length := by rw [s1.len, s2.len, wipe_length]
    have hg2 : ∀ (j : Nat) (x : Slot), (restR ρ1 ρ2 vs)[j]? = some x → (j ∈ vs ∧ ρ1[j]? = some x) ∨ (j ∉ vs ∧ ρ2[j]? = some x ∧ (L2.wipe σ vs)[j]? = σ[j]?) := fun j x e => by
      rw [restR_get ρ1 ρ2 hl] at e
      by_cases hj : j ∈ vs
      · rw [if_pos hj] at e; exact .inl ⟨hj, e⟩
      · rw [if_neg hj] at e; exact .inr ⟨hj, e, by rw [wipe_get, if_neg fun z => hj z.1]⟩
    have own1 : ∀ (j : Nat) (d : D), (restR ρ1 ρ2 vs)[j]? = some (.ow d) → ρ1[j]? = some (.ow d) := fun j d e => by
      rcases hg2 j _ e with ⟨_, h⟩ | ⟨hj, h, _⟩
      · exact h
      · have := x2.own j d h
        rw [wipeR_get] at this
        split at this
        · cases this
        · exact this
    have sR : Sim K b G2 (restR ρ1 ρ2 vs) σ H2 := by
      refine ⟨by rw [restR_len, s2.len, wipe_length], s2.sub, s2.g0, s2.b0, s2.new, fun j d e => ?_, fun j d e => ?_, fun j k' d e v hne e1 e2 e3 e4 => s1.dj j k' d e v hne (own1 j d e1) (own1 k' e e2) e3 e4, fun j e => ?_, s2.wk⟩
      · rcases hg2 j _ e with ⟨_, h⟩ | ⟨hj, h, hs⟩
        · obtain ⟨v, e1, r⟩ := s1.fz j d h
          exact ⟨v, e1, r.mono x2.g⟩
        · obtain ⟨v, e1, r⟩ := s2.fz j d h
          exact ⟨v, by rw [← hs]; exact e1, r⟩
      · rcases hg2 j _ e with ⟨hj, h⟩ | ⟨hj, h, hs⟩
        · obtain ⟨a, e1, e2, e3, e4, e5⟩ := s1.ow j d h
          obtain ⟨o, ho, _⟩ := e5.there
          have ho1 : hd b.aw H1 a = some o := by rw [hd_ne e2]; exact ho
          refine ⟨a, e1, e2, e3, x2.new a o ho1 e4 fun z => ?_, e5.mono x2.g fun u hu => ?_⟩
          · obtain ⟨j', d', z1, z2⟩ := z
            rw [wipeR_get] at z1
            split at z1
            · cases z1
            · rename_i hn
              have hl' : j' < ρ1.length := (List.getElem?_eq_some_iff.mp z1).1
              have hn' : j' ∉ vs := fun z => hn ⟨z, hl'⟩
              rw [wipe_get, if_neg fun z => hn' z.1] at z2
              exact s1.dj j' j d' d _ (fun z => hn' (z ▸ hj)) z1 h z2 e1
          · exact (hd_some (x2.h a u (by rw [hd_ne e2]; exact hu))).2
        · obtain ⟨a, e1, e2⟩ := s2.ow j d h
          exact ⟨a, by rw [← hs]; exact e1, e2⟩
      · rcases hg2 j _ e with ⟨_, h⟩ | ⟨hj, h, hs⟩
        · exact s1.ws j h
        · obtain ⟨a, e1, e2⟩ := s2.ws j h
          exact ⟨a, e1, by rw [← hs]; exact e2⟩
    have xR : Xt b ρ1 σ G1 H1 (restR ρ1 ρ2 vs) G2 H2 := ⟨x2.g, x2.h, fun a o e n no => x2.new a o e n fun z => no (own_wipe z), own1⟩
    refine k _ .nw _ (.ref Dl) G2 H2 q2 (x1.trans xR) sR ⟨Dl, rfl, ?_, hwD, B2.gD, va, B2.hD, B2.ra⟩
    exact Evl.fresh_back x1.h hfD
section
variable {X : Cx} {elt tg iter tg1 iter1 : Expr} {ifs ifs1 : List Expr} {scope : Scope} {pos : Pos} {wi : TI} {i i1 : WI} {wi1 : P5 TI} {tgt tgt1 : P5 TG} {g g1 : WG} {tt' tt1 : P5 TT} {p p1 : WT} {te' : P5 TE} {t : WE}
theorem e_comp2 (own : List (Str × Nat)) (vs1 : List Nat) (hN : X.N.Nodup) (hi : SIO X tg iter wi i) (ok : BlkOk X.N X.env.scope scope own)
    (hg : ∀ s H C cl fp, SG (X.blk s H scope (compEnvC scope cl C X.env) fp) tg (tgt s H C cl fp) g) (hin : TgIn (one5 X tgt) (own.map (·.2))) (ht : ∀ s H C cl fp, STs (X.blk s H scope (compEnvC scope cl C X.env) fp) ifs (tt' s H C cl fp) p)
    (hi1 : ∀ s H C cl fp, SIF (X.blk s H scope (compEnvC scope cl C X.env) fp) tg1 iter1 (wi1 s H C cl fp) i1)
    (hg1 : ∀ s H C cl fp, SG (X.blk s H scope (compEnvC scope cl C X.env) fp) tg1 (tgt1 s H C cl fp) g1) (hin1 : TgIn (one5 X tgt1) vs1) (ht1 : ∀ s H C cl fp, STs (X.blk s H scope (compEnvC scope cl C X.env) fp) ifs1 (tt1 s H C cl fp) p1)
    (he : ∀ s H C cl fp, SE (X.blk s H scope (compEnvC scope cl C X.env) fp) elt (te' s H C cl fp) t) (hv : ∀ i ∈ vs1, i ∈ own.map (·.2) := by decide)
    (hc : X.calm = true := by rfl) (hs : ∀ x, foldedSetIterable iter X.env x = pure x := by intro _; rfl) (hs1 : ∀ env x, foldedSetIterable iter1 env x = pure x := by intro _ _; rfl)
    (h1 : ∀ s H C cl fp, tgt s H C cl fp = one5 X tgt := by intro _ _ _ _ _; rfl) (h2 : ∀ s H C cl fp, tt' s H C cl fp = one5 X tt' := by intro _ _ _ _ _; rfl) (h3 : ∀ s H C cl fp, te' s H C cl fp = one5 X te' := by intro _ _ _ _ _; rfl)
    (h4 : ∀ s H C cl fp, wi1 s H C cl fp = one5 X wi1 := by intro _ _ _ _ _; rfl) (h5 : ∀ s H C cl fp, tgt1 s H C cl fp = one5 X tgt1 := by intro _ _ _ _ _; rfl) (h6 : ∀ s H C cl fp, tt1 s H C cl fp = one5 X tt1 := by intro _ _ _ _ _; rfl) :
    SE X (.ListComp elt [⟨tg, iter, ifs, 0⟩, ⟨tg1, iter1, ifs1, 0⟩] scope pos) (tLc2 wi (one5 X tgt) (one5 X tt') (one5 X wi1) (one5 X tgt1) (one5 X tt1) (one5 X te') (own.map (·.2)) vs1) (wComp2 i g p i1 g1 p1 t (own.map (·.2)) vs1) := by
  refine ⟨pe_lc2 hc hN hi.pi ok hv (fun s H C cl fp => h1 s H C cl fp ▸ (hg s H C cl fp).pg) (fun s H C cl fp => h2 s H C cl fp ▸ (ht s H C cl fp).pt) (fun s H C cl fp => h4 s H C cl fp ▸ (hi1 s H C cl fp).pi) (fun s H C cl fp => h5 s H C cl fp ▸ (hg1 s H C cl fp).pg) (fun s H C cl fp => h6 s H C cl fp ▸ (ht1 s H C cl fp).pt) (fun s H C cl fp => h3 s H C cl fp ▸ (he s H C cl fp).pe) hs hs1, snd_comp2 hi.snd ?_ hin ?_ ?_ ?_ hin1 ?_ ?_ hv⟩
  · exact (hg (PySem.start X.prog).1 (fun _ => none) 0 [] []).snd
  · exact (ht (PySem.start X.prog).1 (fun _ => none) 0 [] []).snd
  · exact (hi1 (PySem.start X.prog).1 (fun _ => none) 0 [] []).snd
  · exact (hg1 (PySem.start X.prog).1 (fun _ => none) 0 [] []).snd
  · exact (ht1 (PySem.start X.prog).1 (fun _ => none) 0 [] []).snd
  · exact (he (PySem.start X.prog).1 (fun _ => none) 0 [] []).snd
theorem s_comp2 {j : Nat} {y : Str} {py : Pos} {spos : Pos} (own : List (Str × Nat)) (vs1 : List Nat) (hN : X.N.Nodup) (hi : SIO X tg iter wi i) (ok : BlkOk X.N X.env.scope scope own)
    (hg : ∀ s H C cl fp, SG (X.blk s H scope (compEnvC scope cl C X.env) fp) tg (tgt s H C cl fp) g) (hin : TgIn (one5 X tgt) (own.map (·.2))) (ht : ∀ s H C cl fp, STs (X.blk s H scope (compEnvC scope cl C X.env) fp) ifs (tt' s H C cl fp) p)
    (hi1 : ∀ s H C cl fp, SIF (X.blk s H scope (compEnvC scope cl C X.env) fp) tg1 iter1 (wi1 s H C cl fp) i1)
    (hg1 : ∀ s H C cl fp, SG (X.blk s H scope (compEnvC scope cl C X.env) fp) tg1 (tgt1 s H C cl fp) g1) (hin1 : TgIn (one5 X tgt1) vs1) (ht1 : ∀ s H C cl fp, STs (X.blk s H scope (compEnvC scope cl C X.env) fp) ifs1 (tt1 s H C cl fp) p1)
    (he : ∀ s H C cl fp, SE (X.blk s H scope (compEnvC scope cl C X.env) fp) elt (te' s H C cl fp) t) (hv : ∀ i ∈ vs1, i ∈ own.map (·.2) := by decide)
    (hy : X.N[j]? = some y := by rfl) (hyl : X.env.scope.names.lookup y = some .local := by rfl)
    (hsw : swapsWith (.ListComp elt [⟨tg, iter, ifs, 0⟩, ⟨tg1, iter1, ifs1, 0⟩] scope pos) (some (.Name y py)) spos.line X.env = pure true := by exact sw_true rfl rfl rfl (by decide +kernel))
    (hc : X.calm = true := by rfl) (hs : ∀ x, foldedSetIterable iter X.env x = pure x := by intro _; rfl) (hs1 : ∀ env x, foldedSetIterable iter1 env x = pure x := by intro _ _; rfl)
    (h1 : ∀ s H C cl fp, tgt s H C cl fp = one5 X tgt := by intro _ _ _ _ _; rfl) (h2 : ∀ s H C cl fp, tt' s H C cl fp = one5 X tt' := by intro _ _ _ _ _; rfl) (h3 : ∀ s H C cl fp, te' s H C cl fp = one5 X te' := by intro _ _ _ _ _; rfl)
    (h4 : ∀ s H C cl fp, wi1 s H C cl fp = one5 X wi1 := by intro _ _ _ _ _; rfl) (h5 : ∀ s H C cl fp, tgt1 s H C cl fp = one5 X tgt1 := by intro _ _ _ _ _; rfl) (h6 : ∀ s H C cl fp, tt1 s H C cl fp = one5 X tt1 := by intro _ _ _ _ _; rfl) :
    SS X (.Assign [.Name y py] (.ListComp elt [⟨tg, iter, ifs, 0⟩, ⟨tg1, iter1, ifs1, 0⟩] scope pos) spos) (tAsg (tLc2 wi (one5 X tgt) (one5 X tt') (one5 X wi1) (one5 X tgt1) (one5 X tt1) (one5 X te') (own.map (·.2)) vs1) (gName j)) (wAsg j (wComp2 i g p i1 g1 p1 t (own.map (·.2)) vs1)) := by
  refine ⟨ps_setLc2 hc hN hy hyl hsw hi.pi ok hv (fun s H C cl fp => h1 s H C cl fp ▸ (hg s H C cl fp).pg) (fun s H C cl fp => h2 s H C cl fp ▸ (ht s H C cl fp).pt) (fun s H C cl fp => h4 s H C cl fp ▸ (hi1 s H C cl fp).pi) (fun s H C cl fp => h5 s H C cl fp ▸ (hg1 s H C cl fp).pg) (fun s H C cl fp => h6 s H C cl fp ▸ (ht1 s H C cl fp).pt) (fun s H C cl fp => h3 s H C cl fp ▸ (he s H C cl fp).pe) hs hs1, snd_asg (snd_comp2 hi.snd ?_ hin ?_ ?_ ?_ hin1 ?_ ?_ hv)⟩
  · exact (hg (PySem.start X.prog).1 (fun _ => none) 0 [] []).snd
  · exact (ht (PySem.start X.prog).1 (fun _ => none) 0 [] []).snd
  · exact (hi1 (PySem.start X.prog).1 (fun _ => none) 0 [] []).snd
  · exact (hg1 (PySem.start X.prog).1 (fun _ => none) 0 [] []).snd
  · exact (ht1 (PySem.start X.prog).1 (fun _ => none) 0 [] []).snd
  · exact (he (PySem.start X.prog).1 (fun _ => none) 0 [] []).snd
end
end VL

/-! VY7: zip of two lists. -/
namespace VL
open PySem PySem.Spec PyProof.Rows L2
open Evl (Ex)
variable {K : PySem.W.Frag}
def zipT (xs ys : List D) : List D := (xs.zip ys).map fun p => .tup [p.1, p.2]
def wiZipO (t u : WE) : WI := fun ρ Q => wCons t (wCons u wNil) ρ fun ds ρ1 => match ds with
  | [.lst xs, .lst ys] => Q (zipT xs ys) ρ1
  | _ => False
theorem walks_zip {G B : Hp} {a b : Addr} {vs us : List V} {xs ys : List D} (h : SqL K B a vs) (h' : SqL K B b us) (r : RpL K G vs xs) (r' : RpL K G us ys) : Walks K (Itz K a b) (zipT xs ys) G B := fun G2 H2 i e1 e2 e3 => by
  have hq : SqL K H2 a vs := Evl.ex_l e2 h
  have hq' : SqL K H2 b us := Evl.ex_l e2 h'
  refine ⟨fun d hd => ?_, fun hl => ⟨vs, us, hq, hq', ?_⟩⟩
  · unfold zipT at hd
    rw [List.getElem?_map] at hd
    cases hz : (xs.zip ys)[i]? with
    | none => rw [hz] at hd; cases hd
    | some p =>
      rw [hz] at hd; cases hd
      obtain ⟨h1, h2⟩ := List.getElem?_zip_eq_some.mp hz
      obtain ⟨v, hv, rv⟩ := r.get h1
      obtain ⟨u, hu, ru⟩ := r'.get h2
      refine ⟨⟨vs, us, v, u, hq, hq', hv, hu⟩, fun x H3 y => ?_⟩
      obtain ⟨T, x1, y1, rfl, hT, rfl, k1, k2⟩ := y
      have k1 := k1 vs hq
      have k2 := k2 us hq'
      rw [hv] at k1; cases k1
      rw [hu] at k2; cases k2
      exact .inr ⟨T, [v, u], [p.1, p.2], hT, rfl, rfl, rfl, .cons (rv.mono e1) (.cons (ru.mono e1) .nil)⟩
  · unfold zipT at hl
    rw [List.length_map, List.length_zip] at hl
    rw [r.length, r'.length]
    omega
theorem sndIO_zip {ta tb : TE} {t u : WE} (h : SndO K (tCons ta (tCons tb tNil)) (wCons t (wCons u wNil))) : SndIO K (iZip K (tCons ta (tCons tb tNil))) (wiZipO t u) := fun b G ρ σ H Q R s hq k => by
  refine h b G ρ σ H _ _ s hq fun ds ρ' vs G' H' q x s' o => ?_
  split at q
  · rename_i xs ys
    cases o with
    | cons o1 o2 =>
      cases o2 with
      | cons o2 o3 =>
        cases o3
        obtain ⟨a, v1, rfl, t1, l1⟩ := o1
        obtain ⟨c, v2, rfl, t2, l2⟩ := o2
        exact ⟨a, c, v1, v2, rfl, .inl (.inl (hd_le _ _ t1)), .inl (.inl (hd_le _ _ t2)), k _ ρ' _ G' H' q x s' (walks_zip (.inl (.inl t1)) (.inl (.inl t2)) l1 l2)⟩
  · exact q.elim
section
variable {X : Cx} {e e2 : Expr} {ta tb : TE} {t u : WE} {pos pp tpos : Pos} {elts : List Expr} {kk : Nat}
theorem io_zip (hm : X.mg "zip" = none) (ha : SE X e ta t) (hb : SE X e2 tb u) (hg : Gl X "zip" := by rfl) (h1 : starEach [e, e2] X.env = (false, eval e X.env) :: starEach [e2] X.env := by rfl) (h2 : starEach [e2] X.env = (false, eval e2 X.env) :: starEach [] X.env := by rfl) (hpl : (backTo pos (starEach [e2] X.env)).any (·.1) = false := by rfl) :
    SIO X (.Tuple elts kk tpos) (.Call (.Name "zip" pp) [e, e2] [] pos) (iZip X.K (tCons ta (tCons tb tNil))) (wiZipO t u) :=
  ⟨pi_zip hg hm (pa_cons ha.pe (pa_cons hb.pe pa_nil h2) h1) h1 hpl, sndIO_zip (sndO_cons ha.snd (sndO_cons hb.snd sndO_nil))⟩
end
end VL

/-! VY8: plain lemmas: dicts with tuple keys, ints, comprehensions with two clauses, loops. -/
namespace VL
open PySem PySem.Spec PyProof.Rows L2
theorem valT_new {es : List (List L2.Key × D)} {k : List L2.Key} {v : D} (h : valD es k = none) (k' : List L2.Key) : valD (putD es k v) k' = if k = k' then some v else valD es k' := by
  have hn : (es.any fun kv => decide (kv.1 = k)) = false := by
    rw [Bool.eq_false_iff]
    intro ha
    obtain ⟨p, hp, e⟩ := List.any_eq_true.mp ha
    unfold valD at h
    rw [Option.map_eq_none_iff] at h
    have := List.find?_eq_none.mp h p hp
    simp at e this
    exact this e
  unfold putD
  rw [if_neg (by rw [hn]; decide)]
  unfold valD
  rw [List.find?_append]
  by_cases c : k = k'
  · subst c
    unfold valD at h
    rw [Option.map_eq_none_iff] at h
    rw [h]
    simp
  · rw [if_neg c]
    cases es.find? (fun kv => decide (kv.1 = k')) with
    | none => simp [c]
    | some p => simp
theorem valT_put (es : List (List L2.Key × D)) (k : List L2.Key) (v : D) (k' : List L2.Key) : valD (putD es k v) k' = if k = k' then some v else valD es k' := by
  cases h : valD es k with
  | none => exact valT_new h k'
  | some d =>
    have ha : (es.any fun kv => decide (kv.1 = k)) = true := by
      unfold valD at h
      cases hf : es.find? (fun kv => decide (kv.1 = k)) with
      | none => rw [hf] at h; cases h
      | some p =>
        exact List.any_eq_true.mpr ⟨p, List.mem_of_find?_eq_some hf, List.find?_some (p := fun kv : List L2.Key × D => decide (kv.1 = k)) hf⟩
    unfold putD
    rw [if_pos ha]
    unfold valD
    rw [List.find?_map]
    have e1 : ((fun kv : List L2.Key × D => decide (kv.1 = k')) ∘ fun kv : List L2.Key × D => if kv.1 = k then (kv.1, v) else kv) = fun kv => decide (kv.1 = k') := by
      funext kv
      show decide ((if kv.1 = k then (kv.1, v) else kv).1 = k') = _
      split <;> rfl
    rw [e1]
    by_cases c : k = k'
    · subst c
      rw [if_pos rfl]
      unfold valD at h
      cases hf : es.find? (fun kv => decide (kv.1 = k)) with
      | none => rw [hf] at h; cases h
      | some p =>
        have := List.find?_some (p := fun kv : List L2.Key × D => decide (kv.1 = k)) hf
        simp only [decide_eq_true_eq] at this
        simp [this]
    · rw [if_neg c]
      cases hf : es.find? (fun kv => decide (kv.1 = k')) with
      | none => rfl
      | some p =>
        have := List.find?_some (p := fun kv : List L2.Key × D => decide (kv.1 = k')) hf
        simp only [decide_eq_true_eq] at this
        have hne : p.1 ≠ k := fun e => c (e.symm.trans this)
        simp [hne]
/-- for .. in range(a draw) -/
theorem lenT_put (es : List (List L2.Key × D)) (k : List L2.Key) (v : D) : (putD es k v).length ≤ es.length + 1 := by
  unfold putD
  split
  · simp
  · simp
theorem mgTD_len : ∀ (more es : List (List L2.Key × D)), (mgTD es more).length ≤ es.length + more.length
  | [], es => by show es.length ≤ es.length + 0; omega
  | p :: r, es => by
    have h1 := mgTD_len r (putD es p.1 p.2)
    have h2 := lenT_put es p.1 p.2
    show (mgTD (putD es p.1 p.2) r).length ≤ _
    rw [List.length_cons]; omega
/-- a list of pairs that agree: what the dict holds -/
theorem mgTD_val {k : List L2.Key} {v : D} : ∀ (more es : List (List L2.Key × D)), (∀ p ∈ more, p.1 = k → p.2 = v) → (valD es k = some v ∨ ∃ p ∈ more, p.1 = k) → valD (mgTD es more) k = some v
  | [], es, _, h => h.elim id fun ⟨_, h, _⟩ => by cases h
  | p :: r, es, h1, h2 => by
    show valD (mgTD (putD es p.1 p.2) r) k = _
    refine mgTD_val r _ (fun q hq => h1 q (List.mem_cons_of_mem _ hq)) ?_
    by_cases c : p.1 = k
    · left
      rw [valT_put, if_pos c, h1 p (List.mem_cons_self ..) c]
    · rcases h2 with h2 | ⟨q, hq, e⟩
      · left; rw [valT_put, if_neg c]; exact h2
      · rcases List.mem_cons.mp hq with rfl | hq
        · exact absurd e c
        · exact .inr ⟨q, hq, e⟩
section
variable {t u w : WE} {ρ : Rho} {d : D} {k k' : Kd} {b b' : Bool} {c : WT} {tb : WS} {P : PEnds} {i j : Nat}
theorem ev_andB (h : Ev t ρ (.bl b) k) (h' : b = true → Ev u ρ (.bl b') .fz) : Ev (wAndV t u) ρ (.bl (b && b')) .fz := fun Q q => by
  rw [wAndV_e, wTest_e]
  refine h _ ?_
  rw [blK_e]
  cases b with
  | true => exact h' rfl _ q
  | false => exact q
theorem ev_notB (h : Ev t ρ (.bl b) k) : Ev (wNotV t) ρ (.bl (!b)) .fz := fun Q q => by
  rw [wNotV_e, wTest_e]
  refine h _ ?_
  exact q
theorem go_while (W : Nat → Rho → Prop) {m0 : Nat} (h0 : W m0 ρ) (h : ∀ m ρ, W m ρ → ∃ b, Et c ρ b ∧ (b = true → tb ⟨fun ρ' => ∃ m', m' < m ∧ W m' ρ', P.rt, P.nx, fun ρ' => ∃ m', m' < m ∧ W m' ρ'⟩ ρ) ∧ (b = false → P.nx ρ)) : wWhile c tb P ρ :=
  ⟨W, ⟨m0, h0⟩, fun m ρ w => by
    obtain ⟨b, e, h1, h2⟩ := h m ρ w
    refine e _ ?_
    cases b with
    | true => exact h1 rfl
    | false => exact h2 rfl⟩
theorem ev_is {n a : String} (h : Ev t ρ d k) (e : tyD d = some a) : Ev (wIs n t) ρ (.bl (isB a n)) .fz := fun Q q => h _ (by
  show (match tyD d with
    | some a => Q (.bl (isB a n)) .fz ρ
    | none => False)
  rw [e]; exact q)
theorem go_rem {xs : List D} {z : D} (ho : ρ[i]? = some (.ow (.lst xs))) (h : Ev w ρ d .fz) (hz : fRemove (.lst xs) d = some z) (q : P.nx (ρ.set i (.ow z))) : wMut i w fRemove P ρ := ⟨⟨_, ho⟩, h _ (by
  show (match ρ[i]? with
    | some (.ow d0) => match fRemove d0 d with
      | some z => P.nx (ρ.set i (.ow z))
      | none => False
    | _ => False)
  rw [ho]
  show (match fRemove (.lst xs) d with | some z => P.nx (ρ.set i (.ow z)) | none => False)
  rw [hz]; exact q)⟩
theorem go_dputT {es : List (List L2.Key × D)} {wk wv : WE} {ks : List D} {key : List L2.Key} {vd : D} {kk kv : Kd} (ho : ρ[j]? = some (.ow (.dt es))) (hv : Ev wv ρ vd kv) (hk : Ev wk ρ (.tup ks) kk) (hkey : keysOf ks = some key) (hl : es.length < LIM) (q : P.nx (ρ.set j (.ow (.dt (putD es key vd))))) (hkv : kv.ok = true := by rfl) : wDPut j wk wv P ρ :=
  hv _ (toF_ok hkv ⟨⟨_, ho⟩, hk _ (by
    rw [ho]
    show (match (if es.length < LIM then (keysOf ks).map fun k => D.dt (putD es k vd) else none) with | some z => P.nx (ρ.set j (.ow z)) | none => False)
    rw [if_pos hl, hkey]
    exact q)⟩)
end
def nI (l : List Nat) : List D := l.map fun (k : Nat) => .int (k : Int)
theorem nI_range (n : Nat) : rng 0 n = nI (List.range n) := rng0 n
theorem ev_range {t : WE} {ρ : Rho} {n : Nat} {k : Kd} (h : Ev t ρ (.int (n : Int)) k) (hn : n ≤ 1000) : Ev (wLstRg (wRg1 t)) ρ (.lst (nI (List.range n))) .nw := fun Q q => by
  refine h _ ⟨⟨by unfold i62; omega, by unfold i62; omega, by simp only [LIM]; omega⟩, ?_⟩
  have e : rng 0 ((n : Int) - 0).toNat = nI (List.range n) := by rw [← nI_range]; congr 1
  rw [e]; exact q
theorem eqvI (x y : Int) : eqv (.int x) (.int y) = decide (x = y) := by
  show (x == y) = _
  rw [Bool.eq_iff_iff]; simp
theorem in_tI (x : Int) (b : List Int) : bIn (.int x) (tI b) = some (.bl (decide (x ∈ b)), .fz) := by
  show (if okE 20 (.int x) = true ∧ okE 20 (tI b) = true then some ((b.map D.int).any fun z => eqv z (.int x)) else none).bind _ = _
  rw [if_pos ⟨okE_int, okE_tI⟩, List.any_map]
  have : (b.any ((fun z => eqv z (.int x)) ∘ D.int)) = decide (x ∈ b) := by
    rw [Bool.eq_iff_iff, List.any_eq_true, decide_eq_true_iff]
    constructor
    · rintro ⟨y, hy, e⟩
      have : eqv (.int y) (.int x) = true := e
      rw [eqvI, decide_eq_true_iff] at this
      rw [← this]; exact hy
    · intro h
      refine ⟨x, h, ?_⟩
      show eqv (.int x) (.int x) = true
      rw [eqvI]; simp
  rw [this]; rfl
theorem notin_tI (x : Int) (b : List Int) : bNotIn (.int x) (tI b) = some (.bl (!decide (x ∈ b)), .fz) := by
  have h := in_tI x b
  unfold bIn at h
  unfold bNotIn
  cases hi : inD (.int x) (tI b) with
  | none => rw [hi] at h; cases h
  | some c =>
    rw [hi] at h
    have h : some (D.bl c, Kd.fz) = some (.bl (decide (x ∈ b)), .fz) := h
    cases h
    rfl
theorem okL_nI (l : List Nat) : okE 20 (.lst (nI l)) = true := okL fun x hx => by
  obtain ⟨k, _, rfl⟩ := List.mem_map.mp hx
  exact okE_int
/-- membership among plain data -/
theorem in_gd {α : Type} {f : α → D} {n : Nat} (hf : ∀ a, Gd n (f a)) (hn : n ≤ 19) (hi : ∀ a b, f a = f b → a = b) (a : α) (l : List α) [Decidable (a ∈ l)] : bIn (f a) (.lst (l.map f)) = some (.bl (decide (a ∈ l)), .fz) := by
  have o1 : okE 20 (f a) = true := ((hf a).up (by omega)).1
  have o2 : okE 20 (.lst (l.map f)) = true := okL fun x hx => by
    obtain ⟨b, _, rfl⟩ := List.mem_map.mp hx
    exact ((hf b).up hn).1
  show (if okE 20 (f a) = true ∧ okE 20 (.lst (l.map f)) = true then some ((l.map f).any fun z => eqv z (f a)) else none).bind _ = _
  rw [if_pos ⟨o1, o2⟩, List.any_map]
  have : (l.any ((fun z => eqv z (f a)) ∘ f)) = decide (a ∈ l) := by
    rw [Bool.eq_iff_iff, List.any_eq_true, decide_eq_true_iff]
    constructor
    · rintro ⟨y, hy, e⟩
      rw [← hi _ _ ((eqv_pl (hf y).2 (hf a).2).mp e)]; exact hy
    · intro h
      exact ⟨a, h, (eqv_pl (hf a).2 (hf a).2).mpr rfl⟩
  rw [this]; rfl
theorem notin_gd {α : Type} {f : α → D} {n : Nat} (hf : ∀ a, Gd n (f a)) (hn : n ≤ 19) (hi : ∀ a b, f a = f b → a = b) (a : α) (l : List α) [Decidable (a ∈ l)] : bNotIn (f a) (.lst (l.map f)) = some (.bl (!decide (a ∈ l)), .fz) := by
  have h := in_gd hf hn hi a l
  unfold bIn at h
  unfold bNotIn
  cases hi : inD (f a) (.lst (l.map f)) with
  | none => rw [hi] at h; cases h
  | some c =>
    rw [hi] at h
    have h : some (D.bl c, Kd.fz) = some (.bl (decide (a ∈ l)), .fz) := h
    cases h
    rfl
theorem ei_call {sp : FS} {tx : WX} {ρ : Rho} {as : List A} {xs : List D} (h : Exs tx ρ as) (hs : ∀ q : D → Kd → Prop, (∀ k, q (.lst xs) k) → sp as q) : Ei (wiO (wCall sp tx)) ρ xs := fun Q q => by
  rw [wiO_e]
  exact h _ (hs _ fun k => q)
/-- comprehensions with two clauses, by plain functions -/
theorem ev_two {α β : Type} {wi wi1 : WI} {tt1 : WT} {t : WE} {ρ : Rho} {i j : Nat} {k : Kd} (e : α → D) (e1 : β → D) (m : α → List β) (tb : α → β → Bool) (el : α → β → D) (l : List α) (hi : Ei wi ρ (l.map e)) (hi1 : ∀ a ∈ l, Ei wi1 ((wipeR ρ [i, j]).set i (.fz (e a))) ((m a).map e1))
    (ht : ∀ a ∈ l, ∀ b ∈ m a, Et tt1 (((wipeR ρ [i, j]).set i (.fz (e a))).set j (.fz (e1 b))) (tb a b))
    (he : ∀ a ∈ l, ∀ b ∈ m a, tb a b = true → Ev t (((wipeR ρ [i, j]).set i (.fz (e a))).set j (.fz (e1 b))) (el a b) k) (hl : (l.flatMap m).length ≤ LIM) (hk : k.ok = true := by rfl)
    (h1 : ∀ d, wipeR ((wipeR ρ [i, j]).set i (.fz d)) [j] = (wipeR ρ [i, j]).set i (.fz d) := by intro; rfl) (h2 : ∀ d d', wipeR (((wipeR ρ [i, j]).set i (.fz d)).set j (.fz d')) [j] = (wipeR ρ [i, j]).set i (.fz d) := by intro _ _; rfl)
    (h3 : ∀ d, wipeR ((wipeR ρ [i, j]).set i (.fz d)) [i, j] = wipeR ρ [i, j] := by intro; rfl) (hr : restR ρ (wipeR ρ [i, j]) [i, j] = ρ := by rfl) :
    Ev (wComp2 wi (wgName i) wYes wi1 (wgName j) tt1 t [i, j] [j]) ρ (.lst (l.flatMap fun a => ((m a).filter (tb a)).map (el a))) .nw := fun Q q => by
  unfold wComp2
  refine hi _ ?_
  have inner : ∀ (a : α), a ∈ l → ∀ (bs : List β) (acc : List D) (Q : List D → Rho → Prop), (∀ b ∈ bs, b ∈ m a) → acc.length + bs.length ≤ LIM → Q (acc ++ (bs.filter (tb a)).map (el a)) ((wipeR ρ [i, j]).set i (.fz (e a))) → inL (wgName j) tt1 t [j] (bs.map e1) acc ((wipeR ρ [i, j]).set i (.fz (e a))) Q := by
    intro a ha bs
    induction bs with
    | nil => intro acc Q _ _ h; rw [List.filter_nil, List.map_nil, List.append_nil] at h; exact h
    | cons b bs ih =>
      intro acc Q hb hl h
      have hbm := hb b (List.mem_cons_self ..)
      show tt1 (((wipeR ρ [i, j]).set i (.fz (e a))).set j (.fz (e1 b))) _
      refine ht a ha b hbm _ ?_
      rw [List.length_cons] at hl
      by_cases c : tb a b = true
      · rw [if_pos c]
        refine he a ha b hbm c _ (toF_ok hk ⟨by omega, ?_⟩)
        rw [h2]
        refine ih (acc ++ [el a b]) Q (fun x hx => hb x (List.mem_cons_of_mem _ hx)) (by rw [List.length_append, List.length_singleton]; omega) ?_
        rw [List.filter_cons_of_pos c, List.map_cons] at h
        rw [List.append_assoc]; exact h
      · rw [if_neg c, h2]
        refine ih acc Q (fun x hx => hb x (List.mem_cons_of_mem _ hx)) (by omega) ?_
        rw [List.filter_cons_of_neg c] at h
        exact h
  have outer : ∀ (as : List α) (acc : List D) (Q : List D → Rho → Prop), (∀ a ∈ as, a ∈ l) → acc.length + (as.flatMap m).length ≤ LIM → Q (acc ++ as.flatMap fun a => ((m a).filter (tb a)).map (el a)) (wipeR ρ [i, j]) → outL (wgName i) wYes wi1 (wgName j) tt1 t [i, j] [j] (as.map e) acc (wipeR ρ [i, j]) Q := by
    intro as
    induction as with
    | nil => intro acc Q _ _ h; rw [List.flatMap_nil, List.append_nil] at h; exact h
    | cons a as ih =>
      intro acc Q hm hl h
      have ham := hm a (List.mem_cons_self ..)
      refine (show wi1 ((wipeR ρ [i, j]).set i (.fz (e a))) (fun ys ρ3 => inL (wgName j) tt1 t [j] ys acc (wipeR ρ3 [j]) fun acc2 ρ4 => outL (wgName i) wYes wi1 (wgName j) tt1 t [i, j] [j] (as.map e) acc2 (wipeR ρ4 [i, j]) Q) from ?_)
      refine hi1 a ham _ ?_
      rw [h1]
      rw [List.flatMap_cons, List.length_append] at hl
      refine inner a ham (m a) acc _ (fun _ h => h) (by omega) ?_
      rw [h3]
      refine ih _ Q (fun x hx => hm x (List.mem_cons_of_mem _ hx)) ?_ ?_
      · rw [List.length_append, List.length_map]
        have := List.length_filter_le (tb a) (m a)
        omega
      · rw [List.flatMap_cons, ← List.append_assoc] at h
        exact h
  refine outer l [] _ (fun _ h => h) (by simpa using hl) ?_
  rw [hr]
  exact q
end VL

/-! VY9: sorted(d), keys ints; sorted(set(ints)) by plain lists. -/
namespace VL
open PySem PySem.Spec PyProof.Rows L2
open Evl (Ex)
variable {K : PySem.W.Frag}
def rSortKI : List V → Hp → VK → Prop := fun xs H Q => ∃ (a : Addr) (kvs : List (Key × V)) (ks : List Int), xs = [.ref a] ∧ Rd H a (.dK kvs) ∧ kvs.map (·.1) = ks.map Sum.inl ∧ ks.length < 64 ∧
    ∀ (ys : List Int) (p : Addr), ys.Perm ks → ys.Pairwise (· ≤ ·) → H p = none → Q (.ref p) (upd H p (.lst (ys.map V.int)))
def PSortKI (ds : List D) (z : D) (k : Kd) : Prop := ∃ (es : List (Key × D)) (ks : List Int), ds = [.dk es] ∧ es.map (·.1) = ks.map Sum.inl ∧ ks.length < 64 ∧ z = .lst (isort (keysD es)) ∧ k = .nw
theorem srt_ints {ys : List Int} (h : ys.Pairwise (· ≤ ·)) : SrtD (ys.map D.int) := by
  unfold SrtD
  refine List.pairwise_map.mpr (h.imp fun {a b} hab => ?_)
  show decide (b < a) = false
  rw [decide_eq_false_iff_not]; omega
theorem snd_sortKI : ClP K rSortKI PSortKI := fun G B H vs ds z k R g g2 o p r => by
  obtain ⟨es, ks, rfl, hk, h64, rfl, rfl⟩ := p
  cases o with
  | cons o1 o2 =>
    cases o2
    obtain ⟨a, kvs, rfl, t, l⟩ := o1
    refine ⟨a, kvs, ks, rfl, rd_mono g2 t, by rw [rpk_keys l, hk], h64, fun ys p pm ss hp => r.new p _ rfl hp ?_⟩
    have e0 : keysD es = ks.map .int := by
      have : keysD es = (es.map (·.1)).map kD := by unfold keysD; rw [List.map_map]; rfl
      rw [this, hk, List.map_map]; rfl
    have e : isort (keysD es) = ys.map D.int := by
      rw [e0]
      refine (srt_uniq (sh_ord .int) (fun y hy' => ?_) (srt_ints ss) (isort_srt (sh_ord .int) _ fun y hy' => ?_) ((pm.map D.int).trans (isort_perm _).symm)).symm
      · obtain ⟨x, hx, rfl⟩ := List.mem_map.mp hy'; rfl
      · obtain ⟨x, hx, rfl⟩ := List.mem_map.mp hy'; rfl
    rw [e]
    exact ⟨_, upd_same, rp_intsY ys⟩
section
variable {X : Cx} {e : Expr} {es : List Expr} {xa : TA} {x : WA} {pp pos : Pos} {k : Nat}
theorem c_sortKI (hr : Room k X.A) (hm : X.mg "sorted" = none) (ha : SO X (e :: es) xa x) (hg : Gl X "sorted" := by rfl) (he : starEach (e :: es) X.env = (false, eval e X.env) :: starEach es X.env := by rfl) (hpl : (backTo pos (starEach es X.env)).any (·.1) = false := by rfl) (hc : X.calm = true := by rfl) : SE X (.Call (.Name "sorted" pp) (e :: es) [] pos) (tCB rSortKI xa) (wClP PSortKI x) :=
  ⟨pe_callB (call_sortedDI hc) hg hm (by decide +kernel) ha.pa (by decide) (by decide) he hpl, snd_clP snd_sortKI ha.snd⟩
end
theorem ev_sortKI {t : WE} {ρ : Rho} {k : Kd} {es : List (Key × D)} {ks : List Int} (h : Ev t ρ (.dk es) k) (hk : es.map (·.1) = ks.map Sum.inl) (hl : ks.length < 64) : Ev (wClP PSortKI (wCons t wNil)) ρ (.lst (isort (ks.map .int))) .nw := fun Q q => h _ ⟨_, _, ⟨es, ks, rfl, hk, hl, rfl, rfl⟩, by
  have e0 : keysD es = ks.map .int := by
    have : keysD es = (es.map (·.1)).map kD := by unfold keysD; rw [List.map_map]; rfl
    rw [this, hk, List.map_map]; rfl
  rw [e0]; exact q⟩
theorem isort_ints {ks ms : List Int} (h : ks.Perm ms) : isort (ks.map D.int) = isort (ms.map D.int) := by
  refine srt_uniq (sh_ord .int) (fun y hy => ?_) (isort_srt (sh_ord .int) _ fun y hy => ?_) (isort_srt (sh_ord .int) _ fun y hy => ?_) (((isort_perm _).trans (h.map D.int)).trans (isort_perm _).symm)
  · obtain ⟨x, _, rfl⟩ := List.mem_map.mp ((isort_perm _).mem_iff.mp hy); rfl
  · obtain ⟨x, _, rfl⟩ := List.mem_map.mp hy; rfl
  · obtain ⟨x, _, rfl⟩ := List.mem_map.mp hy; rfl
theorem flat_ints (xs : List Int) : Flat .int (xs.map .int) := ⟨.inl rfl, fun d hd => by
  obtain ⟨x, _, rfl⟩ := List.mem_map.mp hd
  exact ⟨rfl, rfl⟩⟩
/-- sorted(set(xs)), ints -/
theorem sset_ints (xs : List Int) : ∃ zs : List Int, isort (uniqD (xs.map .int)) = zs.map .int ∧ zs.Nodup ∧ ∀ z, z ∈ zs ↔ z ∈ xs := by
  have hm : ∀ d, d ∈ isort (uniqD (xs.map .int)) ↔ d ∈ xs.map D.int := fun d => ((isort_perm _).mem_iff).trans (uniq_mem (flat_ints xs) d)
  obtain ⟨zs, e, _⟩ := ints_of (p := fun _ => True) (ds := isort (uniqD (xs.map .int))) fun d hd => by
    obtain ⟨x, _, rfl⟩ := List.mem_map.mp ((hm d).mp hd)
    exact ⟨x, rfl, trivial⟩
  refine ⟨zs, e, ?_, fun z => ?_⟩
  · have hn : (isort (uniqD (xs.map .int))).Nodup := (isort_perm _).nodup_iff.mpr (uniq_nodup _)
    rw [e] at hn
    exact (List.pairwise_map.mp hn).imp fun h z => h (by rw [z])
  · have := hm (.int z)
    rw [e] at this
    constructor
    · intro h
      obtain ⟨x, hx, ex⟩ := List.mem_map.mp (this.mp (List.mem_map.mpr ⟨z, h, rfl⟩))
      cases ex; exact hx
    · intro h
      obtain ⟨x, hx, ex⟩ := List.mem_map.mp (this.mpr (List.mem_map.mpr ⟨z, h, rfl⟩))
      cases ex; exact hx
/-! ### dicts of ints -/
def dI (ps : List Int) (f : Int → Int) : List (Key × D) := ps.map fun p => (.inl p, .int (f p))
theorem val_dI (f : Int → Int) (n : Int) : ∀ ps : List Int, valD (dI ps f) (.inl n) = if n ∈ ps then some (.int (f n)) else none
  | [] => rfl
  | a :: r => by
    have ih := val_dI f n r
    unfold dI valD at ih ⊢
    rw [List.map_cons, List.find?_cons]
    by_cases e : a = n
    · subst e; simp
    · have h1 : decide ((Sum.inl a : Key) = .inl n) = false := decide_eq_false fun z => e (by injection z)
      have h2 : (decide (((Sum.inl a : Key), D.int (f a)).1 = Sum.inl n)) = false := h1
      rw [h2]
      show ((r.map fun p => ((Sum.inl p : Key), D.int (f p))).find? fun kv => decide (kv.1 = .inl n)).map (·.2) = _
      rw [ih]
      have : (n ∈ a :: r) ↔ n ∈ r := ⟨fun h => (List.mem_cons.mp h).resolve_left (Ne.symm e), fun h => List.mem_cons_of_mem _ h⟩
      simp [this]
theorem keys_dI (f : Int → Int) (ps : List Int) : keysD (dI ps f) = ps.map .int := by
  unfold keysD dI
  rw [List.map_map]; rfl
def addI (ps : List Int) (n : Int) : List Int := if n ∈ ps then ps else ps ++ [n]
theorem put_dI (f : Int → Int) (n v : Int) (ps : List Int) : putD (dI ps f) (.inl n) (.int v) = dI (addI ps n) (fun m => if m = n then v else f m) := by
  unfold putD addI
  have ha : ((dI ps f).any fun kv => decide (kv.1 = .inl n)) = decide (n ∈ ps) := by
    unfold dI
    rw [Bool.eq_iff_iff, List.any_eq_true, decide_eq_true_iff]
    constructor
    · rintro ⟨x, hx, e⟩
      obtain ⟨p, hp, rfl⟩ := List.mem_map.mp hx
      have e := of_decide_eq_true e
      have e : (Sum.inl p : Key) = .inl n := e
      injection e with e
      rw [← e]; exact hp
    · intro h
      exact ⟨_, List.mem_map.mpr ⟨n, h, rfl⟩, decide_eq_true rfl⟩
  rw [ha]
  by_cases c : n ∈ ps
  · rw [if_pos (decide_eq_true c), if_pos c]
    unfold dI
    rw [List.map_map]
    refine List.map_congr_left fun p _ => ?_
    show (if (Sum.inl p : Key) = .inl n then ((Sum.inl p : Key), D.int v) else (.inl p, .int (f p))) = (.inl p, .int (if p = n then v else f p))
    by_cases e : p = n
    · rw [if_pos (by rw [e]), if_pos e]
    · rw [if_neg (fun z => e (by injection z)), if_neg e]
  · rw [if_neg (by rw [decide_eq_false c]; decide), if_neg c]
    unfold dI
    rw [List.map_append]
    congr 1
    · refine List.map_congr_left fun p hp => ?_
      have : p ≠ n := fun z => c (z ▸ hp)
      show ((Sum.inl p : Key), D.int (f p)) = (.inl p, .int (if p = n then v else f p))
      rw [if_neg this]
    · simp
theorem addI_nodup {ps : List Int} (h : ps.Nodup) (n : Int) : (addI ps n).Nodup := by
  unfold addI
  by_cases c : n ∈ ps
  · rw [if_pos c]; exact h
  · rw [if_neg c]; exact (List.perm_append_singleton n ps).nodup_iff.mpr (List.nodup_cons.mpr ⟨c, h⟩)
theorem addI_mem (ps : List Int) (n m : Int) : m ∈ addI ps n ↔ m ∈ ps ∨ m = n := by
  unfold addI
  by_cases c : n ∈ ps
  · rw [if_pos c]; exact ⟨.inl, fun h => h.elim id fun e => e ▸ c⟩
  · rw [if_neg c, List.mem_append, List.mem_singleton]
theorem sub_dI {f : Int → Int} {n : Int} {ps : List Int} (h : n ∈ ps) : bSubs (.dk (dI ps f)) (.int n) = some (.int (f n), .fz) := by
  show (match (some (valD (dI ps f) (.inl n)) : Option (Option D)) with
    | some (some z) => some (z, Kd.fz)
    | some none => none
    | none => bIx (.dk (dI ps f)) (.int n)) = _
  rw [val_dI, if_pos h]
def atI' (ps : List Int) (f : Int → Int) (d n : Int) : Int := if n ∈ ps then f n else d
theorem ev_getI {t u x : WE} {ρ : Rho} {ps : List Int} {f : Int → Int} {n d : Int} {k k' : Kd} (h : Ev t ρ (.dk (dI ps f)) k) (hu : Ev u ρ (.int n) k') (hx : Ev x ρ (.int d) .fz) : Ev (wGet2 t u x) ρ (.int (atI' ps f d n)) .fz := fun Q q => by
  refine h _ ⟨rfl, hu _ (hx _ ?_)⟩
  show (match getD2 (.dk (dI ps f)) (.int n) with | some o => Q (o.getD (.int d)) .fz ρ | none => False)
  have : getD2 (.dk (dI ps f)) (.int n) = some (valD (dI ps f) (.inl n)) := rfl
  rw [this, val_dI]
  unfold atI' at q
  by_cases c : n ∈ ps
  · rw [if_pos c] at q ⊢; exact q
  · rw [if_neg c] at q ⊢; exact q
theorem go_dputI {ρ : Rho} {j : Nat} {wk wv : WE} {P : PEnds} {ps : List Int} {f : Int → Int} {n v : Int} {kk : Kd} (ho : ρ[j]? = some (.ow (.dk (dI ps f)))) (hv : Ev wv ρ (.int v) .fz) (hk : Ev wk ρ (.int n) kk) (hl : ps.length < LIM) (q : P.nx (ρ.set j (.ow (.dk (dI (addI ps n) (fun m => if m = n then v else f m)))))) : wDPut j wk wv P ρ :=
  hv _ (toF_ok (k := .fz) rfl ⟨⟨_, ho⟩, hk _ (by
    rw [ho]
    show (match (if (dI ps f).length < LIM then (keyOf (.int n)).map fun k => D.dk (putD (dI ps f) k (.int v)) else none) with | some z => P.nx (ρ.set j (.ow z)) | none => False)
    rw [if_pos (by unfold dI; rw [List.length_map]; exact hl)]
    show P.nx (ρ.set j (.ow (.dk (putD (dI ps f) (.inl n) (.int v)))))
    rw [put_dI]; exact q)⟩)
end VL

namespace VD
open PySem PySem.Spec PyProof.Rows L2 VL
open Evl (Ex)
/-! ### days and dates: what the defs read as -/
def d_LONG : D := .ft [.int 31, .int 28, .int 31, .int 30, .int 31, .int 30, .int 31, .int 31, .int 30, .int 31, .int 30, .int 31]
def d_FIRST : D := .int 4
def t_is_leap : WS :=
  (wRet (wBin bEq (wBin bMod (wVar 0) (wCon (.int 4))) (wCon (.int 0))))
def t_days_in (sp_is_leap : FS) : WS :=
  (wRet (wBin bAdd (wBin bSubs (wCon d_LONG) (wBin bSub (wVar 1) (wCon (.int 1)))) (wCl cInt (wCons (wAndV (wBin bEq (wVar 1) (wCon (.int 2))) (wCall sp_is_leap (xCons (wVar 0) xNil))) wNil))))
def t_begin_of : WS :=
  (wRet (wBin bAdd (wBin bMul (wCon (.int 365)) (wVar 0)) (wBin bDiv (wBin bAdd (wVar 0) (wCon (.int 3))) (wCon (.int 4)))))
def t_day_of_c1 (sp_days_in : FS) : WE :=
  (wCall sp_days_in (xCons (wVar 1) (xCons (wVar 4) xNil)))
def t_day_of (sp_begin_of : FS) (sp_days_in : FS) : WS :=
  (wSeq (wAsgT (wgTup 3 (wgCons (wgName 1) (wgCons (wgName 2) (wgCons (wgName 3) wgNil)))) (wVar 0))
  (wRet (wBin bSub (wBin bAdd (wBin bAdd (wCall sp_begin_of (xCons (wVar 1) xNil)) (wCl cSum (wCons (wComp (wiR2 (wCons (wCon (.int 1)) (wCons (wVar 2) wNil))) (wgName 4) wYes (t_day_of_c1 sp_days_in) [4]) wNil))) (wVar 3)) (wCon (.int 1)))))
def t_date_of_w1 (sp_days_in : FS) : WS :=
  (wSeq (wAug 3 bSub (wCall sp_days_in (xCons (wVar 1) (xCons (wVar 2) xNil))))
  (wAugI 2 (wCon (.int 1))))
def t_date_of_s1 : WS :=
  (wRet (wTup (wConsF (wVar 1) (wConsF (wVar 2) (wConsF (wBin bAdd (wVar 3) (wCon (.int 1))) wNil)))))
def t_date_of_s2 (sp_begin_of : FS) (sp_days_in : FS) : WS :=
  (wSeq (wPar [2, 3] (nCons (wCon (.int 1)) (nCons (wBin bSub (wVar 0) (wCall sp_begin_of (xCons (wVar 1) xNil))) nNil)))
  (wSeq (wWhile (wTest (wBin bGeD (wVar 3) (wCall sp_days_in (xCons (wVar 1) (xCons (wVar 2) xNil))))) (t_date_of_w1 sp_days_in))
  t_date_of_s1))
def t_date_of (sp_begin_of : FS) (sp_days_in : FS) : WS :=
  (wSeq (wAsg 1 (wBin bDiv (wVar 0) (wCon (.int 366))))
  (wSeq (wWhile (wTest (wBin bLeD (wCall sp_begin_of (xCons (wBin bAdd (wVar 1) (wCon (.int 1))) xNil)) (wVar 0))) (wAugI 1 (wCon (.int 1))))
  (t_date_of_s2 sp_begin_of sp_days_in)))
def t_weekday : WS :=
  (wRet (wBin bMod (wBin bAdd (wVar 0) (wCon d_FIRST)) (wCon (.int 7))))
def t_next_weekday (sp_weekday : FS) : WS :=
  (wRet (wBin bAdd (wBin bAdd (wVar 0) (wBin bMod (wBin bSub (wBin bSub (wVar 1) (wCall sp_weekday (xCons (wVar 0) xNil))) (wCon (.int 1))) (wCon (.int 7)))) (wCon (.int 1))))
def t_last_weekday (sp_weekday : FS) : WS :=
  (wSeq (wAsg 2 (wBin bSub (wBin bSub (wVar 0) (wBin bMod (wBin bSub (wBin bSub (wCall sp_weekday (xCons (wVar 0) xNil)) (wVar 1)) (wCon (.int 1))) (wCon (.int 7)))) (wCon (.int 1))))
  (wRet (wIfE (wTest (wBin bGeD (wVar 2) (wCon (.int 0)))) (wVar 2) (wCon .non))))
def t__law_same_c1 : WE :=
  (wTup (wConsF (wVar 5) (wConsF (wVar 5) wNil)))
def t__law_same_c2 : WE :=
  (wTup (wConsF (wBin bSubs (wVar 3) (wVar 5)) (wConsF (wBin bSubs (wVar 4) (wVar 5)) wNil)))
def t__law_same_c3 : WE :=
  (wTup (wConsF (wBin bSubs (wVar 6) (wVar 5)) (wConsF (wVar 5) wNil)))
def t__law_same_s1 : WS :=
  (wSeq (wAsg 6 wNo)
  (wExtend 2 (wBin bAdd (wComp wiNo (wgName 5) wYes t__law_same_c2 [5]) (wComp wiNo (wgName 5) wYes t__law_same_c3 [5]))))
def t__law_same_c4 : WE :=
  (wTup (wConsF (wBin bSubs (wVar 3) (wVar 7)) (wConsF (wBin bSubs (wVar 4) (wVar 7)) wNil)))
def t__law_same_s2 : WS :=
  (wExtend 2 (wComp (wiR1 (wCons (wCl cLen (wCons (wVar 4) wNil)) wNil)) (wgName 7) wYes t__law_same_c4 [7]))
def t__law_same_w1 : WS :=
  (wSeq (wPopT 2 (wgTup 2 (wgCons (wgName 3) (wgCons (wgName 4) wgNil))))
  (wIf (wTest (wIs "dict" (wVar 4))) (wSeq (wIf (wOr (wNot (wTest (wIs "dict" (wVar 3)))) (wOr (wTest (wBin bNe (wCl cLen (wCons (wVar 3) wNil)) (wCl cLen (wCons (wVar 4) wNil)))) (wTest (wBin bNe (wComp wiNo (wgName 5) (wTest (wBin bNotIn (wVar 5) (wVar 3))) (wVar 5) [5]) (wLst wNil))))) (wRet (wCon (.bl false))) wNext)
  t__law_same_s1) (wIf (wOr (wTest (wIs "tuple" (wVar 4))) (wTest (wIs "list" (wVar 4)))) (wSeq (wIf (wOr (wTest (wBin bNe (wIs "tuple" (wVar 3)) (wIs "tuple" (wVar 4)))) (wOr (wTest (wBin bNe (wIs "list" (wVar 3)) (wIs "list" (wVar 4)))) (wTest (wBin bNe (wCl cLen (wCons (wVar 3) wNil)) (wCl cLen (wCons (wVar 4) wNil)))))) (wRet (wCon (.bl false))) wNext)
  t__law_same_s2) (wIf (wOr (wTest (wBin bNe (wIs "bool" (wVar 3)) (wIs "bool" (wVar 4)))) (wOr (wTest (wBin bNe (wIs "int" (wVar 3)) (wIs "int" (wVar 4)))) (wOr (wTest (wBin bNe (wIs "str" (wVar 3)) (wIs "str" (wVar 4)))) (wTest (wBin bNe (wVar 3) (wVar 4)))))) (wRet (wCon (.bl false))) wNext))))
def t__law_same : WS :=
  (wSeq (wAsg 2 (wLst (wConsF (wTup (wConsF (wVar 0) (wConsF (wVar 1) wNil))) wNil)))
  (wSeq (wWhile (wTest (wBin bNe (wVar 2) (wLst wNil))) t__law_same_w1)
  (wRet (wCon (.bl true)))))
def t__law_long : WS :=
  (wRet (wBin bSubs (wTup (wConsF (wCon (.int 31)) (wConsF (wIfE (wTest (wBin bEq (wBin bMul (wBin bDiv (wVar 0) (wCon (.int 4))) (wCon (.int 4))) (wVar 0))) (wCon (.int 29)) (wCon (.int 28))) (wConsF (wCon (.int 31)) (wConsF (wCon (.int 30)) (wConsF (wCon (.int 31)) (wConsF (wCon (.int 30)) (wConsF (wCon (.int 31)) (wConsF (wCon (.int 31)) (wConsF (wCon (.int 30)) (wConsF (wCon (.int 31)) (wConsF (wCon (.int 30)) (wConsF (wCon (.int 31)) wNil))))))))))))) (wBin bSub (wVar 1) (wCon (.int 1)))))
def t__law_day_c1 (sp__law_long : FS) : WE :=
  (wCall sp__law_long (xCons (wVar 0) (xCons (wVar 3) xNil)))
def t__law_day (sp__law_long : FS) : WS :=
  (wRet (wBin bSub (wBin bAdd (wBin bAdd (wBin bAdd (wBin bMul (wCon (.int 365)) (wVar 0)) (wBin bDiv (wBin bAdd (wVar 0) (wCon (.int 3))) (wCon (.int 4)))) (wCl cSum (wCons (wComp (wiR2 (wCons (wCon (.int 1)) (wCons (wVar 1) wNil))) (wgName 3) wYes (t__law_day_c1 sp__law_long) [3]) wNil))) (wVar 2)) (wCon (.int 1))))
def t__law_date_w1 : WS :=
  (wAsg 1 (wBin bAdd (wVar 1) (wCon (.int 1))))
def t__law_date_w2 (sp__law_long : FS) : WS :=
  (wPar [2, 3] (nCons (wBin bAdd (wVar 2) (wCon (.int 1))) (nCons (wBin bSub (wVar 3) (wCall sp__law_long (xCons (wVar 1) (xCons (wVar 2) xNil)))) nNil)))
def t__law_date_s1 : WS :=
  (wRet (wTup (wConsF (wVar 1) (wConsF (wVar 2) (wConsF (wBin bAdd (wVar 3) (wCon (.int 1))) wNil)))))
def t__law_date_s2 (sp__law_day : FS) (sp__law_long : FS) : WS :=
  (wSeq (wPar [2, 3] (nCons (wCon (.int 1)) (nCons (wBin bSub (wVar 0) (wCall sp__law_day (xCons (wVar 1) (xCons (wCon (.int 1)) (xCons (wCon (.int 1)) xNil))))) nNil)))
  (wSeq (wWhile (wTest (wBin bGeD (wVar 3) (wCall sp__law_long (xCons (wVar 1) (xCons (wVar 2) xNil))))) (t__law_date_w2 sp__law_long))
  t__law_date_s1))
def t__law_date (sp__law_day : FS) (sp__law_long : FS) : WS :=
  (wSeq (wAsg 1 (wBin bDiv (wVar 0) (wCon (.int 366))))
  (wSeq (wWhile (wTest (wBin bLeD (wCall sp__law_day (xCons (wBin bAdd (wVar 1) (wCon (.int 1))) (xCons (wCon (.int 1)) (xCons (wCon (.int 1)) xNil)))) (wVar 0))) t__law_date_w1)
  (t__law_date_s2 sp__law_day sp__law_long)))
def t__law_weekday : WS :=
  (wRet (wBin bMod (wCl cInt (wCons (wBin bAdd (wVar 0) (wCon (.int 4))) wNil)) (wCon (.int 7))))
def t__law_next_day_i1 (sp__law_weekday : FS) : WT :=
  (wTest (wBin bEq (wCall sp__law_weekday (xCons (wVar 2) xNil)) (wVar 1)))
def t__law_next_day (sp__law_weekday : FS) : WS :=
  (wRet (wBin bSubs (wComp (wiR2 (wCons (wBin bAdd (wVar 0) (wCon (.int 1))) (wCons (wBin bAdd (wVar 0) (wCon (.int 8))) wNil))) (wgName 2) (t__law_next_day_i1 sp__law_weekday) (wVar 2) [2]) (wCon (.int 0))))
end VD

namespace VD
open PySem PySem.Spec PyProof.Rows L2 VL
open Evl (Ex)
/-! ### _law_same: structural equality -/
mutual
/-- plain data without dicts -/
def sg : D → Bool
  | .non => true
  | .bl _ => true
  | .int _ => true
  | .str s => s.cps.all (· < 0x110000)
  | .tup xs => sgs xs
  | .lst xs => sgs xs
  | _ => false
def sgs : List D → Bool
  | [] => true
  | x :: r => sg x && sgs r
end
mutual
def szD : D → Nat
  | .tup xs => szs xs + 1
  | .lst xs => szs xs + 1
  | _ => 1
def szs : List D → Nat
  | [] => 0
  | x :: r => szD x + szs r
end
theorem sgs_all {xs : List D} : sgs xs = true ↔ ∀ x ∈ xs, sg x = true := by
  induction xs with
  | nil => simp [sgs]
  | cons x xs ih => simp [sgs, ih]
theorem szs_len : ∀ xs : List D, xs.length ≤ szs xs
  | [] => by simp [szs]
  | x :: xs => by
    have := szs_len xs
    have h : 1 ≤ szD x := by cases x <;> simp [szD]
    simp [szs]; omega
theorem szs_append : ∀ xs ys : List D, szs (xs ++ ys) = szs xs + szs ys
  | [], ys => by simp [szs]
  | x :: xs, ys => by simp [szs, szs_append xs ys]; omega
def prD (p : D × D) : D := .tup [p.1, p.2]
/-- of what may be compared -/
def SgOk (n : Nat) (d : D) : Prop := sg d = true ∧ okE n d = true
theorem SgOk.kids {n : Nat} {xs : List D} (h : SgOk (n + 1) (.tup xs)) {x : D} (hx : x ∈ xs) : SgOk n x := ⟨sgs_all.mp h.1 x hx, okEs_all.mp h.2 x hx⟩
theorem SgOk.kidsL {n : Nat} {xs : List D} (h : SgOk (n + 1) (.lst xs)) {x : D} (hx : x ∈ xs) : SgOk n x := ⟨sgs_all.mp h.1 x hx, okEs_all.mp h.2 x hx⟩
theorem okE_up {n m : Nat} (hm : n ≤ m) {d : D} (h : okE n d = true) : okE m d = true := by
  have key : ∀ (n : Nat), (∀ (m : Nat) (d : D), n ≤ m → okE n d = true → okE m d = true) := fun n => by
    induction n with
    | zero =>
      intro m d hm h
      cases d <;> simp [okE] at h ⊢
      exact h
    | succ n ih =>
      intro m d hm h
      obtain ⟨m, rfl⟩ : ∃ k, m = k + 1 := ⟨m - 1, by omega⟩
      have hm : n ≤ m := by omega
      cases d <;> simp only [okE] at h ⊢ <;> first | exact h | (rw [okEs_all] at h ⊢; exact fun x hx => ih m x hm (h x hx)) | skip
      all_goals simp [okE] at h
  exact key n m d hm h
theorem bNe_nil {xs : List D} (h : okE 20 (.lst xs) = true) : bNe (.lst xs) (.lst []) = ozB (!decide (xs = [])) := by
  unfold bNe
  rw [if_pos ⟨h, by simp [okE, okEs]⟩]
  cases xs <;> simp [eqv, eqvs]
theorem bNe_ok {a b : D} (h1 : okE 20 a = true) (h2 : okE 20 b = true) : bNe a b = ozB (!eqv a b) := by
  unfold bNe
  rw [if_pos ⟨h1, h2⟩]
theorem isB_tab : isB "NoneType" "dict" = false ∧ isB "bool" "dict" = false ∧ isB "int" "dict" = false ∧ isB "str" "dict" = false ∧ isB "list" "dict" = false ∧ isB "tuple" "dict" = false ∧
    isB "NoneType" "tuple" = false ∧ isB "bool" "tuple" = false ∧ isB "int" "tuple" = false ∧ isB "str" "tuple" = false ∧ isB "list" "tuple" = false ∧ isB "tuple" "tuple" = true ∧
    isB "NoneType" "list" = false ∧ isB "bool" "list" = false ∧ isB "int" "list" = false ∧ isB "str" "list" = false ∧ isB "list" "list" = true ∧ isB "tuple" "list" = false ∧
    isB "NoneType" "bool" = false ∧ isB "bool" "bool" = true ∧ isB "int" "bool" = false ∧ isB "str" "bool" = false ∧ isB "list" "bool" = false ∧ isB "tuple" "bool" = false ∧
    isB "NoneType" "int" = false ∧ isB "bool" "int" = true ∧ isB "int" "int" = true ∧ isB "str" "int" = false ∧ isB "list" "int" = false ∧ isB "tuple" "int" = false ∧
    isB "NoneType" "str" = false ∧ isB "bool" "str" = false ∧ isB "int" "str" = false ∧ isB "str" "str" = true ∧ isB "list" "str" = false ∧ isB "tuple" "str" = false := by decide
def tyS : D → String
  | .non => "NoneType"
  | .bl _ => "bool"
  | .int _ => "int"
  | .str _ => "str"
  | .lst _ => "list"
  | .tup _ => "tuple"
  | _ => "dict"
theorem tyD_sg {d : D} (h : sg d = true) : tyD d = some (tyS d) := by cases d <;> simp [sg] at h <;> rfl
/-- the pairs of two rows -/
def zipP : List D → List D → List (D × D)
  | x :: xs, y :: ys => (x, y) :: zipP xs ys
  | _, _ => []
theorem zipP_mem : ∀ {xs ys : List D} {p : D × D}, p ∈ zipP xs ys → p.1 ∈ xs ∧ p.2 ∈ ys
  | [], _, _, h => by simp [zipP] at h
  | _ :: _, [], _, h => by simp [zipP] at h
  | x :: xs, y :: ys, p, h => by
    rcases List.mem_cons.mp h with rfl | h
    · simp
    · have := zipP_mem h; simp [this]
theorem zipP_eq : ∀ {xs ys : List D}, xs.length = ys.length → ((∀ p ∈ zipP xs ys, p.1 = p.2) ↔ xs = ys)
  | [], [], _ => by simp [zipP]
  | [], _ :: _, h => by simp at h
  | _ :: _, [], h => by simp at h
  | x :: xs, y :: ys, h => by
    have ih := zipP_eq (xs := xs) (ys := ys) (by simpa using h)
    simp only [zipP, List.mem_cons, forall_eq_or_imp, List.cons.injEq, ih]
theorem zipP_len : ∀ {xs ys : List D}, xs.length = ys.length → (zipP xs ys).length = ys.length
  | [], [], _ => rfl
  | [], _ :: _, h => by simp at h
  | _ :: _, [], h => by simp at h
  | x :: xs, y :: ys, h => by simp [zipP, zipP_len (xs := xs) (ys := ys) (by simpa using h)]
theorem zipP_get : ∀ {xs ys : List D} {i : Nat} {a b : D}, xs[i]? = some a → ys[i]? = some b → (zipP xs ys)[i]? = some (a, b)
  | [], _, _, _, _, h, _ => by simp at h
  | _ :: _, [], _, _, _, _, h => by simp at h
  | x :: xs, y :: ys, 0, a, b, h, h' => by simp at h h'; simp [zipP, h, h']
  | x :: xs, y :: ys, i + 1, a, b, h, h' => by
    rw [zipP, List.getElem?_cons_succ]
    exact zipP_get (by simpa using h) (by simpa using h')
theorem zipP_snd : ∀ {xs ys : List D}, xs.length = ys.length → (zipP xs ys).map (·.2) = ys
  | [], [], _ => rfl
  | [], _ :: _, h => by simp at h
  | _ :: _, [], h => by simp at h
  | x :: xs, y :: ys, h => by simp [zipP, zipP_snd (xs := xs) (ys := ys) (by simpa using h)]
theorem range_fm {α : Type} (l : List α) (f : α → D) : (List.range l.length).filterMap (fun i => (l[i]?).map f) = l.map f := by
  induction l with
  | nil => rfl
  | cons x l ih =>
    rw [List.length_cons, List.range_succ_eq_map, List.filterMap_cons_some (b := f x) (by simp), List.filterMap_map, List.map_cons]
    congr 1
def szp (l : List (D × D)) : Nat := szs (l.map (·.2))
def PrOk (p : D × D) : Prop := SgOk 15 p.1 ∧ SgOk 15 p.2
theorem ok_prs {l : List (D × D)} (h : ∀ p ∈ l, PrOk p) : okE 20 (.lst (l.map prD)) = true := by
  rw [okE_lst, okEs_all]
  intro x hx
  obtain ⟨p, hp, rfl⟩ := List.mem_map.mp hx
  unfold prD
  rw [okE_tup, okEs_all]
  intro y hy
  simp at hy
  rcases hy with rfl | rfl
  · exact okE_up (by decide) (h p hp).1.2
  · exact okE_up (by decide) (h p hp).2.2
theorem same_rows_tup {P : PEnds} {x0 x1 x5 x6 x7 : Slot} {l : List (D × D)} {xs ys : List D} (hl : ∀ p ∈ l, PrOk p) (hu : SgOk 15 (.tup xs)) (hv : SgOk 15 (.tup ys)) (hlen : xs.length = ys.length) (hz : szp l + szs ys ≤ 5000)
    (go : ∀ (l' : List (D × D)) (x3 x4 : Slot), (∀ p ∈ l', PrOk p) → szp l' ≤ szp l + szs ys → ((∀ p ∈ l', p.1 = p.2) ↔ (∀ p ∈ l, p.1 = p.2) ∧ xs = ys) → P.nx [x0, x1, .ow (.lst (l'.map prD)), x3, x4, x5, x6, x7]) :
    t__law_same_s2 P [x0, x1, .ow (.lst (l.map prD)), .fz (.tup xs), .fz (.tup ys), x5, x6, x7] := by
  have hll : l.length ≤ szp l := by have := szs_len (l.map (·.2)); rwa [List.length_map] at this
  have hyl := szs_len ys
  unfold t__law_same_s2
  simp (maxSteps := 4000000) only [wSeq, wAsg, wgN, wVar, wCon, wBin, wUn, wCl, wCons, wNil, wConsF, wTup, wLst, wTest, wIf, wFor, wiR1, wiR2, wgName, oB, toF, toN, wRet, wRetN, wNext, wDrop, wMut, fAppend, wPar, nCons, nNil, setAll, sl, wAugI, wAug, bAddI, bSub, bAdd, wAnd, wOr, wNot, wAndV, wOrV, wNotV, wBl, wIfE, wCall, xCons, xNil, xW, Kd.ret, wiF, wiO, seqOf, wgTup, wgCons, wgNil, wAsgT, wSlice, wPSome, wPNone, dSlice, bMul, bMod, bDiv, bPow, cInt, cAbs, cLen, cTuple, cList, cmpD, ozI, ozB, uNeg, wComp, wipeR, restR, wYes, wBreak, wCont, wLstRg, wTupRg, wRg1, wRg2, wExtend, bIs, bIsNot, isNonD, List.set_cons_zero, List.set_cons_succ, List.getElem?_cons_zero, List.getElem?_cons_succ, List.getD_cons_zero, List.getD_cons_succ, List.length_cons, List.length_nil, if_true, if_false, reduceCtorEq, ite_true, ite_false, and_true, true_and, rho0, VL.A.slot, List.map_cons, List.map_nil, List.cons_append, List.nil_append, List.replicate, Nat.add_eq, Nat.reduceAdd, Nat.reduceSub, Bool.false_eq_true, decide_eq_true_eq, Nat.zero_le, Nat.zero_add, lim1, lim2, lim3, lim4, lim5, lim6, lim7, lim8, Bool.not_true, Bool.not_false, decide_true, decide_false]
  refine ⟨⟨_, rfl⟩, by unfold i62; omega, ?_⟩
  rw [Int.toNat_natCast]
  unfold rng
  refine comp_mp (fun i : Nat => D.int (0 + (i : Int))) (fun i => ((zipP xs ys)[i]?).map prD) (List.range ys.length) (by rw [List.length_range]; unfold LIM; omega) (fun i hi K hK => ?_) ?_
  · have hi := List.mem_range.mp hi
    have g1 := List.getElem?_eq_getElem (l := xs) (i := i) (by omega)
    have g2 := List.getElem?_eq_getElem (l := ys) (i := i) (by omega)
    rw [zipP_get g1 g2] at hK
    unfold t__law_same_c4
    rw [Int.zero_add]
    simp (maxSteps := 4000000) only [wSeq, wAsg, wgN, wVar, wCon, wBin, wUn, wCl, wCons, wNil, wConsF, wTup, wLst, wTest, wIf, wFor, wiR1, wiR2, wgName, oB, toF, toN, wRet, wRetN, wNext, wDrop, wMut, fAppend, wPar, nCons, nNil, setAll, sl, wAugI, wAug, bAddI, bSub, bAdd, wAnd, wOr, wNot, wAndV, wOrV, wNotV, wBl, wIfE, wCall, xCons, xNil, xW, Kd.ret, wiF, wiO, seqOf, wgTup, wgCons, wgNil, wAsgT, wSlice, wPSome, wPNone, dSlice, bMul, bMod, bDiv, bPow, cInt, cAbs, cLen, cTuple, cList, cmpD, ozI, ozB, uNeg, wComp, wipeR, restR, wYes, wBreak, wCont, wLstRg, wTupRg, wRg1, wRg2, wExtend, bIs, bIsNot, isNonD, List.set_cons_zero, List.set_cons_succ, List.getElem?_cons_zero, List.getElem?_cons_succ, List.getD_cons_zero, List.getD_cons_succ, List.length_cons, List.length_nil, if_true, if_false, reduceCtorEq, ite_true, ite_false, and_true, true_and, rho0, VL.A.slot, List.map_cons, List.map_nil, List.cons_append, List.nil_append, List.replicate, Nat.add_eq, Nat.reduceAdd, Nat.reduceSub, Bool.false_eq_true, decide_eq_true_eq, Nat.zero_le, Nat.zero_add, lim1, lim2, lim3, lim4, lim5, lim6, lim7, lim8, Bool.not_true, Bool.not_false, decide_true, decide_false, subs_tup (atI_nat g1), subs_tup (atI_nat g2)]
    exact hK
  · have e1 := range_fm (zipP xs ys) prD
    rw [zipP_len hlen] at e1
    rw [e1]
    simp (maxSteps := 4000000) only [wSeq, wAsg, wgN, wVar, wCon, wBin, wUn, wCl, wCons, wNil, wConsF, wTup, wLst, wTest, wIf, wFor, wiR1, wiR2, wgName, oB, toF, toN, wRet, wRetN, wNext, wDrop, wMut, fAppend, wPar, nCons, nNil, setAll, sl, wAugI, wAug, bAddI, bSub, bAdd, wAnd, wOr, wNot, wAndV, wOrV, wNotV, wBl, wIfE, wCall, xCons, xNil, xW, Kd.ret, wiF, wiO, seqOf, wgTup, wgCons, wgNil, wAsgT, wSlice, wPSome, wPNone, dSlice, bMul, bMod, bDiv, bPow, cInt, cAbs, cLen, cTuple, cList, cmpD, ozI, ozB, uNeg, wComp, wipeR, restR, wYes, wBreak, wCont, wLstRg, wTupRg, wRg1, wRg2, wExtend, bIs, bIsNot, isNonD, List.set_cons_zero, List.set_cons_succ, List.getElem?_cons_zero, List.getElem?_cons_succ, List.getD_cons_zero, List.getD_cons_succ, List.length_cons, List.length_nil, if_true, if_false, reduceCtorEq, ite_true, ite_false, and_true, true_and, rho0, VL.A.slot, List.map_cons, List.map_nil, List.cons_append, List.nil_append, List.replicate, Nat.add_eq, Nat.reduceAdd, Nat.reduceSub, Bool.false_eq_true, decide_eq_true_eq, Nat.zero_le, Nat.zero_add, lim1, lim2, lim3, lim4, lim5, lim6, lim7, lim8, Bool.not_true, Bool.not_false, decide_true, decide_false, List.length_map]
    rw [zipP_len hlen, ← List.map_append]
    refine ⟨by unfold LIM; omega, go (l ++ zipP xs ys) _ _ (fun p hp => ?_) ?_ ?_⟩
    · rcases List.mem_append.mp hp with h | h
      · exact hl p h
      · obtain ⟨h1, h2⟩ := zipP_mem h
        obtain ⟨a1, a2⟩ := hu.kids (n := 14) h1
        obtain ⟨b1, b2⟩ := hv.kids (n := 14) h2
        exact ⟨⟨a1, okE_up (by decide) a2⟩, ⟨b1, okE_up (by decide) b2⟩⟩
    · unfold szp
      rw [List.map_append, szs_append, zipP_snd hlen]
      exact Nat.le_refl _
    · simp only [List.mem_append, or_imp, forall_and, zipP_eq hlen]
theorem same_rows_lst {P : PEnds} {x0 x1 x5 x6 x7 : Slot} {l : List (D × D)} {xs ys : List D} (hl : ∀ p ∈ l, PrOk p) (hu : SgOk 15 (.lst xs)) (hv : SgOk 15 (.lst ys)) (hlen : xs.length = ys.length) (hz : szp l + szs ys ≤ 5000)
    (go : ∀ (l' : List (D × D)) (x3 x4 : Slot), (∀ p ∈ l', PrOk p) → szp l' ≤ szp l + szs ys → ((∀ p ∈ l', p.1 = p.2) ↔ (∀ p ∈ l, p.1 = p.2) ∧ xs = ys) → P.nx [x0, x1, .ow (.lst (l'.map prD)), x3, x4, x5, x6, x7]) :
    t__law_same_s2 P [x0, x1, .ow (.lst (l.map prD)), .fz (.lst xs), .fz (.lst ys), x5, x6, x7] := by
  have hll : l.length ≤ szp l := by have := szs_len (l.map (·.2)); rwa [List.length_map] at this
  have hyl := szs_len ys
  unfold t__law_same_s2
  simp (maxSteps := 4000000) only [wSeq, wAsg, wgN, wVar, wCon, wBin, wUn, wCl, wCons, wNil, wConsF, wTup, wLst, wTest, wIf, wFor, wiR1, wiR2, wgName, oB, toF, toN, wRet, wRetN, wNext, wDrop, wMut, fAppend, wPar, nCons, nNil, setAll, sl, wAugI, wAug, bAddI, bSub, bAdd, wAnd, wOr, wNot, wAndV, wOrV, wNotV, wBl, wIfE, wCall, xCons, xNil, xW, Kd.ret, wiF, wiO, seqOf, wgTup, wgCons, wgNil, wAsgT, wSlice, wPSome, wPNone, dSlice, bMul, bMod, bDiv, bPow, cInt, cAbs, cLen, cTuple, cList, cmpD, ozI, ozB, uNeg, wComp, wipeR, restR, wYes, wBreak, wCont, wLstRg, wTupRg, wRg1, wRg2, wExtend, bIs, bIsNot, isNonD, List.set_cons_zero, List.set_cons_succ, List.getElem?_cons_zero, List.getElem?_cons_succ, List.getD_cons_zero, List.getD_cons_succ, List.length_cons, List.length_nil, if_true, if_false, reduceCtorEq, ite_true, ite_false, and_true, true_and, rho0, VL.A.slot, List.map_cons, List.map_nil, List.cons_append, List.nil_append, List.replicate, Nat.add_eq, Nat.reduceAdd, Nat.reduceSub, Bool.false_eq_true, decide_eq_true_eq, Nat.zero_le, Nat.zero_add, lim1, lim2, lim3, lim4, lim5, lim6, lim7, lim8, Bool.not_true, Bool.not_false, decide_true, decide_false]
  refine ⟨⟨_, rfl⟩, by unfold i62; omega, ?_⟩
  rw [Int.toNat_natCast]
  unfold rng
  refine comp_mp (fun i : Nat => D.int (0 + (i : Int))) (fun i => ((zipP xs ys)[i]?).map prD) (List.range ys.length) (by rw [List.length_range]; unfold LIM; omega) (fun i hi K hK => ?_) ?_
  · have hi := List.mem_range.mp hi
    have g1 := List.getElem?_eq_getElem (l := xs) (i := i) (by omega)
    have g2 := List.getElem?_eq_getElem (l := ys) (i := i) (by omega)
    rw [zipP_get g1 g2] at hK
    unfold t__law_same_c4
    rw [Int.zero_add]
    simp (maxSteps := 4000000) only [wSeq, wAsg, wgN, wVar, wCon, wBin, wUn, wCl, wCons, wNil, wConsF, wTup, wLst, wTest, wIf, wFor, wiR1, wiR2, wgName, oB, toF, toN, wRet, wRetN, wNext, wDrop, wMut, fAppend, wPar, nCons, nNil, setAll, sl, wAugI, wAug, bAddI, bSub, bAdd, wAnd, wOr, wNot, wAndV, wOrV, wNotV, wBl, wIfE, wCall, xCons, xNil, xW, Kd.ret, wiF, wiO, seqOf, wgTup, wgCons, wgNil, wAsgT, wSlice, wPSome, wPNone, dSlice, bMul, bMod, bDiv, bPow, cInt, cAbs, cLen, cTuple, cList, cmpD, ozI, ozB, uNeg, wComp, wipeR, restR, wYes, wBreak, wCont, wLstRg, wTupRg, wRg1, wRg2, wExtend, bIs, bIsNot, isNonD, List.set_cons_zero, List.set_cons_succ, List.getElem?_cons_zero, List.getElem?_cons_succ, List.getD_cons_zero, List.getD_cons_succ, List.length_cons, List.length_nil, if_true, if_false, reduceCtorEq, ite_true, ite_false, and_true, true_and, rho0, VL.A.slot, List.map_cons, List.map_nil, List.cons_append, List.nil_append, List.replicate, Nat.add_eq, Nat.reduceAdd, Nat.reduceSub, Bool.false_eq_true, decide_eq_true_eq, Nat.zero_le, Nat.zero_add, lim1, lim2, lim3, lim4, lim5, lim6, lim7, lim8, Bool.not_true, Bool.not_false, decide_true, decide_false, subs_lst (atI_nat g1), subs_lst (atI_nat g2)]
    exact hK
  · have e1 := range_fm (zipP xs ys) prD
    rw [zipP_len hlen] at e1
    rw [e1]
    simp (maxSteps := 4000000) only [wSeq, wAsg, wgN, wVar, wCon, wBin, wUn, wCl, wCons, wNil, wConsF, wTup, wLst, wTest, wIf, wFor, wiR1, wiR2, wgName, oB, toF, toN, wRet, wRetN, wNext, wDrop, wMut, fAppend, wPar, nCons, nNil, setAll, sl, wAugI, wAug, bAddI, bSub, bAdd, wAnd, wOr, wNot, wAndV, wOrV, wNotV, wBl, wIfE, wCall, xCons, xNil, xW, Kd.ret, wiF, wiO, seqOf, wgTup, wgCons, wgNil, wAsgT, wSlice, wPSome, wPNone, dSlice, bMul, bMod, bDiv, bPow, cInt, cAbs, cLen, cTuple, cList, cmpD, ozI, ozB, uNeg, wComp, wipeR, restR, wYes, wBreak, wCont, wLstRg, wTupRg, wRg1, wRg2, wExtend, bIs, bIsNot, isNonD, List.set_cons_zero, List.set_cons_succ, List.getElem?_cons_zero, List.getElem?_cons_succ, List.getD_cons_zero, List.getD_cons_succ, List.length_cons, List.length_nil, if_true, if_false, reduceCtorEq, ite_true, ite_false, and_true, true_and, rho0, VL.A.slot, List.map_cons, List.map_nil, List.cons_append, List.nil_append, List.replicate, Nat.add_eq, Nat.reduceAdd, Nat.reduceSub, Bool.false_eq_true, decide_eq_true_eq, Nat.zero_le, Nat.zero_add, lim1, lim2, lim3, lim4, lim5, lim6, lim7, lim8, Bool.not_true, Bool.not_false, decide_true, decide_false, List.length_map]
    rw [zipP_len hlen, ← List.map_append]
    refine ⟨by unfold LIM; omega, go (l ++ zipP xs ys) _ _ (fun p hp => ?_) ?_ ?_⟩
    · rcases List.mem_append.mp hp with h | h
      · exact hl p h
      · obtain ⟨h1, h2⟩ := zipP_mem h
        obtain ⟨a1, a2⟩ := hu.kidsL (n := 14) h1
        obtain ⟨b1, b2⟩ := hv.kidsL (n := 14) h2
        exact ⟨⟨a1, okE_up (by decide) a2⟩, ⟨b1, okE_up (by decide) b2⟩⟩
    · unfold szp
      rw [List.map_append, szs_append, zipP_snd hlen]
      exact Nat.le_refl _
    · simp only [List.mem_append, or_imp, forall_and, zipP_eq hlen]
theorem same_step {P : PEnds} {x0 x1 x3 x4 x5 x6 x7 : Slot} {l : List (D × D)} {u v : D} (hl : ∀ p ∈ l, PrOk p) (hu : SgOk 15 u) (hv : SgOk 15 v) (hz : szp (l ++ [(u, v)]) ≤ 5000)
    (no : u ≠ v → P.rt (.bl false) .fz) (go : ∀ (l' : List (D × D)) (x3 x4 : Slot), (∀ p ∈ l', PrOk p) → szp l' < szp (l ++ [(u, v)]) → ((∀ p ∈ l', p.1 = p.2) ↔ (∀ p ∈ l, p.1 = p.2) ∧ u = v) → P.nx [x0, x1, .ow (.lst (l'.map prD)), x3, x4, x5, x6, x7]) :
    t__law_same_w1 P [x0, x1, .ow (.lst ((l ++ [(u, v)]).map prD)), x3, x4, x5, x6, x7] := by
  have tu := tyD_sg hu.1
  have tv := tyD_sg hv.1
  obtain ⟨i1, i2, i3, i4, i5, i6, j1, j2, j3, j4, j5, j6, k1, k2, k3, k4, k5, k6, l1, l2, l3, l4, l5, l6, m1, m2, m3, m4, m5, m6, n1, n2, n3, n4, n5, n6⟩ := isB_tab
  have hza : szp (l ++ [(u, v)]) = szp l + szD v := by unfold szp; rw [List.map_append, szs_append]; simp [szs]
  have hv1 : 1 ≤ szD v := by cases v <;> simp [szD]
  have same : u = v → P.nx [x0, x1, .ow (.lst (l.map prD)), .fz u, .fz v, x5, x6, x7] := fun e => go l _ _ hl (by omega) ⟨fun h => ⟨h, e⟩, fun h => h.1⟩
  have hne : bNe u v = ozB (!eqv u v) := bNe_ok (okE_up (by decide) hu.2) (okE_up (by decide) hv.2)
  unfold t__law_same_w1
  have e1 : (l ++ [(u, v)]).map prD = l.map prD ++ [.tup [u, v]] := by rw [List.map_append]; rfl
  rw [e1]
  simp (maxSteps := 4000000) only [wSeq, wAsg, wgN, wVar, wCon, wBin, wUn, wCl, wCons, wNil, wConsF, wTup, wLst, wTest, wIf, wFor, wiR1, wiR2, wgName, oB, toF, toN, wRet, wRetN, wNext, wDrop, wMut, fAppend, wPar, nCons, nNil, setAll, sl, wAugI, wAug, bAddI, bSub, bAdd, wAnd, wOr, wNot, wAndV, wOrV, wNotV, wBl, wIfE, wCall, xCons, xNil, xW, Kd.ret, wiF, wiO, seqOf, wgTup, wgCons, wgNil, wAsgT, wSlice, wPSome, wPNone, dSlice, bMul, bMod, bDiv, bPow, cInt, cAbs, cLen, cTuple, cList, cmpD, ozI, ozB, uNeg, wComp, wipeR, restR, wYes, wBreak, wCont, wLstRg, wTupRg, wRg1, wRg2, wExtend, bIs, bIsNot, isNonD, List.set_cons_zero, List.set_cons_succ, List.getElem?_cons_zero, List.getElem?_cons_succ, List.getD_cons_zero, List.getD_cons_succ, List.length_cons, List.length_nil, if_true, if_false, reduceCtorEq, ite_true, ite_false, and_true, true_and, rho0, VL.A.slot, List.map_cons, List.map_nil, List.cons_append, List.nil_append, List.replicate, Nat.add_eq, Nat.reduceAdd, Nat.reduceSub, Bool.false_eq_true, decide_eq_true_eq, Nat.zero_le, Nat.zero_add, lim1, lim2, lim3, lim4, lim5, lim6, lim7, lim8, Bool.not_true, Bool.not_false, decide_true, decide_false, wPopT, List.getLast?_concat, List.dropLast_concat, wIs, tu, tv, bNe_bl]
  clear e1
  cases v with
  | dk _ => simp [SgOk, sg] at hv
  | dt _ => simp [SgOk, sg] at hv
  | fl _ => simp [SgOk, sg] at hv
  | ft _ => simp [SgOk, sg] at hv
  | tup ys =>
    simp only [tyS, i6, j6, k6, if_true, if_false, Bool.false_eq_true]
    cases u with
    | dk _ => simp [SgOk, sg] at hu
    | dt _ => simp [SgOk, sg] at hu
    | fl _ => simp [SgOk, sg] at hu
    | ft _ => simp [SgOk, sg] at hu
    | tup xs =>
      simp only [tyS, j6, k6, bne_self_eq_false, if_false, Bool.false_eq_true, bNe_ints, ozB]
      by_cases hlen : xs.length = ys.length
      · simp only [hlen, decide_true, Bool.not_true, if_false, Bool.false_eq_true]
        have hs : szD (.tup ys) = szs ys + 1 := by simp [szD]
        exact same_rows_tup hl hu hv hlen (by omega) fun l' x3 x4 a b c => go l' x3 x4 a (by omega) (by rw [c]; simp)
      · have : ¬ (xs.length : Int) = (ys.length : Int) := by omega
        simp only [this, decide_false, Bool.not_false, if_true]
        exact no fun e => hlen (by rw [D.tup.inj e])
    | _ => simp only [tyS, j1, j2, j3, j4, j5]; exact no (by simp)
  | lst ys =>
    simp only [tyS, i5, j5, k5, if_true, if_false, Bool.false_eq_true]
    cases u with
    | dk _ => simp [SgOk, sg] at hu
    | dt _ => simp [SgOk, sg] at hu
    | fl _ => simp [SgOk, sg] at hu
    | ft _ => simp [SgOk, sg] at hu
    | lst xs =>
      simp only [tyS, j5, k5, bne_self_eq_false, if_false, Bool.false_eq_true, bNe_ints, ozB]
      by_cases hlen : xs.length = ys.length
      · simp only [hlen, decide_true, Bool.not_true, if_false, Bool.false_eq_true]
        have hs : szD (.lst ys) = szs ys + 1 := by simp [szD]
        exact same_rows_lst hl hu hv hlen (by omega) fun l' x3 x4 a b c => go l' x3 x4 a (by omega) (by rw [c]; simp)
      · have : ¬ (xs.length : Int) = (ys.length : Int) := by omega
        simp only [this, decide_false, Bool.not_false, if_true]
        exact no fun e => hlen (by rw [D.lst.inj e])
    | tup xs => simp only [tyS, j6, j5]; exact no (by simp)
    | _ =>
      simp only [tyS, j1, j2, j3, j4, j5, k1, k2, k3, k4, k5, bne_self_eq_false, if_false, Bool.false_eq_true]
      exact no (by simp)
  | _ =>
    cases u with
    | dk _ => simp [SgOk, sg] at hu
    | dt _ => simp [SgOk, sg] at hu
    | fl _ => simp [SgOk, sg] at hu
    | ft _ => simp [SgOk, sg] at hu
    | _ =>
      simp only [tyS, i1, i2, i3, i4, j1, j2, j3, j4, k1, k2, k3, k4, l1, l2, l3, l4, l5, l6, m1, m2, m3, m4, m5, m6, n1, n2, n3, n4, n5, n6, bne_self_eq_false, if_false, if_true, Bool.false_eq_true, hne, ozB, eqv, Bool.not_false, Bool.not_true, show (true != true) = false from rfl, show (false != false) = false from rfl, show (true != false) = true from rfl, show (false != true) = true from rfl]
      first
        | exact same rfl
        | exact no (by simp)
        | (split
           · rename_i hh; exact no (by intro z; cases z; simp at hh)
           · rename_i hh; exact same (by simpa using hh))
def spSame : FS := fun as q => ∃ a b : D, as = [.d a, .d b] ∧ SgOk 15 a ∧ SgOk 15 b ∧ szD b ≤ 5000 ∧ ∀ c : Bool, (c = true ↔ a = b) → q (.bl c) .fz
theorem same_pure (as : List VL.A) (q : D → Kd → Prop) (h : spSame as q) : as.length = 2 ∧ t__law_same ⟨fun _ => q .non .fz, q, fun _ => False, fun _ => False⟩ (rho0 8 as) := by
  obtain ⟨a, b, rfl, ha, hb, hz, hq⟩ := h
  refine ⟨rfl, ?_⟩
  unfold t__law_same
  simp (maxSteps := 4000000) only [wSeq, wAsg, wgN, wVar, wCon, wBin, wUn, wCl, wCons, wNil, wConsF, wTup, wLst, wTest, wIf, wFor, wiR1, wiR2, wgName, oB, toF, toN, wRet, wRetN, wNext, wDrop, wMut, fAppend, wPar, nCons, nNil, setAll, sl, wAugI, wAug, bAddI, bSub, bAdd, wAnd, wOr, wNot, wAndV, wOrV, wNotV, wBl, wIfE, wCall, xCons, xNil, xW, Kd.ret, wiF, wiO, seqOf, wgTup, wgCons, wgNil, wAsgT, wSlice, wPSome, wPNone, dSlice, bMul, bMod, bDiv, bPow, cInt, cAbs, cLen, cTuple, cList, cmpD, ozI, ozB, uNeg, wComp, wipeR, restR, wYes, wBreak, wCont, wLstRg, wTupRg, wRg1, wRg2, wExtend, bIs, bIsNot, isNonD, List.set_cons_zero, List.set_cons_succ, List.getElem?_cons_zero, List.getElem?_cons_succ, List.getD_cons_zero, List.getD_cons_succ, List.length_cons, List.length_nil, if_true, if_false, reduceCtorEq, ite_true, ite_false, and_true, true_and, rho0, VL.A.slot, List.map_cons, List.map_nil, List.cons_append, List.nil_append, List.replicate, Nat.add_eq, Nat.reduceAdd, Nat.reduceSub, Bool.false_eq_true, decide_eq_true_eq, Nat.zero_le, Nat.zero_add, lim1, lim2, lim3, lim4, lim5, lim6, lim7, lim8, Bool.not_true, Bool.not_false, decide_true, decide_false, wWhile]
  refine ⟨fun m ρ => ∃ (l : List (D × D)) (x3 x4 : Slot), m = szp l ∧ szp l ≤ 5000 ∧ (∀ p ∈ l, PrOk p) ∧ ((∀ p ∈ l, p.1 = p.2) ↔ a = b) ∧ ρ = [.fz a, .fz b, .ow (.lst (l.map prD)), x3, x4, .un, .un, .un], ⟨_, [(a, b)], _, _, rfl, by simpa [szp, szs] using hz, by simpa using ⟨ha, hb⟩, by simp, rfl⟩, ?_⟩
  rintro m ρ ⟨l, x3, x4, rfl, hm, hl, heq, rfl⟩
  simp (maxSteps := 4000000) only [wSeq, wAsg, wgN, wVar, wCon, wBin, wUn, wCl, wCons, wNil, wConsF, wTup, wLst, wTest, wIf, wFor, wiR1, wiR2, wgName, oB, toF, toN, wRet, wRetN, wNext, wDrop, wMut, fAppend, wPar, nCons, nNil, setAll, sl, wAugI, wAug, bAddI, bSub, bAdd, wAnd, wOr, wNot, wAndV, wOrV, wNotV, wBl, wIfE, wCall, xCons, xNil, xW, Kd.ret, wiF, wiO, seqOf, wgTup, wgCons, wgNil, wAsgT, wSlice, wPSome, wPNone, dSlice, bMul, bMod, bDiv, bPow, cInt, cAbs, cLen, cTuple, cList, cmpD, ozI, ozB, uNeg, wComp, wipeR, restR, wYes, wBreak, wCont, wLstRg, wTupRg, wRg1, wRg2, wExtend, bIs, bIsNot, isNonD, List.set_cons_zero, List.set_cons_succ, List.getElem?_cons_zero, List.getElem?_cons_succ, List.getD_cons_zero, List.getD_cons_succ, List.length_cons, List.length_nil, if_true, if_false, reduceCtorEq, ite_true, ite_false, and_true, true_and, rho0, VL.A.slot, List.map_cons, List.map_nil, List.cons_append, List.nil_append, List.replicate, Nat.add_eq, Nat.reduceAdd, Nat.reduceSub, Bool.false_eq_true, decide_eq_true_eq, Nat.zero_le, Nat.zero_add, lim1, lim2, lim3, lim4, lim5, lim6, lim7, lim8, Bool.not_true, Bool.not_false, decide_true, decide_false, bNe_nil (ok_prs hl)]
  rcases List.eq_nil_or_concat l with rfl | ⟨l0, p, rfl⟩
  · simp only [List.map_nil, decide_true, Bool.not_true, if_false, Bool.false_eq_true]
    exact hq true (by simpa using heq)
  · rw [List.concat_eq_append] at *
    have ne : ¬ (l0 ++ [p]).map prD = [] := by simp
    simp only [ne, decide_false, Bool.not_false, if_true]
    obtain ⟨u, v⟩ := p
    have hp := hl (u, v) (by simp)
    refine same_step (fun p hp => hl p (by simp [hp])) hp.1 hp.2 hm (fun hne => hq false ?_) fun l' x3 x4 h1 h2 h3 => ?_
    · simp only [Bool.false_eq_true, false_iff]
      intro e
      exact hne (heq.mpr e (u, v) (by simp))
    · refine ⟨_, h2, l', x3, x4, rfl, by omega, h1, ?_, rfl⟩
      rw [h3, ← heq]
      simp only [List.mem_append, List.mem_singleton, or_imp, forall_and, forall_eq]
end VD

namespace VD
open PySem PySem.Spec PyProof.Rows L2 VL
open Evl (Ex)
/-! ### the calendar -/
def lenI (y m : Int) : Int := if m = 2 then (if y % 4 = 0 then 29 else 28) else if m = 4 ∨ m = 6 ∨ m = 9 ∨ m = 11 then 30 else 31
def begI (y : Int) : Int := 365 * y + (y + 3) / 4
def cumI (y m : Int) : Int := ((ir 1 (m - 1).toNat).map (lenI y)).sum
def dayI (y m d : Int) : Int := begI y + cumI y m + d - 1
def wdI (day : Int) : Int := (day + 4) % 7
def nwI (day w : Int) : Int := day + (w - wdI day - 1) % 7 + 1
def IsDate (day y m d : Int) : Prop := 0 ≤ y ∧ 1 ≤ m ∧ m ≤ 12 ∧ 1 ≤ d ∧ d ≤ lenI y m ∧ dayI y m d = day
def dD (y m d : Int) : D := .tup [.int y, .int m, .int d]
theorem m12 {m : Int} (h1 : 1 ≤ m) (h2 : m ≤ 12) : m = 1 ∨ m = 2 ∨ m = 3 ∨ m = 4 ∨ m = 5 ∨ m = 6 ∨ m = 7 ∨ m = 8 ∨ m = 9 ∨ m = 10 ∨ m = 11 ∨ m = 12 := by omega
theorem len_pos (y m : Int) : 28 ≤ lenI y m ∧ lenI y m ≤ 31 := by
  unfold lenI
  split
  · split <;> omega
  · split <;> omega
theorem cum_succ {y m : Int} (h1 : 1 ≤ m) : cumI y (m + 1) = cumI y m + lenI y m := by
  have key : ∀ (n : Nat) (lo : Int), ((ir lo (n + 1)).map (lenI y)).sum = ((ir lo n).map (lenI y)).sum + lenI y (lo + n) := fun n => by
    induction n with
    | zero => intro lo; simp [ir]
    | succ n ih =>
      intro lo
      have := ih (lo + 1)
      rw [show ir lo (n + 1 + 1) = lo :: ir (lo + 1) (n + 1) from rfl, List.map_cons, List.sum_cons, this, show ir lo (n + 1) = lo :: ir (lo + 1) n from rfl, List.map_cons, List.sum_cons]
      rw [show lo + 1 + (n : Int) = lo + ((n + 1 : Nat) : Int) by omega]
      omega
  unfold cumI
  have h := key (m - 1).toNat 1
  rw [show (m + 1 - 1).toNat = (m - 1).toNat + 1 by omega, h, show (1 : Int) + ((m - 1).toNat : Int) = m by omega]
theorem cum_one (y : Int) : cumI y 1 = 0 := rfl
theorem cum_nn {y m : Int} : 0 ≤ cumI y m := by
  unfold cumI
  generalize ir 1 (m - 1).toNat = l
  induction l with
  | nil => simp
  | cons x l ih => rw [List.map_cons, List.sum_cons]; have := (len_pos y x).1; omega
theorem cum_12 (y : Int) : cumI y 12 + 31 = 365 + (if y % 4 = 0 then 1 else 0) := by
  have : cumI y 12 = 31 + ((if y % 4 = 0 then 29 else 28) + (31 + (30 + (31 + (30 + (31 + (31 + (30 + (31 + (30 + 0)))))))))) := rfl
  rw [this]
  split <;> omega
theorem beg_succ (y : Int) : begI (y + 1) = begI y + (cumI y 12 + 31) := by
  rw [cum_12]
  unfold begI
  split <;> omega
theorem beg_mono {y z : Int} (h : y ≤ z) : begI y ≤ begI z := by unfold begI; omega
theorem cum_mono {y m n : Int} (h1 : 1 ≤ m) (h : m ≤ n) : cumI y m ≤ cumI y n := by
  obtain ⟨k, rfl⟩ : ∃ k : Nat, n = m + k := ⟨(n - m).toNat, by omega⟩
  clear h
  induction k with
  | zero => simp
  | succ k ih =>
    have := cum_succ (y := y) (m := m + k) (by omega)
    rw [show m + ((k + 1 : Nat) : Int) = m + (k : Int) + 1 by omega, this]
    have := (len_pos y (m + k)).1
    omega
theorem date_uniq {day y m d y' m' d' : Int} (h : IsDate day y m d) (h' : IsDate day y' m' d') : y = y' ∧ m = m' ∧ d = d' := by
  obtain ⟨a1, a2, a3, a4, a5, a6⟩ := h
  obtain ⟨b1, b2, b3, b4, b5, b6⟩ := h'
  unfold dayI at a6 b6
  have year : ∀ {y m d : Int}, 1 ≤ m → m ≤ 12 → 1 ≤ d → d ≤ lenI y m → begI y ≤ begI y + cumI y m + d - 1 ∧ begI y + cumI y m + d - 1 < begI (y + 1) := fun {y m d} c1 c2 c3 c4 => by
    have e1 := cum_nn (y := y) (m := m)
    have e2 := cum_mono (y := y) (m := m + 1) (n := 13) (by omega) (by omega)
    have e3 := cum_succ (y := y) (m := m) c1
    have e4 := cum_succ (y := y) (m := 12) (by omega)
    have e5 := beg_succ y
    have e6 : lenI y 12 = 31 := rfl
    have e7 : (12 : Int) + 1 = 13 := rfl
    rw [e7, e6] at e4
    omega
  have ha := year a2 a3 a4 a5
  have hb := year b2 b3 b4 b5
  have hy : y = y' := by
    rcases Int.lt_trichotomy y y' with t | t | t
    · have := beg_mono (y := y + 1) (z := y') (by omega); omega
    · exact t
    · have := beg_mono (y := y' + 1) (z := y) (by omega); omega
  subst hy
  have hm : m = m' := by
    rcases Int.lt_trichotomy m m' with t | t | t
    · have e1 := cum_mono (y := y) (m := m + 1) (n := m') (by omega) (by omega)
      have e2 := cum_succ (y := y) (m := m) a2
      omega
    · exact t
    · have e1 := cum_mono (y := y) (m := m' + 1) (n := m) (by omega) (by omega)
      have e2 := cum_succ (y := y) (m := m') b2
      omega
  subst hm
  exact ⟨rfl, rfl, by omega⟩
/-! ### what the defs compute -/
def sp_is_leap : FS := fun as q => ∃ y : Int, as = [.d (.int y)] ∧ q (.bl (decide (y % 4 = 0))) .fz
theorem p_is_leap (as : List VL.A) (q : D → Kd → Prop) (h : sp_is_leap as q) : as.length = 1 ∧ t_is_leap ⟨fun _ => q .non .fz, q, fun _ => False, fun _ => False⟩ (rho0 1 as) := by
  obtain ⟨y, rfl, hq⟩ := h
  refine ⟨rfl, ?_⟩
  unfold t_is_leap
  simp (maxSteps := 4000000) only [wSeq, wAsg, wgN, wVar, wCon, wBin, wUn, wCl, wCons, wNil, wConsF, wTup, wLst, wTest, wIf, wFor, wiR1, wiR2, wgName, oB, toF, toN, wRet, wRetN, wNext, wDrop, wMut, fAppend, wPar, nCons, nNil, setAll, sl, wAugI, wAug, bAddI, bSub, bAdd, wAnd, wOr, wNot, wAndV, wOrV, wNotV, wBl, wIfE, wCall, xCons, xNil, xW, Kd.ret, wiF, wiO, seqOf, wgTup, wgCons, wgNil, wAsgT, wSlice, wPSome, wPNone, dSlice, bMul, bMod, bDiv, bPow, cInt, cAbs, cLen, cTuple, cList, cmpD, ozI, ozB, uNeg, wComp, wipeR, restR, wYes, wBreak, wCont, wLstRg, wTupRg, wRg1, wRg2, wExtend, bIs, bIsNot, isNonD, List.set_cons_zero, List.set_cons_succ, List.getElem?_cons_zero, List.getElem?_cons_succ, List.getD_cons_zero, List.getD_cons_succ, List.length_cons, List.length_nil, if_true, if_false, reduceCtorEq, ite_true, ite_false, and_true, true_and, rho0, VL.A.slot, List.map_cons, List.map_nil, List.cons_append, List.nil_append, List.replicate, Nat.add_eq, Nat.reduceAdd, Nat.reduceSub, Bool.false_eq_true, decide_eq_true_eq, Nat.zero_le, Nat.zero_add, lim1, lim2, lim3, lim4, lim5, lim6, lim7, lim8, Bool.not_true, Bool.not_false, decide_true, decide_false, show (4 : Int) ≠ 0 by decide, ne_eq, not_false_eq_true, bEq_ints, fmod_nn (show (0 : Int) ≤ 4 by decide)]
  exact hq
def sp_days_in : FS := fun as q => ∃ y m : Int, as = [.d (.int y), .d (.int m)] ∧ 1 ≤ m ∧ m ≤ 12 ∧ q (.int (lenI y m)) .fz
theorem long_at {y m : Int} (h1 : 1 ≤ m) (h2 : m ≤ 12) : ∃ a : Int, bSubs d_LONG (.int (m - 1)) = some (.int a, .fz) ∧ a + (if m = 2 ∧ y % 4 = 0 then 1 else 0) = lenI y m := by
  rcases m12 h1 h2 with rfl | rfl | rfl | rfl | rfl | rfl | rfl | rfl | rfl | rfl | rfl | rfl
  all_goals (refine ⟨_, rfl, ?_⟩; simp [lenI])
  split <;> rfl
theorem p_days_in (as : List VL.A) (q : D → Kd → Prop) (h : sp_days_in as q) : as.length = 2 ∧ t_days_in sp_is_leap ⟨fun _ => q .non .fz, q, fun _ => False, fun _ => False⟩ (rho0 2 as) := by
  obtain ⟨y, m, rfl, h1, h2, hq⟩ := h
  refine ⟨rfl, ?_⟩
  obtain ⟨a, e1, e2⟩ := long_at (y := y) h1 h2
  unfold t_days_in
  simp (maxSteps := 4000000) only [wSeq, wAsg, wgN, wVar, wCon, wBin, wUn, wCl, wCons, wNil, wConsF, wTup, wLst, wTest, wIf, wFor, wiR1, wiR2, wgName, oB, toF, toN, wRet, wRetN, wNext, wDrop, wMut, fAppend, wPar, nCons, nNil, setAll, sl, wAugI, wAug, bAddI, bSub, bAdd, wAnd, wOr, wNot, wAndV, wOrV, wNotV, wBl, wIfE, wCall, xCons, xNil, xW, Kd.ret, wiF, wiO, seqOf, wgTup, wgCons, wgNil, wAsgT, wSlice, wPSome, wPNone, dSlice, bMul, bMod, bDiv, bPow, cInt, cAbs, cLen, cTuple, cList, cmpD, ozI, ozB, uNeg, wComp, wipeR, restR, wYes, wBreak, wCont, wLstRg, wTupRg, wRg1, wRg2, wExtend, bIs, bIsNot, isNonD, List.set_cons_zero, List.set_cons_succ, List.getElem?_cons_zero, List.getElem?_cons_succ, List.getD_cons_zero, List.getD_cons_succ, List.length_cons, List.length_nil, if_true, if_false, reduceCtorEq, ite_true, ite_false, and_true, true_and, rho0, VL.A.slot, List.map_cons, List.map_nil, List.cons_append, List.nil_append, List.replicate, Nat.add_eq, Nat.reduceAdd, Nat.reduceSub, Bool.false_eq_true, decide_eq_true_eq, Nat.zero_le, Nat.zero_add, lim1, lim2, lim3, lim4, lim5, lim6, lim7, lim8, Bool.not_true, Bool.not_false, decide_true, decide_false, e1, bEq_ints]
  by_cases hm : m = 2
  · simp only [hm, decide_true, if_true]
    refine ⟨y, rfl, ?_⟩
    by_cases hy : y % 4 = 0
    · rw [if_pos ⟨hm, hy⟩] at e2
      simp (maxSteps := 4000000) only [wSeq, wAsg, wgN, wVar, wCon, wBin, wUn, wCl, wCons, wNil, wConsF, wTup, wLst, wTest, wIf, wFor, wiR1, wiR2, wgName, oB, toF, toN, wRet, wRetN, wNext, wDrop, wMut, fAppend, wPar, nCons, nNil, setAll, sl, wAugI, wAug, bAddI, bSub, bAdd, wAnd, wOr, wNot, wAndV, wOrV, wNotV, wBl, wIfE, wCall, xCons, xNil, xW, Kd.ret, wiF, wiO, seqOf, wgTup, wgCons, wgNil, wAsgT, wSlice, wPSome, wPNone, dSlice, bMul, bMod, bDiv, bPow, cInt, cAbs, cLen, cTuple, cList, cmpD, ozI, ozB, uNeg, wComp, wipeR, restR, wYes, wBreak, wCont, wLstRg, wTupRg, wRg1, wRg2, wExtend, bIs, bIsNot, isNonD, List.set_cons_zero, List.set_cons_succ, List.getElem?_cons_zero, List.getElem?_cons_succ, List.getD_cons_zero, List.getD_cons_succ, List.length_cons, List.length_nil, if_true, if_false, reduceCtorEq, ite_true, ite_false, and_true, true_and, rho0, VL.A.slot, List.map_cons, List.map_nil, List.cons_append, List.nil_append, List.replicate, Nat.add_eq, Nat.reduceAdd, Nat.reduceSub, Bool.false_eq_true, decide_eq_true_eq, Nat.zero_le, Nat.zero_add, lim1, lim2, lim3, lim4, lim5, lim6, lim7, lim8, Bool.not_true, Bool.not_false, decide_true, decide_false, hy, decide_true, bAdd, e2]
      exact hq
    · rw [if_neg fun z => hy z.2, Int.add_zero] at e2
      simp (maxSteps := 4000000) only [wSeq, wAsg, wgN, wVar, wCon, wBin, wUn, wCl, wCons, wNil, wConsF, wTup, wLst, wTest, wIf, wFor, wiR1, wiR2, wgName, oB, toF, toN, wRet, wRetN, wNext, wDrop, wMut, fAppend, wPar, nCons, nNil, setAll, sl, wAugI, wAug, bAddI, bSub, bAdd, wAnd, wOr, wNot, wAndV, wOrV, wNotV, wBl, wIfE, wCall, xCons, xNil, xW, Kd.ret, wiF, wiO, seqOf, wgTup, wgCons, wgNil, wAsgT, wSlice, wPSome, wPNone, dSlice, bMul, bMod, bDiv, bPow, cInt, cAbs, cLen, cTuple, cList, cmpD, ozI, ozB, uNeg, wComp, wipeR, restR, wYes, wBreak, wCont, wLstRg, wTupRg, wRg1, wRg2, wExtend, bIs, bIsNot, isNonD, List.set_cons_zero, List.set_cons_succ, List.getElem?_cons_zero, List.getElem?_cons_succ, List.getD_cons_zero, List.getD_cons_succ, List.length_cons, List.length_nil, if_true, if_false, reduceCtorEq, ite_true, ite_false, and_true, true_and, rho0, VL.A.slot, List.map_cons, List.map_nil, List.cons_append, List.nil_append, List.replicate, Nat.add_eq, Nat.reduceAdd, Nat.reduceSub, Bool.false_eq_true, decide_eq_true_eq, Nat.zero_le, Nat.zero_add, lim1, lim2, lim3, lim4, lim5, lim6, lim7, lim8, Bool.not_true, Bool.not_false, decide_true, decide_false, hy, decide_false, bAdd, e2, Int.add_zero]
      exact hq
  · rw [if_neg fun z => hm z.1, Int.add_zero] at e2
    simp only [hm, decide_false, if_false, Bool.false_eq_true, bAdd, Int.add_zero, e2, ozI]
    exact hq
def sp_begin_of : FS := fun as q => ∃ y : Int, as = [.d (.int y)] ∧ q (.int (begI y)) .fz
theorem p_begin_of (as : List VL.A) (q : D → Kd → Prop) (h : sp_begin_of as q) : as.length = 1 ∧ t_begin_of ⟨fun _ => q .non .fz, q, fun _ => False, fun _ => False⟩ (rho0 1 as) := by
  obtain ⟨y, rfl, hq⟩ := h
  refine ⟨rfl, ?_⟩
  unfold t_begin_of
  have hd : (4 : Int) ≠ 0 ∧ (4 : Int).natAbs < 1073741824 := by decide
  simp (maxSteps := 4000000) only [wSeq, wAsg, wgN, wVar, wCon, wBin, wUn, wCl, wCons, wNil, wConsF, wTup, wLst, wTest, wIf, wFor, wiR1, wiR2, wgName, oB, toF, toN, wRet, wRetN, wNext, wDrop, wMut, fAppend, wPar, nCons, nNil, setAll, sl, wAugI, wAug, bAddI, bSub, bAdd, wAnd, wOr, wNot, wAndV, wOrV, wNotV, wBl, wIfE, wCall, xCons, xNil, xW, Kd.ret, wiF, wiO, seqOf, wgTup, wgCons, wgNil, wAsgT, wSlice, wPSome, wPNone, dSlice, bMul, bMod, bDiv, bPow, cInt, cAbs, cLen, cTuple, cList, cmpD, ozI, ozB, uNeg, wComp, wipeR, restR, wYes, wBreak, wCont, wLstRg, wTupRg, wRg1, wRg2, wExtend, bIs, bIsNot, isNonD, List.set_cons_zero, List.set_cons_succ, List.getElem?_cons_zero, List.getElem?_cons_succ, List.getD_cons_zero, List.getD_cons_succ, List.length_cons, List.length_nil, if_true, if_false, reduceCtorEq, ite_true, ite_false, and_true, true_and, rho0, VL.A.slot, List.map_cons, List.map_nil, List.cons_append, List.nil_append, List.replicate, Nat.add_eq, Nat.reduceAdd, Nat.reduceSub, Bool.false_eq_true, decide_eq_true_eq, Nat.zero_le, Nat.zero_add, lim1, lim2, lim3, lim4, lim5, lim6, lim7, lim8, Bool.not_true, Bool.not_false, decide_true, decide_false, if_pos (w64l (i := 365) (by decide) (by decide) y), hd, fdiv_nn' (show (0 : Int) ≤ 4 by decide)]
  exact hq
theorem sum_lens {y : Int} {f : D → Option D} (hf : ∀ i : Int, f (.int i) = some (.int (lenI y i))) (m : Int) : (rng 1 (m - 1).toNat).filterMap f = ((ir 1 (m - 1).toNat).map (lenI y)).map .int := by
  rw [rng_ir, fmap_map (h := fun i => D.int (lenI y i)) hf, List.map_map]
  rfl
def sp_day_of : FS := fun as q => ∃ y m d : Int, as = [.d (dD y m d)] ∧ 1 ≤ m ∧ m ≤ 12 ∧ q (.int (dayI y m d)) .fz
theorem p_day_of (as : List VL.A) (q : D → Kd → Prop) (h : sp_day_of as q) : as.length = 1 ∧ t_day_of sp_begin_of sp_days_in ⟨fun _ => q .non .fz, q, fun _ => False, fun _ => False⟩ (rho0 5 as) := by
  obtain ⟨y, m, d, rfl, h1, h2, hq⟩ := h
  refine ⟨rfl, ?_⟩
  unfold t_day_of dD
  simp (maxSteps := 4000000) only [wSeq, wAsg, wgN, wVar, wCon, wBin, wUn, wCl, wCons, wNil, wConsF, wTup, wLst, wTest, wIf, wFor, wiR1, wiR2, wgName, oB, toF, toN, wRet, wRetN, wNext, wDrop, wMut, fAppend, wPar, nCons, nNil, setAll, sl, wAugI, wAug, bAddI, bSub, bAdd, wAnd, wOr, wNot, wAndV, wOrV, wNotV, wBl, wIfE, wCall, xCons, xNil, xW, Kd.ret, wiF, wiO, seqOf, wgTup, wgCons, wgNil, wAsgT, wSlice, wPSome, wPNone, dSlice, bMul, bMod, bDiv, bPow, cInt, cAbs, cLen, cTuple, cList, cmpD, ozI, ozB, uNeg, wComp, wipeR, restR, wYes, wBreak, wCont, wLstRg, wTupRg, wRg1, wRg2, wExtend, bIs, bIsNot, isNonD, List.set_cons_zero, List.set_cons_succ, List.getElem?_cons_zero, List.getElem?_cons_succ, List.getD_cons_zero, List.getD_cons_succ, List.length_cons, List.length_nil, if_true, if_false, reduceCtorEq, ite_true, ite_false, and_true, true_and, rho0, VL.A.slot, List.map_cons, List.map_nil, List.cons_append, List.nil_append, List.replicate, Nat.add_eq, Nat.reduceAdd, Nat.reduceSub, Bool.false_eq_true, decide_eq_true_eq, Nat.zero_le, Nat.zero_add, lim1, lim2, lim3, lim4, lim5, lim6, lim7, lim8, Bool.not_true, Bool.not_false, decide_true, decide_false]
  refine ⟨y, rfl, ?_⟩
  simp (maxSteps := 4000000) only [wSeq, wAsg, wgN, wVar, wCon, wBin, wUn, wCl, wCons, wNil, wConsF, wTup, wLst, wTest, wIf, wFor, wiR1, wiR2, wgName, oB, toF, toN, wRet, wRetN, wNext, wDrop, wMut, fAppend, wPar, nCons, nNil, setAll, sl, wAugI, wAug, bAddI, bSub, bAdd, wAnd, wOr, wNot, wAndV, wOrV, wNotV, wBl, wIfE, wCall, xCons, xNil, xW, Kd.ret, wiF, wiO, seqOf, wgTup, wgCons, wgNil, wAsgT, wSlice, wPSome, wPNone, dSlice, bMul, bMod, bDiv, bPow, cInt, cAbs, cLen, cTuple, cList, cmpD, ozI, ozB, uNeg, wComp, wipeR, restR, wYes, wBreak, wCont, wLstRg, wTupRg, wRg1, wRg2, wExtend, bIs, bIsNot, isNonD, List.set_cons_zero, List.set_cons_succ, List.getElem?_cons_zero, List.getElem?_cons_succ, List.getD_cons_zero, List.getD_cons_succ, List.length_cons, List.length_nil, if_true, if_false, reduceCtorEq, ite_true, ite_false, and_true, true_and, rho0, VL.A.slot, List.map_cons, List.map_nil, List.cons_append, List.nil_append, List.replicate, Nat.add_eq, Nat.reduceAdd, Nat.reduceSub, Bool.false_eq_true, decide_eq_true_eq, Nat.zero_le, Nat.zero_add, lim1, lim2, lim3, lim4, lim5, lim6, lim7, lim8, Bool.not_true, Bool.not_false, decide_true, decide_false]
  refine ⟨by unfold i62; omega, by unfold i62; omega, ?_⟩
  rw [rng_ir]
  refine comp_mp D.int (fun i => some (.int (lenI y i))) _ (by rw [ir_len]; unfold LIM; omega) (fun i hi K hK => ?_) ?_
  · have hi := ir_mem.mp hi
    unfold t_day_of_c1
    simp (maxSteps := 4000000) only [wSeq, wAsg, wgN, wVar, wCon, wBin, wUn, wCl, wCons, wNil, wConsF, wTup, wLst, wTest, wIf, wFor, wiR1, wiR2, wgName, oB, toF, toN, wRet, wRetN, wNext, wDrop, wMut, fAppend, wPar, nCons, nNil, setAll, sl, wAugI, wAug, bAddI, bSub, bAdd, wAnd, wOr, wNot, wAndV, wOrV, wNotV, wBl, wIfE, wCall, xCons, xNil, xW, Kd.ret, wiF, wiO, seqOf, wgTup, wgCons, wgNil, wAsgT, wSlice, wPSome, wPNone, dSlice, bMul, bMod, bDiv, bPow, cInt, cAbs, cLen, cTuple, cList, cmpD, ozI, ozB, uNeg, wComp, wipeR, restR, wYes, wBreak, wCont, wLstRg, wTupRg, wRg1, wRg2, wExtend, bIs, bIsNot, isNonD, List.set_cons_zero, List.set_cons_succ, List.getElem?_cons_zero, List.getElem?_cons_succ, List.getD_cons_zero, List.getD_cons_succ, List.length_cons, List.length_nil, if_true, if_false, reduceCtorEq, ite_true, ite_false, and_true, true_and, rho0, VL.A.slot, List.map_cons, List.map_nil, List.cons_append, List.nil_append, List.replicate, Nat.add_eq, Nat.reduceAdd, Nat.reduceSub, Bool.false_eq_true, decide_eq_true_eq, Nat.zero_le, Nat.zero_add, lim1, lim2, lim3, lim4, lim5, lim6, lim7, lim8, Bool.not_true, Bool.not_false, decide_true, decide_false]
    exact ⟨y, i, rfl, by omega, by omega, hK⟩
  · have e : (ir 1 (m - 1).toNat).filterMap (fun i => some (D.int (lenI y i))) = ((ir 1 (m - 1).toNat).map (lenI y)).map .int := by
      rw [List.map_map]
      exact congrFun (List.filterMap_eq_map (f := fun i => D.int (lenI y i))) _
    rw [e]
    simp (maxSteps := 4000000) only [wSeq, wAsg, wgN, wVar, wCon, wBin, wUn, wCl, wCons, wNil, wConsF, wTup, wLst, wTest, wIf, wFor, wiR1, wiR2, wgName, oB, toF, toN, wRet, wRetN, wNext, wDrop, wMut, fAppend, wPar, nCons, nNil, setAll, sl, wAugI, wAug, bAddI, bSub, bAdd, wAnd, wOr, wNot, wAndV, wOrV, wNotV, wBl, wIfE, wCall, xCons, xNil, xW, Kd.ret, wiF, wiO, seqOf, wgTup, wgCons, wgNil, wAsgT, wSlice, wPSome, wPNone, dSlice, bMul, bMod, bDiv, bPow, cInt, cAbs, cLen, cTuple, cList, cmpD, ozI, ozB, uNeg, wComp, wipeR, restR, wYes, wBreak, wCont, wLstRg, wTupRg, wRg1, wRg2, wExtend, bIs, bIsNot, isNonD, List.set_cons_zero, List.set_cons_succ, List.getElem?_cons_zero, List.getElem?_cons_succ, List.getD_cons_zero, List.getD_cons_succ, List.length_cons, List.length_nil, if_true, if_false, reduceCtorEq, ite_true, ite_false, and_true, true_and, rho0, VL.A.slot, List.map_cons, List.map_nil, List.cons_append, List.nil_append, List.replicate, Nat.add_eq, Nat.reduceAdd, Nat.reduceSub, Bool.false_eq_true, decide_eq_true_eq, Nat.zero_le, Nat.zero_add, lim1, lim2, lim3, lim4, lim5, lim6, lim7, lim8, Bool.not_true, Bool.not_false, decide_true, decide_false, cSum_ints]
    exact hq
def sp__law_long : FS := sp_days_in
theorem leap_div (y : Int) : decide (y / 4 * 4 = y) = decide (y % 4 = 0) := by
  by_cases h : y % 4 = 0
  · rw [decide_eq_true h, decide_eq_true (by omega)]
  · rw [decide_eq_false h, decide_eq_false (by omega)]
theorem p__law_long (as : List VL.A) (q : D → Kd → Prop) (h : sp__law_long as q) : as.length = 2 ∧ t__law_long ⟨fun _ => q .non .fz, q, fun _ => False, fun _ => False⟩ (rho0 2 as) := by
  obtain ⟨y, m, rfl, h1, h2, hq⟩ := h
  refine ⟨rfl, ?_⟩
  unfold t__law_long
  have hd : (4 : Int) ≠ 0 ∧ (4 : Int).natAbs < 1073741824 := by decide
  have hl : 12 ≤ LIM := by unfold LIM; decide
  simp (maxSteps := 4000000) only [wSeq, wAsg, wgN, wVar, wCon, wBin, wUn, wCl, wCons, wNil, wConsF, wTup, wLst, wTest, wIf, wFor, wiR1, wiR2, wgName, oB, toF, toN, wRet, wRetN, wNext, wDrop, wMut, fAppend, wPar, nCons, nNil, setAll, sl, wAugI, wAug, bAddI, bSub, bAdd, wAnd, wOr, wNot, wAndV, wOrV, wNotV, wBl, wIfE, wCall, xCons, xNil, xW, Kd.ret, wiF, wiO, seqOf, wgTup, wgCons, wgNil, wAsgT, wSlice, wPSome, wPNone, dSlice, bMul, bMod, bDiv, bPow, cInt, cAbs, cLen, cTuple, cList, cmpD, ozI, ozB, uNeg, wComp, wipeR, restR, wYes, wBreak, wCont, wLstRg, wTupRg, wRg1, wRg2, wExtend, bIs, bIsNot, isNonD, List.set_cons_zero, List.set_cons_succ, List.getElem?_cons_zero, List.getElem?_cons_succ, List.getD_cons_zero, List.getD_cons_succ, List.length_cons, List.length_nil, if_true, if_false, reduceCtorEq, ite_true, ite_false, and_true, true_and, rho0, VL.A.slot, List.map_cons, List.map_nil, List.cons_append, List.nil_append, List.replicate, Nat.add_eq, Nat.reduceAdd, Nat.reduceSub, Bool.false_eq_true, decide_eq_true_eq, Nat.zero_le, Nat.zero_add, lim1, lim2, lim3, lim4, lim5, lim6, lim7, lim8, Bool.not_true, Bool.not_false, decide_true, decide_false, if_pos (w64r (i := 4) (by decide) (by decide) (y / 4)), hd, fdiv_nn' (show (0 : Int) ≤ 4 by decide), bEq_ints, leap_div, hl, ne_eq, not_false_eq_true, show ((4 : Int) = 0) = False by simp]
  by_cases hy : y % 4 = 0
  · simp only [hy, decide_true, if_true]
    rcases m12 h1 h2 with rfl | rfl | rfl | rfl | rfl | rfl | rfl | rfl | rfl | rfl | rfl | rfl <;> (simp only [lenI, hy] at hq; exact hq)
  · simp only [hy, decide_false, if_false, Bool.false_eq_true]
    rcases m12 h1 h2 with rfl | rfl | rfl | rfl | rfl | rfl | rfl | rfl | rfl | rfl | rfl | rfl <;> (simp only [lenI, hy] at hq; exact hq)
end VD

namespace VD
open PySem PySem.Spec PyProof.Rows L2 VL
open Evl (Ex)
def sp__law_day : FS := fun as q => ∃ y m d : Int, as = [.d (.int y), .d (.int m), .d (.int d)] ∧ 1 ≤ m ∧ m ≤ 12 ∧ q (.int (dayI y m d)) .fz
theorem p__law_day (as : List VL.A) (q : D → Kd → Prop) (h : sp__law_day as q) : as.length = 3 ∧ t__law_day sp__law_long ⟨fun _ => q .non .fz, q, fun _ => False, fun _ => False⟩ (rho0 4 as) := by
  obtain ⟨y, m, d, rfl, h1, h2, hq⟩ := h
  refine ⟨rfl, ?_⟩
  unfold t__law_day
  have hd : (4 : Int) ≠ 0 ∧ (4 : Int).natAbs < 1073741824 := by decide
  simp (maxSteps := 4000000) only [wSeq, wAsg, wgN, wVar, wCon, wBin, wUn, wCl, wCons, wNil, wConsF, wTup, wLst, wTest, wIf, wFor, wiR1, wiR2, wgName, oB, toF, toN, wRet, wRetN, wNext, wDrop, wMut, fAppend, wPar, nCons, nNil, setAll, sl, wAugI, wAug, bAddI, bSub, bAdd, wAnd, wOr, wNot, wAndV, wOrV, wNotV, wBl, wIfE, wCall, xCons, xNil, xW, Kd.ret, wiF, wiO, seqOf, wgTup, wgCons, wgNil, wAsgT, wSlice, wPSome, wPNone, dSlice, bMul, bMod, bDiv, bPow, cInt, cAbs, cLen, cTuple, cList, cmpD, ozI, ozB, uNeg, wComp, wipeR, restR, wYes, wBreak, wCont, wLstRg, wTupRg, wRg1, wRg2, wExtend, bIs, bIsNot, isNonD, List.set_cons_zero, List.set_cons_succ, List.getElem?_cons_zero, List.getElem?_cons_succ, List.getD_cons_zero, List.getD_cons_succ, List.length_cons, List.length_nil, if_true, if_false, reduceCtorEq, ite_true, ite_false, and_true, true_and, rho0, VL.A.slot, List.map_cons, List.map_nil, List.cons_append, List.nil_append, List.replicate, Nat.add_eq, Nat.reduceAdd, Nat.reduceSub, Bool.false_eq_true, decide_eq_true_eq, Nat.zero_le, Nat.zero_add, lim1, lim2, lim3, lim4, lim5, lim6, lim7, lim8, Bool.not_true, Bool.not_false, decide_true, decide_false, if_pos (w64l (i := 365) (by decide) (by decide) y), hd, ne_eq, not_false_eq_true, show ((4 : Int) = 0) = False by simp, fdiv_nn' (show (0 : Int) ≤ 4 by decide)]
  refine ⟨by unfold i62; omega, by unfold i62; omega, ?_⟩
  rw [rng_ir]
  refine comp_mp D.int (fun i => some (.int (lenI y i))) _ (by rw [ir_len]; unfold LIM; omega) (fun i hi K hK => ?_) ?_
  · have hi := ir_mem.mp hi
    unfold t__law_day_c1
    simp (maxSteps := 4000000) only [wSeq, wAsg, wgN, wVar, wCon, wBin, wUn, wCl, wCons, wNil, wConsF, wTup, wLst, wTest, wIf, wFor, wiR1, wiR2, wgName, oB, toF, toN, wRet, wRetN, wNext, wDrop, wMut, fAppend, wPar, nCons, nNil, setAll, sl, wAugI, wAug, bAddI, bSub, bAdd, wAnd, wOr, wNot, wAndV, wOrV, wNotV, wBl, wIfE, wCall, xCons, xNil, xW, Kd.ret, wiF, wiO, seqOf, wgTup, wgCons, wgNil, wAsgT, wSlice, wPSome, wPNone, dSlice, bMul, bMod, bDiv, bPow, cInt, cAbs, cLen, cTuple, cList, cmpD, ozI, ozB, uNeg, wComp, wipeR, restR, wYes, wBreak, wCont, wLstRg, wTupRg, wRg1, wRg2, wExtend, bIs, bIsNot, isNonD, List.set_cons_zero, List.set_cons_succ, List.getElem?_cons_zero, List.getElem?_cons_succ, List.getD_cons_zero, List.getD_cons_succ, List.length_cons, List.length_nil, if_true, if_false, reduceCtorEq, ite_true, ite_false, and_true, true_and, rho0, VL.A.slot, List.map_cons, List.map_nil, List.cons_append, List.nil_append, List.replicate, Nat.add_eq, Nat.reduceAdd, Nat.reduceSub, Bool.false_eq_true, decide_eq_true_eq, Nat.zero_le, Nat.zero_add, lim1, lim2, lim3, lim4, lim5, lim6, lim7, lim8, Bool.not_true, Bool.not_false, decide_true, decide_false]
    exact ⟨y, i, rfl, by omega, by omega, hK⟩
  · have e : (ir 1 (m - 1).toNat).filterMap (fun i => some (D.int (lenI y i))) = ((ir 1 (m - 1).toNat).map (lenI y)).map .int := by
      rw [List.map_map]
      exact congrFun (List.filterMap_eq_map (f := fun i => D.int (lenI y i))) _
    rw [e]
    simp (maxSteps := 4000000) only [wSeq, wAsg, wgN, wVar, wCon, wBin, wUn, wCl, wCons, wNil, wConsF, wTup, wLst, wTest, wIf, wFor, wiR1, wiR2, wgName, oB, toF, toN, wRet, wRetN, wNext, wDrop, wMut, fAppend, wPar, nCons, nNil, setAll, sl, wAugI, wAug, bAddI, bSub, bAdd, wAnd, wOr, wNot, wAndV, wOrV, wNotV, wBl, wIfE, wCall, xCons, xNil, xW, Kd.ret, wiF, wiO, seqOf, wgTup, wgCons, wgNil, wAsgT, wSlice, wPSome, wPNone, dSlice, bMul, bMod, bDiv, bPow, cInt, cAbs, cLen, cTuple, cList, cmpD, ozI, ozB, uNeg, wComp, wipeR, restR, wYes, wBreak, wCont, wLstRg, wTupRg, wRg1, wRg2, wExtend, bIs, bIsNot, isNonD, List.set_cons_zero, List.set_cons_succ, List.getElem?_cons_zero, List.getElem?_cons_succ, List.getD_cons_zero, List.getD_cons_succ, List.length_cons, List.length_nil, if_true, if_false, reduceCtorEq, ite_true, ite_false, and_true, true_and, rho0, VL.A.slot, List.map_cons, List.map_nil, List.cons_append, List.nil_append, List.replicate, Nat.add_eq, Nat.reduceAdd, Nat.reduceSub, Bool.false_eq_true, decide_eq_true_eq, Nat.zero_le, Nat.zero_add, lim1, lim2, lim3, lim4, lim5, lim6, lim7, lim8, Bool.not_true, Bool.not_false, decide_true, decide_false, cSum_ints]
    exact hq
/-- both ways from a day to its date -/
def spDate : FS := fun as q => ∃ day : Int, as = [.d (.int day)] ∧ 0 ≤ day ∧ ∀ y m d : Int, IsDate day y m d → q (dD y m d) .fz
theorem beg_first {day : Int} (h : 0 ≤ day) : 0 ≤ day / 366 ∧ begI (day / 366) ≤ day := by unfold begI; omega
theorem beg_le (y : Int) (h : 0 ≤ y) : y ≤ begI y := by unfold begI; omega
theorem year_end {y m left day : Int} (h1 : 1 ≤ m) (h2 : m ≤ 12) (h3 : day < begI (y + 1)) (h4 : left = day - begI y - cumI y m) (h5 : lenI y m ≤ left) : m ≤ 11 := by
  by_cases h : m = 12
  · subst h
    have := beg_succ y
    have e : lenI y 12 = 31 := rfl
    omega
  · omega
theorem p_date_of (as : List VL.A) (q : D → Kd → Prop) (h : spDate as q) : as.length = 1 ∧ t_date_of sp_begin_of sp_days_in ⟨fun _ => q .non .fz, q, fun _ => False, fun _ => False⟩ (rho0 4 as) := by
  obtain ⟨day, rfl, h0, hq⟩ := h
  refine ⟨rfl, ?_⟩
  unfold t_date_of
  have hd : (366 : Int) ≠ 0 ∧ (366 : Int).natAbs < 1073741824 := by decide
  simp (maxSteps := 4000000) only [wSeq, wAsg, wgN, wVar, wCon, wBin, wUn, wCl, wCons, wNil, wConsF, wTup, wLst, wTest, wIf, wFor, wiR1, wiR2, wgName, oB, toF, toN, wRet, wRetN, wNext, wDrop, wMut, fAppend, wPar, nCons, nNil, setAll, sl, wAugI, wAug, bAddI, bSub, bAdd, wAnd, wOr, wNot, wAndV, wOrV, wNotV, wBl, wIfE, wCall, xCons, xNil, xW, Kd.ret, wiF, wiO, seqOf, wgTup, wgCons, wgNil, wAsgT, wSlice, wPSome, wPNone, dSlice, bMul, bMod, bDiv, bPow, cInt, cAbs, cLen, cTuple, cList, cmpD, ozI, ozB, uNeg, wComp, wipeR, restR, wYes, wBreak, wCont, wLstRg, wTupRg, wRg1, wRg2, wExtend, bIs, bIsNot, isNonD, List.set_cons_zero, List.set_cons_succ, List.getElem?_cons_zero, List.getElem?_cons_succ, List.getD_cons_zero, List.getD_cons_succ, List.length_cons, List.length_nil, if_true, if_false, reduceCtorEq, ite_true, ite_false, and_true, true_and, rho0, VL.A.slot, List.map_cons, List.map_nil, List.cons_append, List.nil_append, List.replicate, Nat.add_eq, Nat.reduceAdd, Nat.reduceSub, Bool.false_eq_true, decide_eq_true_eq, Nat.zero_le, Nat.zero_add, lim1, lim2, lim3, lim4, lim5, lim6, lim7, lim8, Bool.not_true, Bool.not_false, decide_true, decide_false, hd, ne_eq, not_false_eq_true, show ((366 : Int) = 0) = False by simp, fdiv_nn' (show (0 : Int) ≤ 366 by decide), wWhile]
  obtain ⟨y0, b0⟩ := beg_first h0
  refine ⟨fun k ρ => ∃ y : Int, k = (day - y).toNat ∧ 0 ≤ y ∧ begI y ≤ day ∧ ρ = [.fz (.int day), .fz (.int y), .un, .un], ⟨_, _, rfl, y0, b0, rfl⟩, ?_⟩
  rintro k ρ ⟨y, rfl, hy, hb, rfl⟩
  simp (maxSteps := 4000000) only [wSeq, wAsg, wgN, wVar, wCon, wBin, wUn, wCl, wCons, wNil, wConsF, wTup, wLst, wTest, wIf, wFor, wiR1, wiR2, wgName, oB, toF, toN, wRet, wRetN, wNext, wDrop, wMut, fAppend, wPar, nCons, nNil, setAll, sl, wAugI, wAug, bAddI, bSub, bAdd, wAnd, wOr, wNot, wAndV, wOrV, wNotV, wBl, wIfE, wCall, xCons, xNil, xW, Kd.ret, wiF, wiO, seqOf, wgTup, wgCons, wgNil, wAsgT, wSlice, wPSome, wPNone, dSlice, bMul, bMod, bDiv, bPow, cInt, cAbs, cLen, cTuple, cList, cmpD, ozI, ozB, uNeg, wComp, wipeR, restR, wYes, wBreak, wCont, wLstRg, wTupRg, wRg1, wRg2, wExtend, bIs, bIsNot, isNonD, List.set_cons_zero, List.set_cons_succ, List.getElem?_cons_zero, List.getElem?_cons_succ, List.getD_cons_zero, List.getD_cons_succ, List.length_cons, List.length_nil, if_true, if_false, reduceCtorEq, ite_true, ite_false, and_true, true_and, rho0, VL.A.slot, List.map_cons, List.map_nil, List.cons_append, List.nil_append, List.replicate, Nat.add_eq, Nat.reduceAdd, Nat.reduceSub, Bool.false_eq_true, decide_eq_true_eq, Nat.zero_le, Nat.zero_add, lim1, lim2, lim3, lim4, lim5, lim6, lim7, lim8, Bool.not_true, Bool.not_false, decide_true, decide_false]
  refine ⟨y + 1, rfl, ?_⟩
  simp (maxSteps := 4000000) only [wSeq, wAsg, wgN, wVar, wCon, wBin, wUn, wCl, wCons, wNil, wConsF, wTup, wLst, wTest, wIf, wFor, wiR1, wiR2, wgName, oB, toF, toN, wRet, wRetN, wNext, wDrop, wMut, fAppend, wPar, nCons, nNil, setAll, sl, wAugI, wAug, bAddI, bSub, bAdd, wAnd, wOr, wNot, wAndV, wOrV, wNotV, wBl, wIfE, wCall, xCons, xNil, xW, Kd.ret, wiF, wiO, seqOf, wgTup, wgCons, wgNil, wAsgT, wSlice, wPSome, wPNone, dSlice, bMul, bMod, bDiv, bPow, cInt, cAbs, cLen, cTuple, cList, cmpD, ozI, ozB, uNeg, wComp, wipeR, restR, wYes, wBreak, wCont, wLstRg, wTupRg, wRg1, wRg2, wExtend, bIs, bIsNot, isNonD, List.set_cons_zero, List.set_cons_succ, List.getElem?_cons_zero, List.getElem?_cons_succ, List.getD_cons_zero, List.getD_cons_succ, List.length_cons, List.length_nil, if_true, if_false, reduceCtorEq, ite_true, ite_false, and_true, true_and, rho0, VL.A.slot, List.map_cons, List.map_nil, List.cons_append, List.nil_append, List.replicate, Nat.add_eq, Nat.reduceAdd, Nat.reduceSub, Bool.false_eq_true, decide_eq_true_eq, Nat.zero_le, Nat.zero_add, lim1, lim2, lim3, lim4, lim5, lim6, lim7, lim8, Bool.not_true, Bool.not_false, decide_true, decide_false]
  by_cases hn : begI (y + 1) ≤ day
  · simp only [hn, decide_true, if_true]
    have := beg_le (y + 1) (by omega)
    exact ⟨_, by omega, y + 1, rfl, by omega, hn, rfl⟩
  simp only [hn, decide_false, if_false, Bool.false_eq_true]
  unfold t_date_of_s2
  simp (maxSteps := 4000000) only [wSeq, wAsg, wgN, wVar, wCon, wBin, wUn, wCl, wCons, wNil, wConsF, wTup, wLst, wTest, wIf, wFor, wiR1, wiR2, wgName, oB, toF, toN, wRet, wRetN, wNext, wDrop, wMut, fAppend, wPar, nCons, nNil, setAll, sl, wAugI, wAug, bAddI, bSub, bAdd, wAnd, wOr, wNot, wAndV, wOrV, wNotV, wBl, wIfE, wCall, xCons, xNil, xW, Kd.ret, wiF, wiO, seqOf, wgTup, wgCons, wgNil, wAsgT, wSlice, wPSome, wPNone, dSlice, bMul, bMod, bDiv, bPow, cInt, cAbs, cLen, cTuple, cList, cmpD, ozI, ozB, uNeg, wComp, wipeR, restR, wYes, wBreak, wCont, wLstRg, wTupRg, wRg1, wRg2, wExtend, bIs, bIsNot, isNonD, List.set_cons_zero, List.set_cons_succ, List.getElem?_cons_zero, List.getElem?_cons_succ, List.getD_cons_zero, List.getD_cons_succ, List.length_cons, List.length_nil, if_true, if_false, reduceCtorEq, ite_true, ite_false, and_true, true_and, rho0, VL.A.slot, List.map_cons, List.map_nil, List.cons_append, List.nil_append, List.replicate, Nat.add_eq, Nat.reduceAdd, Nat.reduceSub, Bool.false_eq_true, decide_eq_true_eq, Nat.zero_le, Nat.zero_add, lim1, lim2, lim3, lim4, lim5, lim6, lim7, lim8, Bool.not_true, Bool.not_false, decide_true, decide_false]
  refine ⟨y, rfl, ?_⟩
  simp (maxSteps := 4000000) only [wSeq, wAsg, wgN, wVar, wCon, wBin, wUn, wCl, wCons, wNil, wConsF, wTup, wLst, wTest, wIf, wFor, wiR1, wiR2, wgName, oB, toF, toN, wRet, wRetN, wNext, wDrop, wMut, fAppend, wPar, nCons, nNil, setAll, sl, wAugI, wAug, bAddI, bSub, bAdd, wAnd, wOr, wNot, wAndV, wOrV, wNotV, wBl, wIfE, wCall, xCons, xNil, xW, Kd.ret, wiF, wiO, seqOf, wgTup, wgCons, wgNil, wAsgT, wSlice, wPSome, wPNone, dSlice, bMul, bMod, bDiv, bPow, cInt, cAbs, cLen, cTuple, cList, cmpD, ozI, ozB, uNeg, wComp, wipeR, restR, wYes, wBreak, wCont, wLstRg, wTupRg, wRg1, wRg2, wExtend, bIs, bIsNot, isNonD, List.set_cons_zero, List.set_cons_succ, List.getElem?_cons_zero, List.getElem?_cons_succ, List.getD_cons_zero, List.getD_cons_succ, List.length_cons, List.length_nil, if_true, if_false, reduceCtorEq, ite_true, ite_false, and_true, true_and, rho0, VL.A.slot, List.map_cons, List.map_nil, List.cons_append, List.nil_append, List.replicate, Nat.add_eq, Nat.reduceAdd, Nat.reduceSub, Bool.false_eq_true, decide_eq_true_eq, Nat.zero_le, Nat.zero_add, lim1, lim2, lim3, lim4, lim5, lim6, lim7, lim8, Bool.not_true, Bool.not_false, decide_true, decide_false, wWhile]
  refine ⟨fun k ρ => ∃ m left : Int, k = (12 - m).toNat ∧ 1 ≤ m ∧ m ≤ 12 ∧ left = day - begI y - cumI y m ∧ 0 ≤ left ∧ ρ = [.fz (.int day), .fz (.int y), .fz (.int m), .fz (.int left)], ⟨_, 1, day - begI y, rfl, by decide, by decide, by rw [cum_one]; omega, by omega, rfl⟩, ?_⟩
  rintro k ρ ⟨m, left, rfl, m1, m2, hl, hl0, rfl⟩
  simp (maxSteps := 4000000) only [wSeq, wAsg, wgN, wVar, wCon, wBin, wUn, wCl, wCons, wNil, wConsF, wTup, wLst, wTest, wIf, wFor, wiR1, wiR2, wgName, oB, toF, toN, wRet, wRetN, wNext, wDrop, wMut, fAppend, wPar, nCons, nNil, setAll, sl, wAugI, wAug, bAddI, bSub, bAdd, wAnd, wOr, wNot, wAndV, wOrV, wNotV, wBl, wIfE, wCall, xCons, xNil, xW, Kd.ret, wiF, wiO, seqOf, wgTup, wgCons, wgNil, wAsgT, wSlice, wPSome, wPNone, dSlice, bMul, bMod, bDiv, bPow, cInt, cAbs, cLen, cTuple, cList, cmpD, ozI, ozB, uNeg, wComp, wipeR, restR, wYes, wBreak, wCont, wLstRg, wTupRg, wRg1, wRg2, wExtend, bIs, bIsNot, isNonD, List.set_cons_zero, List.set_cons_succ, List.getElem?_cons_zero, List.getElem?_cons_succ, List.getD_cons_zero, List.getD_cons_succ, List.length_cons, List.length_nil, if_true, if_false, reduceCtorEq, ite_true, ite_false, and_true, true_and, rho0, VL.A.slot, List.map_cons, List.map_nil, List.cons_append, List.nil_append, List.replicate, Nat.add_eq, Nat.reduceAdd, Nat.reduceSub, Bool.false_eq_true, decide_eq_true_eq, Nat.zero_le, Nat.zero_add, lim1, lim2, lim3, lim4, lim5, lim6, lim7, lim8, Bool.not_true, Bool.not_false, decide_true, decide_false]
  refine ⟨y, m, rfl, m1, m2, ?_⟩
  simp (maxSteps := 4000000) only [wSeq, wAsg, wgN, wVar, wCon, wBin, wUn, wCl, wCons, wNil, wConsF, wTup, wLst, wTest, wIf, wFor, wiR1, wiR2, wgName, oB, toF, toN, wRet, wRetN, wNext, wDrop, wMut, fAppend, wPar, nCons, nNil, setAll, sl, wAugI, wAug, bAddI, bSub, bAdd, wAnd, wOr, wNot, wAndV, wOrV, wNotV, wBl, wIfE, wCall, xCons, xNil, xW, Kd.ret, wiF, wiO, seqOf, wgTup, wgCons, wgNil, wAsgT, wSlice, wPSome, wPNone, dSlice, bMul, bMod, bDiv, bPow, cInt, cAbs, cLen, cTuple, cList, cmpD, ozI, ozB, uNeg, wComp, wipeR, restR, wYes, wBreak, wCont, wLstRg, wTupRg, wRg1, wRg2, wExtend, bIs, bIsNot, isNonD, List.set_cons_zero, List.set_cons_succ, List.getElem?_cons_zero, List.getElem?_cons_succ, List.getD_cons_zero, List.getD_cons_succ, List.length_cons, List.length_nil, if_true, if_false, reduceCtorEq, ite_true, ite_false, and_true, true_and, rho0, VL.A.slot, List.map_cons, List.map_nil, List.cons_append, List.nil_append, List.replicate, Nat.add_eq, Nat.reduceAdd, Nat.reduceSub, Bool.false_eq_true, decide_eq_true_eq, Nat.zero_le, Nat.zero_add, lim1, lim2, lim3, lim4, lim5, lim6, lim7, lim8, Bool.not_true, Bool.not_false, decide_true, decide_false]
  by_cases hm : lenI y m ≤ left
  · simp only [hm, decide_true, if_true]
    have := year_end m1 m2 (by omega) hl hm
    unfold t_date_of_w1
    simp (maxSteps := 4000000) only [wSeq, wAsg, wgN, wVar, wCon, wBin, wUn, wCl, wCons, wNil, wConsF, wTup, wLst, wTest, wIf, wFor, wiR1, wiR2, wgName, oB, toF, toN, wRet, wRetN, wNext, wDrop, wMut, fAppend, wPar, nCons, nNil, setAll, sl, wAugI, wAug, bAddI, bSub, bAdd, wAnd, wOr, wNot, wAndV, wOrV, wNotV, wBl, wIfE, wCall, xCons, xNil, xW, Kd.ret, wiF, wiO, seqOf, wgTup, wgCons, wgNil, wAsgT, wSlice, wPSome, wPNone, dSlice, bMul, bMod, bDiv, bPow, cInt, cAbs, cLen, cTuple, cList, cmpD, ozI, ozB, uNeg, wComp, wipeR, restR, wYes, wBreak, wCont, wLstRg, wTupRg, wRg1, wRg2, wExtend, bIs, bIsNot, isNonD, List.set_cons_zero, List.set_cons_succ, List.getElem?_cons_zero, List.getElem?_cons_succ, List.getD_cons_zero, List.getD_cons_succ, List.length_cons, List.length_nil, if_true, if_false, reduceCtorEq, ite_true, ite_false, and_true, true_and, rho0, VL.A.slot, List.map_cons, List.map_nil, List.cons_append, List.nil_append, List.replicate, Nat.add_eq, Nat.reduceAdd, Nat.reduceSub, Bool.false_eq_true, decide_eq_true_eq, Nat.zero_le, Nat.zero_add, lim1, lim2, lim3, lim4, lim5, lim6, lim7, lim8, Bool.not_true, Bool.not_false, decide_true, decide_false]
    refine ⟨y, m, rfl, m1, m2, ?_⟩
    simp (maxSteps := 4000000) only [wSeq, wAsg, wgN, wVar, wCon, wBin, wUn, wCl, wCons, wNil, wConsF, wTup, wLst, wTest, wIf, wFor, wiR1, wiR2, wgName, oB, toF, toN, wRet, wRetN, wNext, wDrop, wMut, fAppend, wPar, nCons, nNil, setAll, sl, wAugI, wAug, bAddI, bSub, bAdd, wAnd, wOr, wNot, wAndV, wOrV, wNotV, wBl, wIfE, wCall, xCons, xNil, xW, Kd.ret, wiF, wiO, seqOf, wgTup, wgCons, wgNil, wAsgT, wSlice, wPSome, wPNone, dSlice, bMul, bMod, bDiv, bPow, cInt, cAbs, cLen, cTuple, cList, cmpD, ozI, ozB, uNeg, wComp, wipeR, restR, wYes, wBreak, wCont, wLstRg, wTupRg, wRg1, wRg2, wExtend, bIs, bIsNot, isNonD, List.set_cons_zero, List.set_cons_succ, List.getElem?_cons_zero, List.getElem?_cons_succ, List.getD_cons_zero, List.getD_cons_succ, List.length_cons, List.length_nil, if_true, if_false, reduceCtorEq, ite_true, ite_false, and_true, true_and, rho0, VL.A.slot, List.map_cons, List.map_nil, List.cons_append, List.nil_append, List.replicate, Nat.add_eq, Nat.reduceAdd, Nat.reduceSub, Bool.false_eq_true, decide_eq_true_eq, Nat.zero_le, Nat.zero_add, lim1, lim2, lim3, lim4, lim5, lim6, lim7, lim8, Bool.not_true, Bool.not_false, decide_true, decide_false]
    exact ⟨_, by omega, m + 1, left - lenI y m, rfl, by omega, by omega, by rw [cum_succ m1]; omega, by omega, rfl⟩
  · simp only [hm, decide_false, if_false, Bool.false_eq_true]
    unfold t_date_of_s1
    simp (maxSteps := 4000000) only [wSeq, wAsg, wgN, wVar, wCon, wBin, wUn, wCl, wCons, wNil, wConsF, wTup, wLst, wTest, wIf, wFor, wiR1, wiR2, wgName, oB, toF, toN, wRet, wRetN, wNext, wDrop, wMut, fAppend, wPar, nCons, nNil, setAll, sl, wAugI, wAug, bAddI, bSub, bAdd, wAnd, wOr, wNot, wAndV, wOrV, wNotV, wBl, wIfE, wCall, xCons, xNil, xW, Kd.ret, wiF, wiO, seqOf, wgTup, wgCons, wgNil, wAsgT, wSlice, wPSome, wPNone, dSlice, bMul, bMod, bDiv, bPow, cInt, cAbs, cLen, cTuple, cList, cmpD, ozI, ozB, uNeg, wComp, wipeR, restR, wYes, wBreak, wCont, wLstRg, wTupRg, wRg1, wRg2, wExtend, bIs, bIsNot, isNonD, List.set_cons_zero, List.set_cons_succ, List.getElem?_cons_zero, List.getElem?_cons_succ, List.getD_cons_zero, List.getD_cons_succ, List.length_cons, List.length_nil, if_true, if_false, reduceCtorEq, ite_true, ite_false, and_true, true_and, rho0, VL.A.slot, List.map_cons, List.map_nil, List.cons_append, List.nil_append, List.replicate, Nat.add_eq, Nat.reduceAdd, Nat.reduceSub, Bool.false_eq_true, decide_eq_true_eq, Nat.zero_le, Nat.zero_add, lim1, lim2, lim3, lim4, lim5, lim6, lim7, lim8, Bool.not_true, Bool.not_false, decide_true, decide_false]
    exact hq y m (left + 1) ⟨hy, m1, m2, by omega, by omega, by unfold dayI; omega⟩
theorem p__law_date (as : List VL.A) (q : D → Kd → Prop) (h : spDate as q) : as.length = 1 ∧ t__law_date sp__law_day sp__law_long ⟨fun _ => q .non .fz, q, fun _ => False, fun _ => False⟩ (rho0 4 as) := by
  obtain ⟨day, rfl, h0, hq⟩ := h
  refine ⟨rfl, ?_⟩
  have day11 : ∀ y : Int, dayI y 1 1 = begI y := fun y => by unfold dayI; rw [cum_one]; omega
  unfold t__law_date
  have hd : (366 : Int) ≠ 0 ∧ (366 : Int).natAbs < 1073741824 := by decide
  simp (maxSteps := 4000000) only [wSeq, wAsg, wgN, wVar, wCon, wBin, wUn, wCl, wCons, wNil, wConsF, wTup, wLst, wTest, wIf, wFor, wiR1, wiR2, wgName, oB, toF, toN, wRet, wRetN, wNext, wDrop, wMut, fAppend, wPar, nCons, nNil, setAll, sl, wAugI, wAug, bAddI, bSub, bAdd, wAnd, wOr, wNot, wAndV, wOrV, wNotV, wBl, wIfE, wCall, xCons, xNil, xW, Kd.ret, wiF, wiO, seqOf, wgTup, wgCons, wgNil, wAsgT, wSlice, wPSome, wPNone, dSlice, bMul, bMod, bDiv, bPow, cInt, cAbs, cLen, cTuple, cList, cmpD, ozI, ozB, uNeg, wComp, wipeR, restR, wYes, wBreak, wCont, wLstRg, wTupRg, wRg1, wRg2, wExtend, bIs, bIsNot, isNonD, List.set_cons_zero, List.set_cons_succ, List.getElem?_cons_zero, List.getElem?_cons_succ, List.getD_cons_zero, List.getD_cons_succ, List.length_cons, List.length_nil, if_true, if_false, reduceCtorEq, ite_true, ite_false, and_true, true_and, rho0, VL.A.slot, List.map_cons, List.map_nil, List.cons_append, List.nil_append, List.replicate, Nat.add_eq, Nat.reduceAdd, Nat.reduceSub, Bool.false_eq_true, decide_eq_true_eq, Nat.zero_le, Nat.zero_add, lim1, lim2, lim3, lim4, lim5, lim6, lim7, lim8, Bool.not_true, Bool.not_false, decide_true, decide_false, hd, ne_eq, not_false_eq_true, show ((366 : Int) = 0) = False by simp, fdiv_nn' (show (0 : Int) ≤ 366 by decide), wWhile]
  obtain ⟨y0, b0⟩ := beg_first h0
  refine ⟨fun k ρ => ∃ y : Int, k = (day - y).toNat ∧ 0 ≤ y ∧ begI y ≤ day ∧ ρ = [.fz (.int day), .fz (.int y), .un, .un], ⟨_, _, rfl, y0, b0, rfl⟩, ?_⟩
  rintro k ρ ⟨y, rfl, hy, hb, rfl⟩
  simp (maxSteps := 4000000) only [wSeq, wAsg, wgN, wVar, wCon, wBin, wUn, wCl, wCons, wNil, wConsF, wTup, wLst, wTest, wIf, wFor, wiR1, wiR2, wgName, oB, toF, toN, wRet, wRetN, wNext, wDrop, wMut, fAppend, wPar, nCons, nNil, setAll, sl, wAugI, wAug, bAddI, bSub, bAdd, wAnd, wOr, wNot, wAndV, wOrV, wNotV, wBl, wIfE, wCall, xCons, xNil, xW, Kd.ret, wiF, wiO, seqOf, wgTup, wgCons, wgNil, wAsgT, wSlice, wPSome, wPNone, dSlice, bMul, bMod, bDiv, bPow, cInt, cAbs, cLen, cTuple, cList, cmpD, ozI, ozB, uNeg, wComp, wipeR, restR, wYes, wBreak, wCont, wLstRg, wTupRg, wRg1, wRg2, wExtend, bIs, bIsNot, isNonD, List.set_cons_zero, List.set_cons_succ, List.getElem?_cons_zero, List.getElem?_cons_succ, List.getD_cons_zero, List.getD_cons_succ, List.length_cons, List.length_nil, if_true, if_false, reduceCtorEq, ite_true, ite_false, and_true, true_and, rho0, VL.A.slot, List.map_cons, List.map_nil, List.cons_append, List.nil_append, List.replicate, Nat.add_eq, Nat.reduceAdd, Nat.reduceSub, Bool.false_eq_true, decide_eq_true_eq, Nat.zero_le, Nat.zero_add, lim1, lim2, lim3, lim4, lim5, lim6, lim7, lim8, Bool.not_true, Bool.not_false, decide_true, decide_false]
  refine ⟨y + 1, 1, 1, rfl, by decide, by decide, ?_⟩
  simp (maxSteps := 4000000) only [wSeq, wAsg, wgN, wVar, wCon, wBin, wUn, wCl, wCons, wNil, wConsF, wTup, wLst, wTest, wIf, wFor, wiR1, wiR2, wgName, oB, toF, toN, wRet, wRetN, wNext, wDrop, wMut, fAppend, wPar, nCons, nNil, setAll, sl, wAugI, wAug, bAddI, bSub, bAdd, wAnd, wOr, wNot, wAndV, wOrV, wNotV, wBl, wIfE, wCall, xCons, xNil, xW, Kd.ret, wiF, wiO, seqOf, wgTup, wgCons, wgNil, wAsgT, wSlice, wPSome, wPNone, dSlice, bMul, bMod, bDiv, bPow, cInt, cAbs, cLen, cTuple, cList, cmpD, ozI, ozB, uNeg, wComp, wipeR, restR, wYes, wBreak, wCont, wLstRg, wTupRg, wRg1, wRg2, wExtend, bIs, bIsNot, isNonD, List.set_cons_zero, List.set_cons_succ, List.getElem?_cons_zero, List.getElem?_cons_succ, List.getD_cons_zero, List.getD_cons_succ, List.length_cons, List.length_nil, if_true, if_false, reduceCtorEq, ite_true, ite_false, and_true, true_and, rho0, VL.A.slot, List.map_cons, List.map_nil, List.cons_append, List.nil_append, List.replicate, Nat.add_eq, Nat.reduceAdd, Nat.reduceSub, Bool.false_eq_true, decide_eq_true_eq, Nat.zero_le, Nat.zero_add, lim1, lim2, lim3, lim4, lim5, lim6, lim7, lim8, Bool.not_true, Bool.not_false, decide_true, decide_false, day11]
  by_cases hn : begI (y + 1) ≤ day
  · simp only [hn, decide_true, if_true]
    have := beg_le (y + 1) (by omega)
    unfold t__law_date_w1
    simp (maxSteps := 4000000) only [wSeq, wAsg, wgN, wVar, wCon, wBin, wUn, wCl, wCons, wNil, wConsF, wTup, wLst, wTest, wIf, wFor, wiR1, wiR2, wgName, oB, toF, toN, wRet, wRetN, wNext, wDrop, wMut, fAppend, wPar, nCons, nNil, setAll, sl, wAugI, wAug, bAddI, bSub, bAdd, wAnd, wOr, wNot, wAndV, wOrV, wNotV, wBl, wIfE, wCall, xCons, xNil, xW, Kd.ret, wiF, wiO, seqOf, wgTup, wgCons, wgNil, wAsgT, wSlice, wPSome, wPNone, dSlice, bMul, bMod, bDiv, bPow, cInt, cAbs, cLen, cTuple, cList, cmpD, ozI, ozB, uNeg, wComp, wipeR, restR, wYes, wBreak, wCont, wLstRg, wTupRg, wRg1, wRg2, wExtend, bIs, bIsNot, isNonD, List.set_cons_zero, List.set_cons_succ, List.getElem?_cons_zero, List.getElem?_cons_succ, List.getD_cons_zero, List.getD_cons_succ, List.length_cons, List.length_nil, if_true, if_false, reduceCtorEq, ite_true, ite_false, and_true, true_and, rho0, VL.A.slot, List.map_cons, List.map_nil, List.cons_append, List.nil_append, List.replicate, Nat.add_eq, Nat.reduceAdd, Nat.reduceSub, Bool.false_eq_true, decide_eq_true_eq, Nat.zero_le, Nat.zero_add, lim1, lim2, lim3, lim4, lim5, lim6, lim7, lim8, Bool.not_true, Bool.not_false, decide_true, decide_false]
    exact ⟨_, by omega, y + 1, rfl, by omega, hn, rfl⟩
  simp only [hn, decide_false, if_false, Bool.false_eq_true]
  unfold t__law_date_s2
  simp (maxSteps := 4000000) only [wSeq, wAsg, wgN, wVar, wCon, wBin, wUn, wCl, wCons, wNil, wConsF, wTup, wLst, wTest, wIf, wFor, wiR1, wiR2, wgName, oB, toF, toN, wRet, wRetN, wNext, wDrop, wMut, fAppend, wPar, nCons, nNil, setAll, sl, wAugI, wAug, bAddI, bSub, bAdd, wAnd, wOr, wNot, wAndV, wOrV, wNotV, wBl, wIfE, wCall, xCons, xNil, xW, Kd.ret, wiF, wiO, seqOf, wgTup, wgCons, wgNil, wAsgT, wSlice, wPSome, wPNone, dSlice, bMul, bMod, bDiv, bPow, cInt, cAbs, cLen, cTuple, cList, cmpD, ozI, ozB, uNeg, wComp, wipeR, restR, wYes, wBreak, wCont, wLstRg, wTupRg, wRg1, wRg2, wExtend, bIs, bIsNot, isNonD, List.set_cons_zero, List.set_cons_succ, List.getElem?_cons_zero, List.getElem?_cons_succ, List.getD_cons_zero, List.getD_cons_succ, List.length_cons, List.length_nil, if_true, if_false, reduceCtorEq, ite_true, ite_false, and_true, true_and, rho0, VL.A.slot, List.map_cons, List.map_nil, List.cons_append, List.nil_append, List.replicate, Nat.add_eq, Nat.reduceAdd, Nat.reduceSub, Bool.false_eq_true, decide_eq_true_eq, Nat.zero_le, Nat.zero_add, lim1, lim2, lim3, lim4, lim5, lim6, lim7, lim8, Bool.not_true, Bool.not_false, decide_true, decide_false]
  refine ⟨y, 1, 1, rfl, by decide, by decide, ?_⟩
  simp (maxSteps := 4000000) only [wSeq, wAsg, wgN, wVar, wCon, wBin, wUn, wCl, wCons, wNil, wConsF, wTup, wLst, wTest, wIf, wFor, wiR1, wiR2, wgName, oB, toF, toN, wRet, wRetN, wNext, wDrop, wMut, fAppend, wPar, nCons, nNil, setAll, sl, wAugI, wAug, bAddI, bSub, bAdd, wAnd, wOr, wNot, wAndV, wOrV, wNotV, wBl, wIfE, wCall, xCons, xNil, xW, Kd.ret, wiF, wiO, seqOf, wgTup, wgCons, wgNil, wAsgT, wSlice, wPSome, wPNone, dSlice, bMul, bMod, bDiv, bPow, cInt, cAbs, cLen, cTuple, cList, cmpD, ozI, ozB, uNeg, wComp, wipeR, restR, wYes, wBreak, wCont, wLstRg, wTupRg, wRg1, wRg2, wExtend, bIs, bIsNot, isNonD, List.set_cons_zero, List.set_cons_succ, List.getElem?_cons_zero, List.getElem?_cons_succ, List.getD_cons_zero, List.getD_cons_succ, List.length_cons, List.length_nil, if_true, if_false, reduceCtorEq, ite_true, ite_false, and_true, true_and, rho0, VL.A.slot, List.map_cons, List.map_nil, List.cons_append, List.nil_append, List.replicate, Nat.add_eq, Nat.reduceAdd, Nat.reduceSub, Bool.false_eq_true, decide_eq_true_eq, Nat.zero_le, Nat.zero_add, lim1, lim2, lim3, lim4, lim5, lim6, lim7, lim8, Bool.not_true, Bool.not_false, decide_true, decide_false, wWhile, day11]
  refine ⟨fun k ρ => ∃ m left : Int, k = (12 - m).toNat ∧ 1 ≤ m ∧ m ≤ 12 ∧ left = day - begI y - cumI y m ∧ 0 ≤ left ∧ ρ = [.fz (.int day), .fz (.int y), .fz (.int m), .fz (.int left)], ⟨_, 1, day - begI y, rfl, by decide, by decide, by rw [cum_one]; omega, by omega, rfl⟩, ?_⟩
  rintro k ρ ⟨m, left, rfl, m1, m2, hl, hl0, rfl⟩
  simp (maxSteps := 4000000) only [wSeq, wAsg, wgN, wVar, wCon, wBin, wUn, wCl, wCons, wNil, wConsF, wTup, wLst, wTest, wIf, wFor, wiR1, wiR2, wgName, oB, toF, toN, wRet, wRetN, wNext, wDrop, wMut, fAppend, wPar, nCons, nNil, setAll, sl, wAugI, wAug, bAddI, bSub, bAdd, wAnd, wOr, wNot, wAndV, wOrV, wNotV, wBl, wIfE, wCall, xCons, xNil, xW, Kd.ret, wiF, wiO, seqOf, wgTup, wgCons, wgNil, wAsgT, wSlice, wPSome, wPNone, dSlice, bMul, bMod, bDiv, bPow, cInt, cAbs, cLen, cTuple, cList, cmpD, ozI, ozB, uNeg, wComp, wipeR, restR, wYes, wBreak, wCont, wLstRg, wTupRg, wRg1, wRg2, wExtend, bIs, bIsNot, isNonD, List.set_cons_zero, List.set_cons_succ, List.getElem?_cons_zero, List.getElem?_cons_succ, List.getD_cons_zero, List.getD_cons_succ, List.length_cons, List.length_nil, if_true, if_false, reduceCtorEq, ite_true, ite_false, and_true, true_and, rho0, VL.A.slot, List.map_cons, List.map_nil, List.cons_append, List.nil_append, List.replicate, Nat.add_eq, Nat.reduceAdd, Nat.reduceSub, Bool.false_eq_true, decide_eq_true_eq, Nat.zero_le, Nat.zero_add, lim1, lim2, lim3, lim4, lim5, lim6, lim7, lim8, Bool.not_true, Bool.not_false, decide_true, decide_false]
  refine ⟨y, m, rfl, m1, m2, ?_⟩
  simp (maxSteps := 4000000) only [wSeq, wAsg, wgN, wVar, wCon, wBin, wUn, wCl, wCons, wNil, wConsF, wTup, wLst, wTest, wIf, wFor, wiR1, wiR2, wgName, oB, toF, toN, wRet, wRetN, wNext, wDrop, wMut, fAppend, wPar, nCons, nNil, setAll, sl, wAugI, wAug, bAddI, bSub, bAdd, wAnd, wOr, wNot, wAndV, wOrV, wNotV, wBl, wIfE, wCall, xCons, xNil, xW, Kd.ret, wiF, wiO, seqOf, wgTup, wgCons, wgNil, wAsgT, wSlice, wPSome, wPNone, dSlice, bMul, bMod, bDiv, bPow, cInt, cAbs, cLen, cTuple, cList, cmpD, ozI, ozB, uNeg, wComp, wipeR, restR, wYes, wBreak, wCont, wLstRg, wTupRg, wRg1, wRg2, wExtend, bIs, bIsNot, isNonD, List.set_cons_zero, List.set_cons_succ, List.getElem?_cons_zero, List.getElem?_cons_succ, List.getD_cons_zero, List.getD_cons_succ, List.length_cons, List.length_nil, if_true, if_false, reduceCtorEq, ite_true, ite_false, and_true, true_and, rho0, VL.A.slot, List.map_cons, List.map_nil, List.cons_append, List.nil_append, List.replicate, Nat.add_eq, Nat.reduceAdd, Nat.reduceSub, Bool.false_eq_true, decide_eq_true_eq, Nat.zero_le, Nat.zero_add, lim1, lim2, lim3, lim4, lim5, lim6, lim7, lim8, Bool.not_true, Bool.not_false, decide_true, decide_false]
  by_cases hm : lenI y m ≤ left
  · simp only [hm, decide_true, if_true]
    have := year_end m1 m2 (by omega) hl hm
    unfold t__law_date_w2
    simp (maxSteps := 4000000) only [wSeq, wAsg, wgN, wVar, wCon, wBin, wUn, wCl, wCons, wNil, wConsF, wTup, wLst, wTest, wIf, wFor, wiR1, wiR2, wgName, oB, toF, toN, wRet, wRetN, wNext, wDrop, wMut, fAppend, wPar, nCons, nNil, setAll, sl, wAugI, wAug, bAddI, bSub, bAdd, wAnd, wOr, wNot, wAndV, wOrV, wNotV, wBl, wIfE, wCall, xCons, xNil, xW, Kd.ret, wiF, wiO, seqOf, wgTup, wgCons, wgNil, wAsgT, wSlice, wPSome, wPNone, dSlice, bMul, bMod, bDiv, bPow, cInt, cAbs, cLen, cTuple, cList, cmpD, ozI, ozB, uNeg, wComp, wipeR, restR, wYes, wBreak, wCont, wLstRg, wTupRg, wRg1, wRg2, wExtend, bIs, bIsNot, isNonD, List.set_cons_zero, List.set_cons_succ, List.getElem?_cons_zero, List.getElem?_cons_succ, List.getD_cons_zero, List.getD_cons_succ, List.length_cons, List.length_nil, if_true, if_false, reduceCtorEq, ite_true, ite_false, and_true, true_and, rho0, VL.A.slot, List.map_cons, List.map_nil, List.cons_append, List.nil_append, List.replicate, Nat.add_eq, Nat.reduceAdd, Nat.reduceSub, Bool.false_eq_true, decide_eq_true_eq, Nat.zero_le, Nat.zero_add, lim1, lim2, lim3, lim4, lim5, lim6, lim7, lim8, Bool.not_true, Bool.not_false, decide_true, decide_false]
    refine ⟨y, m, rfl, m1, m2, ?_⟩
    simp (maxSteps := 4000000) only [wSeq, wAsg, wgN, wVar, wCon, wBin, wUn, wCl, wCons, wNil, wConsF, wTup, wLst, wTest, wIf, wFor, wiR1, wiR2, wgName, oB, toF, toN, wRet, wRetN, wNext, wDrop, wMut, fAppend, wPar, nCons, nNil, setAll, sl, wAugI, wAug, bAddI, bSub, bAdd, wAnd, wOr, wNot, wAndV, wOrV, wNotV, wBl, wIfE, wCall, xCons, xNil, xW, Kd.ret, wiF, wiO, seqOf, wgTup, wgCons, wgNil, wAsgT, wSlice, wPSome, wPNone, dSlice, bMul, bMod, bDiv, bPow, cInt, cAbs, cLen, cTuple, cList, cmpD, ozI, ozB, uNeg, wComp, wipeR, restR, wYes, wBreak, wCont, wLstRg, wTupRg, wRg1, wRg2, wExtend, bIs, bIsNot, isNonD, List.set_cons_zero, List.set_cons_succ, List.getElem?_cons_zero, List.getElem?_cons_succ, List.getD_cons_zero, List.getD_cons_succ, List.length_cons, List.length_nil, if_true, if_false, reduceCtorEq, ite_true, ite_false, and_true, true_and, rho0, VL.A.slot, List.map_cons, List.map_nil, List.cons_append, List.nil_append, List.replicate, Nat.add_eq, Nat.reduceAdd, Nat.reduceSub, Bool.false_eq_true, decide_eq_true_eq, Nat.zero_le, Nat.zero_add, lim1, lim2, lim3, lim4, lim5, lim6, lim7, lim8, Bool.not_true, Bool.not_false, decide_true, decide_false]
    exact ⟨_, by omega, m + 1, left - lenI y m, rfl, by omega, by omega, by rw [cum_succ m1]; omega, by omega, rfl⟩
  · simp only [hm, decide_false, if_false, Bool.false_eq_true]
    unfold t__law_date_s1
    simp (maxSteps := 4000000) only [wSeq, wAsg, wgN, wVar, wCon, wBin, wUn, wCl, wCons, wNil, wConsF, wTup, wLst, wTest, wIf, wFor, wiR1, wiR2, wgName, oB, toF, toN, wRet, wRetN, wNext, wDrop, wMut, fAppend, wPar, nCons, nNil, setAll, sl, wAugI, wAug, bAddI, bSub, bAdd, wAnd, wOr, wNot, wAndV, wOrV, wNotV, wBl, wIfE, wCall, xCons, xNil, xW, Kd.ret, wiF, wiO, seqOf, wgTup, wgCons, wgNil, wAsgT, wSlice, wPSome, wPNone, dSlice, bMul, bMod, bDiv, bPow, cInt, cAbs, cLen, cTuple, cList, cmpD, ozI, ozB, uNeg, wComp, wipeR, restR, wYes, wBreak, wCont, wLstRg, wTupRg, wRg1, wRg2, wExtend, bIs, bIsNot, isNonD, List.set_cons_zero, List.set_cons_succ, List.getElem?_cons_zero, List.getElem?_cons_succ, List.getD_cons_zero, List.getD_cons_succ, List.length_cons, List.length_nil, if_true, if_false, reduceCtorEq, ite_true, ite_false, and_true, true_and, rho0, VL.A.slot, List.map_cons, List.map_nil, List.cons_append, List.nil_append, List.replicate, Nat.add_eq, Nat.reduceAdd, Nat.reduceSub, Bool.false_eq_true, decide_eq_true_eq, Nat.zero_le, Nat.zero_add, lim1, lim2, lim3, lim4, lim5, lim6, lim7, lim8, Bool.not_true, Bool.not_false, decide_true, decide_false]
    exact hq y m (left + 1) ⟨hy, m1, m2, by omega, by omega, by unfold dayI; omega⟩
/-! ### weekdays -/
def sp_weekday : FS := fun as q => ∃ day : Int, as = [.d (.int day)] ∧ q (.int (wdI day)) .fz
theorem p_weekday (as : List VL.A) (q : D → Kd → Prop) (h : sp_weekday as q) : as.length = 1 ∧ t_weekday ⟨fun _ => q .non .fz, q, fun _ => False, fun _ => False⟩ (rho0 1 as) := by
  obtain ⟨day, rfl, hq⟩ := h
  refine ⟨rfl, ?_⟩
  unfold t_weekday d_FIRST
  simp (maxSteps := 4000000) only [wSeq, wAsg, wgN, wVar, wCon, wBin, wUn, wCl, wCons, wNil, wConsF, wTup, wLst, wTest, wIf, wFor, wiR1, wiR2, wgName, oB, toF, toN, wRet, wRetN, wNext, wDrop, wMut, fAppend, wPar, nCons, nNil, setAll, sl, wAugI, wAug, bAddI, bSub, bAdd, wAnd, wOr, wNot, wAndV, wOrV, wNotV, wBl, wIfE, wCall, xCons, xNil, xW, Kd.ret, wiF, wiO, seqOf, wgTup, wgCons, wgNil, wAsgT, wSlice, wPSome, wPNone, dSlice, bMul, bMod, bDiv, bPow, cInt, cAbs, cLen, cTuple, cList, cmpD, ozI, ozB, uNeg, wComp, wipeR, restR, wYes, wBreak, wCont, wLstRg, wTupRg, wRg1, wRg2, wExtend, bIs, bIsNot, isNonD, List.set_cons_zero, List.set_cons_succ, List.getElem?_cons_zero, List.getElem?_cons_succ, List.getD_cons_zero, List.getD_cons_succ, List.length_cons, List.length_nil, if_true, if_false, reduceCtorEq, ite_true, ite_false, and_true, true_and, rho0, VL.A.slot, List.map_cons, List.map_nil, List.cons_append, List.nil_append, List.replicate, Nat.add_eq, Nat.reduceAdd, Nat.reduceSub, Bool.false_eq_true, decide_eq_true_eq, Nat.zero_le, Nat.zero_add, lim1, lim2, lim3, lim4, lim5, lim6, lim7, lim8, Bool.not_true, Bool.not_false, decide_true, decide_false, ne_eq, not_false_eq_true, show ((7 : Int) = 0) = False by simp, fmod_nn (show (0 : Int) ≤ 7 by decide)]
  exact hq
theorem p__law_weekday (as : List VL.A) (q : D → Kd → Prop) (h : sp_weekday as q) : as.length = 1 ∧ t__law_weekday ⟨fun _ => q .non .fz, q, fun _ => False, fun _ => False⟩ (rho0 1 as) := by
  obtain ⟨day, rfl, hq⟩ := h
  refine ⟨rfl, ?_⟩
  unfold t__law_weekday
  simp (maxSteps := 4000000) only [wSeq, wAsg, wgN, wVar, wCon, wBin, wUn, wCl, wCons, wNil, wConsF, wTup, wLst, wTest, wIf, wFor, wiR1, wiR2, wgName, oB, toF, toN, wRet, wRetN, wNext, wDrop, wMut, fAppend, wPar, nCons, nNil, setAll, sl, wAugI, wAug, bAddI, bSub, bAdd, wAnd, wOr, wNot, wAndV, wOrV, wNotV, wBl, wIfE, wCall, xCons, xNil, xW, Kd.ret, wiF, wiO, seqOf, wgTup, wgCons, wgNil, wAsgT, wSlice, wPSome, wPNone, dSlice, bMul, bMod, bDiv, bPow, cInt, cAbs, cLen, cTuple, cList, cmpD, ozI, ozB, uNeg, wComp, wipeR, restR, wYes, wBreak, wCont, wLstRg, wTupRg, wRg1, wRg2, wExtend, bIs, bIsNot, isNonD, List.set_cons_zero, List.set_cons_succ, List.getElem?_cons_zero, List.getElem?_cons_succ, List.getD_cons_zero, List.getD_cons_succ, List.length_cons, List.length_nil, if_true, if_false, reduceCtorEq, ite_true, ite_false, and_true, true_and, rho0, VL.A.slot, List.map_cons, List.map_nil, List.cons_append, List.nil_append, List.replicate, Nat.add_eq, Nat.reduceAdd, Nat.reduceSub, Bool.false_eq_true, decide_eq_true_eq, Nat.zero_le, Nat.zero_add, lim1, lim2, lim3, lim4, lim5, lim6, lim7, lim8, Bool.not_true, Bool.not_false, decide_true, decide_false, ne_eq, not_false_eq_true, show ((7 : Int) = 0) = False by simp, fmod_nn (show (0 : Int) ≤ 7 by decide)]
  exact hq
def sp_next_weekday : FS := fun as q => ∃ day wd : Int, as = [.d (.int day), .d (.int wd)] ∧ q (.int (nwI day wd)) .fz
theorem p_next_weekday (as : List VL.A) (q : D → Kd → Prop) (h : sp_next_weekday as q) : as.length = 2 ∧ t_next_weekday sp_weekday ⟨fun _ => q .non .fz, q, fun _ => False, fun _ => False⟩ (rho0 2 as) := by
  obtain ⟨day, wd, rfl, hq⟩ := h
  refine ⟨rfl, ?_⟩
  unfold t_next_weekday
  simp (maxSteps := 4000000) only [wSeq, wAsg, wgN, wVar, wCon, wBin, wUn, wCl, wCons, wNil, wConsF, wTup, wLst, wTest, wIf, wFor, wiR1, wiR2, wgName, oB, toF, toN, wRet, wRetN, wNext, wDrop, wMut, fAppend, wPar, nCons, nNil, setAll, sl, wAugI, wAug, bAddI, bSub, bAdd, wAnd, wOr, wNot, wAndV, wOrV, wNotV, wBl, wIfE, wCall, xCons, xNil, xW, Kd.ret, wiF, wiO, seqOf, wgTup, wgCons, wgNil, wAsgT, wSlice, wPSome, wPNone, dSlice, bMul, bMod, bDiv, bPow, cInt, cAbs, cLen, cTuple, cList, cmpD, ozI, ozB, uNeg, wComp, wipeR, restR, wYes, wBreak, wCont, wLstRg, wTupRg, wRg1, wRg2, wExtend, bIs, bIsNot, isNonD, List.set_cons_zero, List.set_cons_succ, List.getElem?_cons_zero, List.getElem?_cons_succ, List.getD_cons_zero, List.getD_cons_succ, List.length_cons, List.length_nil, if_true, if_false, reduceCtorEq, ite_true, ite_false, and_true, true_and, rho0, VL.A.slot, List.map_cons, List.map_nil, List.cons_append, List.nil_append, List.replicate, Nat.add_eq, Nat.reduceAdd, Nat.reduceSub, Bool.false_eq_true, decide_eq_true_eq, Nat.zero_le, Nat.zero_add, lim1, lim2, lim3, lim4, lim5, lim6, lim7, lim8, Bool.not_true, Bool.not_false, decide_true, decide_false]
  refine ⟨day, rfl, ?_⟩
  simp (maxSteps := 4000000) only [wSeq, wAsg, wgN, wVar, wCon, wBin, wUn, wCl, wCons, wNil, wConsF, wTup, wLst, wTest, wIf, wFor, wiR1, wiR2, wgName, oB, toF, toN, wRet, wRetN, wNext, wDrop, wMut, fAppend, wPar, nCons, nNil, setAll, sl, wAugI, wAug, bAddI, bSub, bAdd, wAnd, wOr, wNot, wAndV, wOrV, wNotV, wBl, wIfE, wCall, xCons, xNil, xW, Kd.ret, wiF, wiO, seqOf, wgTup, wgCons, wgNil, wAsgT, wSlice, wPSome, wPNone, dSlice, bMul, bMod, bDiv, bPow, cInt, cAbs, cLen, cTuple, cList, cmpD, ozI, ozB, uNeg, wComp, wipeR, restR, wYes, wBreak, wCont, wLstRg, wTupRg, wRg1, wRg2, wExtend, bIs, bIsNot, isNonD, List.set_cons_zero, List.set_cons_succ, List.getElem?_cons_zero, List.getElem?_cons_succ, List.getD_cons_zero, List.getD_cons_succ, List.length_cons, List.length_nil, if_true, if_false, reduceCtorEq, ite_true, ite_false, and_true, true_and, rho0, VL.A.slot, List.map_cons, List.map_nil, List.cons_append, List.nil_append, List.replicate, Nat.add_eq, Nat.reduceAdd, Nat.reduceSub, Bool.false_eq_true, decide_eq_true_eq, Nat.zero_le, Nat.zero_add, lim1, lim2, lim3, lim4, lim5, lim6, lim7, lim8, Bool.not_true, Bool.not_false, decide_true, decide_false, ne_eq, not_false_eq_true, show ((7 : Int) = 0) = False by simp, fmod_nn (show (0 : Int) ≤ 7 by decide)]
  exact hq
def lwI (day w : Int) : Int := day - (wdI day - w - 1) % 7 - 1
def sp_last_weekday : FS := fun as q => ∃ day wd : Int, as = [.d (.int day), .d (.int wd)] ∧ q (if 0 ≤ lwI day wd then .int (lwI day wd) else .non) .fz
theorem p_last_weekday (as : List VL.A) (q : D → Kd → Prop) (h : sp_last_weekday as q) : as.length = 2 ∧ t_last_weekday sp_weekday ⟨fun _ => q .non .fz, q, fun _ => False, fun _ => False⟩ (rho0 3 as) := by
  obtain ⟨day, wd, rfl, hq⟩ := h
  refine ⟨rfl, ?_⟩
  unfold t_last_weekday
  simp (maxSteps := 4000000) only [wSeq, wAsg, wgN, wVar, wCon, wBin, wUn, wCl, wCons, wNil, wConsF, wTup, wLst, wTest, wIf, wFor, wiR1, wiR2, wgName, oB, toF, toN, wRet, wRetN, wNext, wDrop, wMut, fAppend, wPar, nCons, nNil, setAll, sl, wAugI, wAug, bAddI, bSub, bAdd, wAnd, wOr, wNot, wAndV, wOrV, wNotV, wBl, wIfE, wCall, xCons, xNil, xW, Kd.ret, wiF, wiO, seqOf, wgTup, wgCons, wgNil, wAsgT, wSlice, wPSome, wPNone, dSlice, bMul, bMod, bDiv, bPow, cInt, cAbs, cLen, cTuple, cList, cmpD, ozI, ozB, uNeg, wComp, wipeR, restR, wYes, wBreak, wCont, wLstRg, wTupRg, wRg1, wRg2, wExtend, bIs, bIsNot, isNonD, List.set_cons_zero, List.set_cons_succ, List.getElem?_cons_zero, List.getElem?_cons_succ, List.getD_cons_zero, List.getD_cons_succ, List.length_cons, List.length_nil, if_true, if_false, reduceCtorEq, ite_true, ite_false, and_true, true_and, rho0, VL.A.slot, List.map_cons, List.map_nil, List.cons_append, List.nil_append, List.replicate, Nat.add_eq, Nat.reduceAdd, Nat.reduceSub, Bool.false_eq_true, decide_eq_true_eq, Nat.zero_le, Nat.zero_add, lim1, lim2, lim3, lim4, lim5, lim6, lim7, lim8, Bool.not_true, Bool.not_false, decide_true, decide_false]
  refine ⟨day, rfl, ?_⟩
  simp (maxSteps := 4000000) only [wSeq, wAsg, wgN, wVar, wCon, wBin, wUn, wCl, wCons, wNil, wConsF, wTup, wLst, wTest, wIf, wFor, wiR1, wiR2, wgName, oB, toF, toN, wRet, wRetN, wNext, wDrop, wMut, fAppend, wPar, nCons, nNil, setAll, sl, wAugI, wAug, bAddI, bSub, bAdd, wAnd, wOr, wNot, wAndV, wOrV, wNotV, wBl, wIfE, wCall, xCons, xNil, xW, Kd.ret, wiF, wiO, seqOf, wgTup, wgCons, wgNil, wAsgT, wSlice, wPSome, wPNone, dSlice, bMul, bMod, bDiv, bPow, cInt, cAbs, cLen, cTuple, cList, cmpD, ozI, ozB, uNeg, wComp, wipeR, restR, wYes, wBreak, wCont, wLstRg, wTupRg, wRg1, wRg2, wExtend, bIs, bIsNot, isNonD, List.set_cons_zero, List.set_cons_succ, List.getElem?_cons_zero, List.getElem?_cons_succ, List.getD_cons_zero, List.getD_cons_succ, List.length_cons, List.length_nil, if_true, if_false, reduceCtorEq, ite_true, ite_false, and_true, true_and, rho0, VL.A.slot, List.map_cons, List.map_nil, List.cons_append, List.nil_append, List.replicate, Nat.add_eq, Nat.reduceAdd, Nat.reduceSub, Bool.false_eq_true, decide_eq_true_eq, Nat.zero_le, Nat.zero_add, lim1, lim2, lim3, lim4, lim5, lim6, lim7, lim8, Bool.not_true, Bool.not_false, decide_true, decide_false, ne_eq, not_false_eq_true, show ((7 : Int) = 0) = False by simp, fmod_nn (show (0 : Int) ≤ 7 by decide)]
  unfold lwI at hq
  by_cases h0 : 0 ≤ day - (wdI day - wd - 1) % 7 - 1
  · rw [if_pos h0] at hq
    simp only [h0, decide_true, if_true]
    exact hq
  · rw [if_neg h0] at hq
    simp only [h0, decide_false, if_false, Bool.false_eq_true]
    exact hq
def fWd (w : Int) : Int → Option D := fun own => if wdI own = w then some (.int own) else none
theorem next_list {day w : Int} (h0 : 0 ≤ w) (h1 : w ≤ 6) : (ir (day + 1) 7).filterMap (fWd w) = [.int (nwI day w)] := by
  obtain ⟨k, hk, hw⟩ : ∃ k : Int, k = (w - wdI day - 1) % 7 ∧ 0 ≤ k ∧ k ≤ 6 := ⟨_, rfl, by omega, by omega⟩
  have hn : nwI day w = day + k + 1 := by unfold nwI; rw [hk]
  have f : ∀ i : Int, 0 ≤ i → i ≤ 6 → (wdI (day + 1 + i) = w ↔ i = k) := fun i a b => by
    have hr : wdI day = (day + 4) % 7 := rfl
    rw [hr] at hk
    unfold wdI
    clear hn hr
    constructor <;> intro z <;> omega
  have fd : ∀ i : Int, 0 ≤ i → i ≤ 6 → fWd w (day + 1 + i) = if i = k then some (.int (day + 1 + i)) else none := fun i a b => by
    unfold fWd
    by_cases z : i = k
    · rw [if_pos z, if_pos ((f i a b).mpr z)]
    · rw [if_neg z, if_neg fun y => z ((f i a b).mp y)]
  have e : ir (day + 1) 7 = [day + 1 + 0, day + 1 + 1, day + 1 + 2, day + 1 + 3, day + 1 + 4, day + 1 + 5, day + 1 + 6] := by
    unfold ir ir ir ir ir ir ir ir
    simp only [Int.add_assoc, Int.add_zero]
    rfl
  rw [e, hn]
  simp only [List.filterMap_cons, List.filterMap_nil, fd 0 (by decide) (by decide), fd 1 (by decide) (by decide), fd 2 (by decide) (by decide), fd 3 (by decide) (by decide), fd 4 (by decide) (by decide), fd 5 (by decide) (by decide), fd 6 (by decide) (by decide)]
  have : k = 0 ∨ k = 1 ∨ k = 2 ∨ k = 3 ∨ k = 4 ∨ k = 5 ∨ k = 6 := by omega
  rcases this with rfl | rfl | rfl | rfl | rfl | rfl | rfl <;> simp <;> omega
def sp__law_next_day : FS := fun as q => ∃ day wd : Int, as = [.d (.int day), .d (.int wd)] ∧ 0 ≤ wd ∧ wd ≤ 6 ∧ -1000000000 ≤ day ∧ day ≤ 1000000000 ∧ q (.int (nwI day wd)) .fz
theorem p__law_next_day (as : List VL.A) (q : D → Kd → Prop) (h : sp__law_next_day as q) : as.length = 2 ∧ t__law_next_day sp_weekday ⟨fun _ => q .non .fz, q, fun _ => False, fun _ => False⟩ (rho0 3 as) := by
  obtain ⟨day, wd, rfl, h0, h1, h2, h3, hq⟩ := h
  refine ⟨rfl, ?_⟩
  unfold t__law_next_day
  simp (maxSteps := 4000000) only [wSeq, wAsg, wgN, wVar, wCon, wBin, wUn, wCl, wCons, wNil, wConsF, wTup, wLst, wTest, wIf, wFor, wiR1, wiR2, wgName, oB, toF, toN, wRet, wRetN, wNext, wDrop, wMut, fAppend, wPar, nCons, nNil, setAll, sl, wAugI, wAug, bAddI, bSub, bAdd, wAnd, wOr, wNot, wAndV, wOrV, wNotV, wBl, wIfE, wCall, xCons, xNil, xW, Kd.ret, wiF, wiO, seqOf, wgTup, wgCons, wgNil, wAsgT, wSlice, wPSome, wPNone, dSlice, bMul, bMod, bDiv, bPow, cInt, cAbs, cLen, cTuple, cList, cmpD, ozI, ozB, uNeg, wComp, wipeR, restR, wYes, wBreak, wCont, wLstRg, wTupRg, wRg1, wRg2, wExtend, bIs, bIsNot, isNonD, List.set_cons_zero, List.set_cons_succ, List.getElem?_cons_zero, List.getElem?_cons_succ, List.getD_cons_zero, List.getD_cons_succ, List.length_cons, List.length_nil, if_true, if_false, reduceCtorEq, ite_true, ite_false, and_true, true_and, rho0, VL.A.slot, List.map_cons, List.map_nil, List.cons_append, List.nil_append, List.replicate, Nat.add_eq, Nat.reduceAdd, Nat.reduceSub, Bool.false_eq_true, decide_eq_true_eq, Nat.zero_le, Nat.zero_add, lim1, lim2, lim3, lim4, lim5, lim6, lim7, lim8, Bool.not_true, Bool.not_false, decide_true, decide_false]
  refine ⟨by unfold i62; omega, by unfold i62; omega, ?_⟩
  rw [show (day + 8 - (day + 1)).toNat = 7 by omega, rng_ir]
  refine comp_mp D.int (fWd wd) _ (by rw [ir_len]; unfold LIM; decide) (fun i hi K hK => ?_) ?_
  · unfold t__law_next_day_i1
    simp (maxSteps := 4000000) only [wSeq, wAsg, wgN, wVar, wCon, wBin, wUn, wCl, wCons, wNil, wConsF, wTup, wLst, wTest, wIf, wFor, wiR1, wiR2, wgName, oB, toF, toN, wRet, wRetN, wNext, wDrop, wMut, fAppend, wPar, nCons, nNil, setAll, sl, wAugI, wAug, bAddI, bSub, bAdd, wAnd, wOr, wNot, wAndV, wOrV, wNotV, wBl, wIfE, wCall, xCons, xNil, xW, Kd.ret, wiF, wiO, seqOf, wgTup, wgCons, wgNil, wAsgT, wSlice, wPSome, wPNone, dSlice, bMul, bMod, bDiv, bPow, cInt, cAbs, cLen, cTuple, cList, cmpD, ozI, ozB, uNeg, wComp, wipeR, restR, wYes, wBreak, wCont, wLstRg, wTupRg, wRg1, wRg2, wExtend, bIs, bIsNot, isNonD, List.set_cons_zero, List.set_cons_succ, List.getElem?_cons_zero, List.getElem?_cons_succ, List.getD_cons_zero, List.getD_cons_succ, List.length_cons, List.length_nil, if_true, if_false, reduceCtorEq, ite_true, ite_false, and_true, true_and, rho0, VL.A.slot, List.map_cons, List.map_nil, List.cons_append, List.nil_append, List.replicate, Nat.add_eq, Nat.reduceAdd, Nat.reduceSub, Bool.false_eq_true, decide_eq_true_eq, Nat.zero_le, Nat.zero_add, lim1, lim2, lim3, lim4, lim5, lim6, lim7, lim8, Bool.not_true, Bool.not_false, decide_true, decide_false]
    refine ⟨i, rfl, ?_⟩
    unfold fWd at hK
    simp (maxSteps := 4000000) only [wSeq, wAsg, wgN, wVar, wCon, wBin, wUn, wCl, wCons, wNil, wConsF, wTup, wLst, wTest, wIf, wFor, wiR1, wiR2, wgName, oB, toF, toN, wRet, wRetN, wNext, wDrop, wMut, fAppend, wPar, nCons, nNil, setAll, sl, wAugI, wAug, bAddI, bSub, bAdd, wAnd, wOr, wNot, wAndV, wOrV, wNotV, wBl, wIfE, wCall, xCons, xNil, xW, Kd.ret, wiF, wiO, seqOf, wgTup, wgCons, wgNil, wAsgT, wSlice, wPSome, wPNone, dSlice, bMul, bMod, bDiv, bPow, cInt, cAbs, cLen, cTuple, cList, cmpD, ozI, ozB, uNeg, wComp, wipeR, restR, wYes, wBreak, wCont, wLstRg, wTupRg, wRg1, wRg2, wExtend, bIs, bIsNot, isNonD, List.set_cons_zero, List.set_cons_succ, List.getElem?_cons_zero, List.getElem?_cons_succ, List.getD_cons_zero, List.getD_cons_succ, List.length_cons, List.length_nil, if_true, if_false, reduceCtorEq, ite_true, ite_false, and_true, true_and, rho0, VL.A.slot, List.map_cons, List.map_nil, List.cons_append, List.nil_append, List.replicate, Nat.add_eq, Nat.reduceAdd, Nat.reduceSub, Bool.false_eq_true, decide_eq_true_eq, Nat.zero_le, Nat.zero_add, lim1, lim2, lim3, lim4, lim5, lim6, lim7, lim8, Bool.not_true, Bool.not_false, decide_true, decide_false, bEq_ints]
    by_cases hw : wdI i = wd
    · rw [if_pos hw] at hK
      simp only [hw, decide_true, if_true]
      exact hK
    · rw [if_neg hw] at hK
      simp only [hw, decide_false, if_false, Bool.false_eq_true]
      exact hK
  · rw [next_list h0 h1]
    simp (maxSteps := 4000000) only [wSeq, wAsg, wgN, wVar, wCon, wBin, wUn, wCl, wCons, wNil, wConsF, wTup, wLst, wTest, wIf, wFor, wiR1, wiR2, wgName, oB, toF, toN, wRet, wRetN, wNext, wDrop, wMut, fAppend, wPar, nCons, nNil, setAll, sl, wAugI, wAug, bAddI, bSub, bAdd, wAnd, wOr, wNot, wAndV, wOrV, wNotV, wBl, wIfE, wCall, xCons, xNil, xW, Kd.ret, wiF, wiO, seqOf, wgTup, wgCons, wgNil, wAsgT, wSlice, wPSome, wPNone, dSlice, bMul, bMod, bDiv, bPow, cInt, cAbs, cLen, cTuple, cList, cmpD, ozI, ozB, uNeg, wComp, wipeR, restR, wYes, wBreak, wCont, wLstRg, wTupRg, wRg1, wRg2, wExtend, bIs, bIsNot, isNonD, List.set_cons_zero, List.set_cons_succ, List.getElem?_cons_zero, List.getElem?_cons_succ, List.getD_cons_zero, List.getD_cons_succ, List.length_cons, List.length_nil, if_true, if_false, reduceCtorEq, ite_true, ite_false, and_true, true_and, rho0, VL.A.slot, List.map_cons, List.map_nil, List.cons_append, List.nil_append, List.replicate, Nat.add_eq, Nat.reduceAdd, Nat.reduceSub, Bool.false_eq_true, decide_eq_true_eq, Nat.zero_le, Nat.zero_add, lim1, lim2, lim3, lim4, lim5, lim6, lim7, lim8, Bool.not_true, Bool.not_false, decide_true, decide_false, show bSubs (.lst [.int (nwI day wd)]) (.int 0) = some (.int (nwI day wd), .fz) from rfl]
    exact hq
end VD

namespace VD
open PySem PySem.Spec PyProof.Rows L2 VL
open Evl (Ex)
theorem same_go {a : D} {q : D → Kd → Prop} (h1 : sg a = true) (h2 : okE 15 a = true) (h3 : szD a ≤ 5000) (h : q (.bl true) .fz) : spSame [.d a, .d a] q :=
  ⟨a, a, rfl, ⟨h1, h2⟩, ⟨h1, h2⟩, h3, fun c hc => by rw [hc.mpr rfl]; exact h⟩
theorem date_go {day y m d : Int} {q : D → Kd → Prop} (h0 : 0 ≤ day) (hd : IsDate day y m d) (h : q (dD y m d) .fz) : spDate [.d (.int day)] q :=
  ⟨day, rfl, h0, fun y' m' d' h' => by
    obtain ⟨rfl, rfl, rfl⟩ := date_uniq hd h'
    exact h⟩
theorem cum_le {y m : Int} (h1 : 1 ≤ m) (h2 : m ≤ 12) : 0 ≤ cumI y m ∧ cumI y m ≤ 335 := by
  have a := cum_mono (y := y) h1 h2
  have b := cum_12 y
  have c := cum_nn (y := y) (m := m)
  refine ⟨c, ?_⟩
  split at b <;> omega
theorem day_nn {y m d : Int} (h0 : 0 ≤ y) (h1 : 1 ≤ m) (h2 : m ≤ 12) (h3 : 1 ≤ d) : 0 ≤ dayI y m d := by
  have := cum_le (y := y) h1 h2
  have := beg_le y h0
  unfold dayI; omega
theorem day_le {y m d n : Int} (h0 : 0 ≤ y) (hy : y ≤ n) (h1 : 1 ≤ m) (h2 : m ≤ 12) (h3 : d ≤ 31) : dayI y m d ≤ 366 * n + 367 := by
  have := cum_le (y := y) h1 h2
  have : begI y ≤ 366 * y + 1 := by unfold begI; omega
  unfold dayI; omega
theorem date_year {day y m d : Int} (h : IsDate day y m d) : 0 ≤ day ∧ y ≤ day := by
  obtain ⟨a, b, c, e, f, g⟩ := h
  have h1 := cum_le (y := y) b c
  have h2 := beg_le y a
  unfold dayI at g
  omega
/-- the day behind -/
theorem date_later {day y m d : Int} (h : IsDate day y m d) : (d < lenI y m → IsDate (day + 1) y m (d + 1)) ∧ (¬ d < lenI y m → m < 12 → IsDate (day + 1) y (m + 1) 1) ∧ (¬ d < lenI y m → ¬ m < 12 → IsDate (day + 1) (y + 1) 1 1) := by
  obtain ⟨a, b, c, e, f, g⟩ := h
  unfold dayI at g
  refine ⟨fun h1 => ⟨a, b, c, by omega, by omega, by unfold dayI; omega⟩, fun h1 h2 => ⟨a, by omega, by omega, by omega, by have := (len_pos y (m + 1)).1; omega, ?_⟩, fun h1 h2 => ⟨by omega, by omega, by omega, by omega, by have := (len_pos (y + 1) 1).1; omega, ?_⟩⟩
  · unfold dayI
    rw [cum_succ b]; omega
  · have hm : m = 12 := by omega
    subst hm
    have := beg_succ y
    have e12 : lenI y 12 = 31 := rfl
    unfold dayI
    rw [cum_one]; omega
/-- weekdays in at most seven days -/
theorem wd_list {lo w : Int} (h0 : 0 ≤ w) (h1 : w ≤ 6) (n : Nat) (hn : n ≤ 7) : (ir lo n).filterMap (fWd w) = if nwI (lo - 1) w < lo + n then [.int (nwI (lo - 1) w)] else [] := by
  have key := next_list (day := lo - 1) h0 h1
  rw [show lo - 1 + 1 = lo by omega] at key
  have hf : lo ≤ nwI (lo - 1) w ∧ nwI (lo - 1) w ≤ lo + 6 := by unfold nwI; omega
  have sp : ∀ (a b : Nat) (l : Int), ir l (a + b) = ir l a ++ ir (l + a) b := fun a => by
    induction a with
    | zero => intro b l; simp [ir]
    | succ a ih =>
      intro b l
      rw [show a + 1 + b = (a + b) + 1 by omega, show ir l (a + b + 1) = l :: ir (l + 1) (a + b) from rfl, ih, show ir l (a + 1) = l :: ir (l + 1) a from rfl, List.cons_append, show l + 1 + (a : Int) = l + ((a + 1 : Nat) : Int) by omega]
  have mem : ∀ (l : Int) (a : Nat) (x : Int), (ir l a).filterMap (fWd w) = [.int x] → l ≤ x ∧ x < l + a := fun l a x hx => by
    have : D.int x ∈ (ir l a).filterMap (fWd w) := by rw [hx]; simp
    obtain ⟨o, ho, e⟩ := List.mem_filterMap.mp this
    unfold fWd at e
    split at e
    · cases e
      exact ir_mem.mp ho
    · cases e
  have e7 := sp n (7 - n) lo
  rw [show n + (7 - n) = 7 by omega] at e7
  rw [e7, List.filterMap_append] at key
  rcases List.append_eq_singleton_iff.mp key with ⟨a, b⟩ | ⟨a, b⟩
  · have := mem _ _ _ b
    rw [a, if_neg (by omega)]
  · have := mem _ _ _ a
    rw [a, if_pos (by omega)]
theorem ahead_list {begin w : Int} (hb : 0 ≤ begin) (h0 : 0 ≤ w) (h1 : w ≤ 6) : (ir (max 0 (begin - 7)) (begin - max 0 (begin - 7)).toNat).filterMap (fWd w) = if 0 ≤ lwI begin w then [.int (lwI begin w)] else [] := by
  rw [wd_list h0 h1 _ (by omega)]
  by_cases h7 : 7 ≤ begin
  · have hm : max 0 (begin - 7) = begin - 7 := by omega
    have e : nwI (begin - 7 - 1) w = lwI begin w := by unfold nwI lwI wdI; omega
    have hb : lwI begin w < begin ∧ begin - 7 ≤ lwI begin w := by unfold lwI; omega
    rw [hm, e, if_pos (by omega), if_pos (by omega)]
  · have hm : max 0 (begin - 7) = 0 := by omega
    rw [hm]
    by_cases hl : 0 ≤ lwI begin w
    · have e : nwI (0 - 1) w = lwI begin w := by unfold nwI lwI wdI at *; omega
      have hb : lwI begin w < begin := by unfold lwI; omega
      rw [e, if_pos (by omega), if_pos hl]
    · have e : ¬ nwI (0 - 1) w < 0 + ((begin - 0).toNat : Int) := by unfold nwI lwI wdI at *; omega
      rw [if_neg e, if_neg hl]
end VD

namespace VD
open PySem PySem.Spec PyProof.Rows L2 VL
open Evl (Ex)
/-! ### steps by unfolding alone -/
theorem days_go {y m : Int} {q : D → Kd → Prop} (h1 : 1 ≤ m) (h2 : m ≤ 12) (h : q (.int (lenI y m)) .fz) : sp_days_in [.d (.int y), .d (.int m)] q := ⟨y, m, rfl, h1, h2, h⟩
theorem long_go {y m : Int} {q : D → Kd → Prop} (h1 : 1 ≤ m) (h2 : m ≤ 12) (h : q (.int (lenI y m)) .fz) : sp__law_long [.d (.int y), .d (.int m)] q := ⟨y, m, rfl, h1, h2, h⟩
theorem lday_go {y m d : Int} {q : D → Kd → Prop} (h1 : 1 ≤ m) (h2 : m ≤ 12) (h : q (.int (dayI y m d)) .fz) : sp__law_day [.d (.int y), .d (.int m), .d (.int d)] q := ⟨y, m, d, rfl, h1, h2, h⟩
theorem day_go {y m d : Int} {q : D → Kd → Prop} (h1 : 1 ≤ m) (h2 : m ≤ 12) (h : q (.int (dayI y m d)) .fz) : sp_day_of [.d (.tup [.int y, .int m, .int d])] q := ⟨y, m, d, rfl, h1, h2, h⟩
theorem wd_go {day : Int} {q : D → Kd → Prop} (h : q (.int (wdI day)) .fz) : sp_weekday [.d (.int day)] q := ⟨day, rfl, h⟩
theorem pick_go {xs : List D} {q : D → Kd → Prop} (h1 : xs ≠ []) (h2 : xs.length ≤ 1000) (h : ∀ x ∈ xs, q x .fz) : spPick [.w, .d (.lst xs)] q := ⟨xs, rfl, h1, h2, h⟩
theorem date_all {day : Int} {q : D → Kd → Prop} (h0 : 0 ≤ day) (h : ∀ y m d, IsDate day y m d → q (.tup [.int y, .int m, .int d]) .fz) : spDate [.d (.int day)] q := ⟨day, rfl, h0, h⟩
theorem date_go' {day y m d : Int} {q : D → Kd → Prop} (h0 : 0 ≤ day) (hd : IsDate day y m d) (h : q (.tup [.int y, .int m, .int d]) .fz) : spDate [.d (.int day)] q := date_go h0 hd h
theorem ite_go {p : Prop} [Decidable p] {A B : Prop} (h1 : p → A) (h2 : ¬ p → B) : if decide p = true then A else B := by
  by_cases h : p
  · rw [if_pos (decide_eq_true h)]; exact h1 h
  · rw [if_neg (by simp [h])]; exact h2 h
theorem oB_go {o : Oz} {z : D} {k : Kd} {Q : D → Kd → Prop} (e : o = some (z, k)) (h : Q z k) : oB o Q := by rw [e]; exact h
end VD

/-! VK6: data of a size, the same data on both sides (gathered out of k08's texts); a dict that is put into. -/
namespace VD
open PySem PySem.Spec PyProof.Rows L2 VL
def Gz (n : Nat) (d : D) (z : Nat) : Prop := sg d = true ∧ okE n d = true ∧ szD d ≤ z
theorem gz_int {n : Nat} {i : Int} : Gz n (.int i) 1 := ⟨rfl, by simp [okE], by simp [szD]⟩
theorem gz_non {n : Nat} : Gz n .non 1 := ⟨rfl, by simp [okE], by simp [szD]⟩
theorem gz_bl {n : Nat} {b : Bool} : Gz n (.bl b) 1 := ⟨rfl, by simp [okE], by simp [szD]⟩
theorem gz_up {n : Nat} {d : D} {z z' : Nat} (h : Gz n d z) (hz : z ≤ z') : Gz n d z' := ⟨h.1, h.2.1, Nat.le_trans h.2.2 hz⟩
theorem gz_tup {n : Nat} {xs : List D} {z : Nat} (h : ∀ x ∈ xs, Gz n x z) {z' : Nat} (hz : xs.length * z + 1 ≤ z') : Gz (n + 1) (.tup xs) z' := by
  refine ⟨?_, ?_, ?_⟩
  · show sgs xs = true
    exact sgs_all.mpr fun x hx => (h x hx).1
  · rw [okE_tup]; exact okEs_all.mpr fun x hx => (h x hx).2.1
  · have : ∀ xs : List D, (∀ x ∈ xs, szD x ≤ z) → szs xs ≤ xs.length * z := fun xs => by
      induction xs with
      | nil => intro _; simp [szs]
      | cons x xs ih =>
        intro hx
        have a := hx x (by simp)
        have b := ih fun y hy => hx y (by simp [hy])
        simp only [szs, List.length_cons, Nat.succ_mul]
        omega
    have := this xs fun x hx => (h x hx).2.2
    show szs xs + 1 ≤ z'
    omega
theorem gz_t2 {n z z' : Nat} {a b : D} (ha : Gz n a z) (hb : Gz n b z) (hz : 2 * z + 1 ≤ z') : Gz (n + 1) (.tup [a, b]) z' := gz_tup (z := z) (fun x hx => by
  simp only [List.mem_cons, List.not_mem_nil, or_false] at hx
  rcases hx with rfl | rfl <;> assumption) (by simpa using hz)
theorem same_go' {a : D} {q : D → Kd → Prop} (h : Gz 15 a 5000) (hq : q (.bl true) .fz) : spSame [.d a, .d a] q := ⟨a, a, rfl, ⟨h.1, h.2.1⟩, ⟨h.1, h.2.1⟩, h.2.2, fun c hc => by
  have := hc.mpr rfl
  subst this
  exact hq⟩
theorem gz_str {n : Nat} {s : Str} (h : s.cps.all (· < 0x110000) = true) : Gz n (.str s) 1 := ⟨h, by cases n <;> simpa [okE] using h, by simp [szD]⟩
section
variable {ρ ρ' : Rho} {t u : WE} {k k' : Kd} {a : D} {r s : WS} {P : PEnds}
theorem sq_same (ht : Ev t ρ a k) (hu : Ev u ρ a k') (h : Gz 15 a 5000) (q : r P ρ) (hk : k.ok = true := by rfl) (hk' : k'.ok = true := by rfl) : wSeq (wIf (wNot (wTest (wCall spSame (xCons t (xCons u xNil))))) s wNext) r P ρ :=
  sq_skip (et_not (b := true) (et_test (ev_call (k := .fz) (ex_cons ht (ex_cons hu ex_nil hk') hk) fun q h' => same_go' h h'))) q
theorem go_same (ht : Ev t ρ a k) (hu : Ev u ρ a k') (h : Gz 15 a 5000) (q : P.nx ρ) (hk : k.ok = true := by rfl) (hk' : k'.ok = true := by rfl) : wIf (wNot (wTest (wCall spSame (xCons t (xCons u xNil))))) s wNext P ρ :=
  go_skip (et_not (b := true) (et_test (ev_call (k := .fz) (ex_cons ht (ex_cons hu ex_nil hk') hk) fun q h' => same_go' h h'))) q
theorem sq_sameO (ht : Ev t ρ a k) (hu : ∀ Q : D → Kd → Rho → Prop, Q a .fz ρ' → u ρ Q) (h : Gz 15 a 5000) (q : r P ρ') (hk : k.ok = true := by rfl) : wSeq (wIf (wNot (wTest (wCall spSame (xCons t (xCons u xNil))))) s wNext) r P ρ := by
  refine ht _ (toF_ok hk (hu _ ?_))
  rw [toF_fz]
  simp only [xNil]
  exact same_go' h q
end
theorem val_put (es : List (Key × D)) (k : Key) (v : D) (k' : Key) : valD (putD es k v) k' = if k = k' then some v else valD es k' := by
  cases h : valD es k with
  | none => exact valD_new h k'
  | some d =>
    have ha : (es.any fun kv => decide (kv.1 = k)) = true := by
      unfold valD at h
      cases hf : es.find? (fun kv => decide (kv.1 = k)) with
      | none => rw [hf] at h; cases h
      | some p =>
        exact List.any_eq_true.mpr ⟨p, List.mem_of_find?_eq_some hf, List.find?_some (p := fun kv : Key × D => decide (kv.1 = k)) hf⟩
    unfold putD
    rw [if_pos ha]
    unfold valD
    rw [List.find?_map]
    have e1 : ((fun kv : Key × D => decide (kv.1 = k')) ∘ fun kv : Key × D => if kv.1 = k then (kv.1, v) else kv) = fun kv => decide (kv.1 = k') := by
      funext kv
      show decide ((if kv.1 = k then (kv.1, v) else kv).1 = k') = _
      split <;> rfl
    rw [e1]
    by_cases c : k = k'
    · subst c
      rw [if_pos rfl]
      unfold valD at h
      cases hf : es.find? (fun kv => decide (kv.1 = k)) with
      | none => rw [hf] at h; cases h
      | some p =>
        have := List.find?_some (p := fun kv : Key × D => decide (kv.1 = k)) hf
        simp only [decide_eq_true_eq] at this
        simp [this]
    · rw [if_neg c]
      cases hf : es.find? (fun kv => decide (kv.1 = k')) with
      | none => rfl
      | some p =>
        have := List.find?_some (p := fun kv : Key × D => decide (kv.1 = k')) hf
        simp only [decide_eq_true_eq] at this
        have hne : p.1 ≠ k := fun e => c (e.symm.trans this)
        simp [hne]
/-- for .. in range(a draw) -/
theorem go_forD {g : WG} {tb : WS} {P : PEnds} {ρ : Rho} {i : Nat} {m : Int} (hw : ρ[i]? = some .w) (hm : 0 < m) (hm2 : m ≤ 1000000) (h : ∀ xs : List D, xs.length < m.toNat → wLoop g tb P xs ρ) : wFor (wiR1 (wCons (wCall spNext (xW i (xCons (wCon (.int m)) xNil))) wNil)) g tb P ρ := by
  simp only [wFor, wiR1_e, wCons, wNil]
  refine (dm_next hw ev_con hm : Dm (wCall spNext (xW i (xCons (wCon (.int m)) xNil))) ρ _) _ fun d ⟨r, e, r0, r1⟩ => ?_
  subst e
  refine ⟨by unfold i62; omega, h _ ?_⟩
  rw [rng_ir, List.length_map, ir_len]
  omega
/-- a slot that owns its data or that has it frozen -/
theorem own_or {ρ : Rho} {i : Nat} {d : D} {Q : D → Rho → Prop} (ho : ρ[i]? = some (.ow d)) (h : Q d (ρ.set i (.fz d))) : wVar i ρ (toF Q) := by
  rw [wVar_e, ho]
  exact h
end VD

namespace K15
open PySem PySem.Spec PyProof.Rows L2 VL
def topS (i : Nat) : Stmt := PySem.Challenge.pw_chartertold_k15_seals_that_wear.main.body.getD i (.Pass ⟨0, 0, 0, 0⟩)
abbrev s_is_within : Stmt := topS 1
theorem sc_is_within : FnScope ["one", "other", "place"] ["one", "other"] (defScope s_is_within) := ⟨rfl, rfl, rfl, by decide +kernel, rfl, by decide +kernel, by decide +kernel⟩
abbrev s_sorted_by : Stmt := topS 2
theorem sc_sorted_by : FnScope ["many", "comes", "found", "left", "able", "k", "other"] ["many", "comes"] (defScope s_sorted_by) := ⟨rfl, rfl, rfl, by decide +kernel, rfl, by decide +kernel, by decide +kernel⟩
abbrev s_first_unlike : Stmt := topS 3
theorem sc_first_unlike : FnScope ["many", "comes", "i", "j"] ["many", "comes"] (defScope s_first_unlike) := ⟨rfl, rfl, rfl, by decide +kernel, rfl, by decide +kernel, by decide +kernel⟩
abbrev s_told_order : Stmt := topS 4
theorem sc_told_order : FnScope ["many", "comes", "order"] ["many", "comes"] (defScope s_told_order) := ⟨rfl, rfl, rfl, by decide +kernel, rfl, by decide +kernel, by decide +kernel⟩
abbrev s_order_of_wear : Stmt := topS 5
theorem sc_order_of_wear : FnScope ["wears", "many", "comes", "i", "j"] ["wears"] (defScope s_order_of_wear) := ⟨rfl, rfl, rfl, by decide +kernel, rfl, by decide +kernel, by decide +kernel⟩
abbrev s_two_sides : Stmt := topS 6
theorem sc_two_sides : FnScope ["pairs", "many", "comes", "i", "j"] ["pairs"] (defScope s_two_sides) := ⟨rfl, rfl, rfl, by decide +kernel, rfl, by decide +kernel, by decide +kernel⟩
abbrev s_where_in : Stmt := topS 7
theorem sc_where_in : FnScope ["wears", "seen", "ahead", "k", "behind", "first", "last"] ["wears", "seen"] (defScope s_where_in) := ⟨rfl, rfl, rfl, by decide +kernel, rfl, by decide +kernel, by decide +kernel⟩
abbrev s_wear_between : Stmt := topS 8
theorem sc_wear_between : FnScope ["one", "other", "place"] ["one", "other"] (defScope s_wear_between) := ⟨rfl, rfl, rfl, by decide +kernel, rfl, by decide +kernel, by decide +kernel⟩
abbrev s_first_gone : Stmt := topS 9
theorem sc_first_gone : FnScope ["wears", "found", "k", "place"] ["wears"] (defScope s_first_gone) := ⟨rfl, rfl, rfl, by decide +kernel, rfl, by decide +kernel, by decide +kernel⟩
abbrev s_steps_of_wear : Stmt := topS 10
theorem sc_steps_of_wear : FnScope ["wears", "counts", "own", "one", "other"] ["wears"] (defScope s_steps_of_wear) := ⟨rfl, rfl, rfl, by decide +kernel, rfl, by decide +kernel, by decide +kernel⟩
abbrev s__law_draws : Stmt := topS 12
theorem sc__law_draws : FnScope ["script", "many", "draws", "mixed", "k", "cell", "rest", "turn"] ["script", "many"] (defScope s__law_draws) := ⟨rfl, rfl, rfl, by decide +kernel, rfl, by decide +kernel, by decide +kernel⟩
abbrev s__law_next : Stmt := topS 13
theorem sc__law_next : FnScope ["w", "many"] ["w", "many"] (defScope s__law_next) := ⟨rfl, rfl, rfl, by decide +kernel, rfl, by decide +kernel, by decide +kernel⟩
abbrev s__law_same : Stmt := topS 14
theorem sc__law_same : FnScope ["seen", "due", "key"] ["seen", "due"] (defScope s__law_same) := ⟨rfl, rfl, rfl, by decide +kernel, rfl, by decide +kernel, by decide +kernel⟩
abbrev s__law_in : Stmt := topS 15
theorem sc__law_in : FnScope ["one", "other", "place"] ["one", "other"] (defScope s__law_in) := ⟨rfl, rfl, rfl, by decide +kernel, rfl, by decide +kernel, by decide +kernel⟩
abbrev s__law_orders : Stmt := topS 16
theorem sc__law_orders : FnScope ["n", "rows", "turn", "longer", "row", "k"] ["n"] (defScope s__law_orders) := ⟨rfl, rfl, rfl, by decide +kernel, rfl, by decide +kernel, by decide +kernel⟩
abbrev s__law_due : Stmt := topS 17
theorem sc__law_due : FnScope ["many", "comes", "good", "order", "k", "bad", "i", "j"] ["many", "comes"] (defScope s__law_due) := ⟨rfl, rfl, rfl, by decide +kernel, rfl, by decide +kernel, by decide +kernel⟩
abbrev s__law_pairs : Stmt := topS 18
theorem sc__law_pairs : FnScope ["many", "found", "i", "j"] ["many"] (defScope s__law_pairs) := ⟨rfl, rfl, rfl, by decide +kernel, rfl, by decide +kernel, by decide +kernel⟩
abbrev s__law_chain : Stmt := topS 19
theorem sc__law_chain : FnScope ["w", "many", "rows", "now", "k", "n"] ["w", "many"] (defScope s__law_chain) := ⟨rfl, rfl, rfl, by decide +kernel, rfl, by decide +kernel, by decide +kernel⟩
abbrev s_law : Stmt := topS 20
theorem sc_law : FnScope ["script", "w", "turn", "many", "rows", "mixed", "wears", "n", "k", "comes", "i", "j", "a", "b", "backs", "both", "seen", "able", "own", "place", "first"] ["script"] (defScope s_law) := ⟨rfl, rfl, rfl, by decide +kernel, rfl, by decide +kernel, by decide +kernel⟩
section
variable {P : Program} {w : World} {K : PySem.W.Frag} {mg : Str → Option Value} {base : Heap}
def t_is_within : WS :=
  (wRet (wCl cAll (wCons (wComp (wiO (wVar 0)) (wgName 2) wYes (wBin bIn (wVar 2) (wVar 1)) [2]) wNil)))
theorem ok_is_within {sp : FS} {D_is_within : Df K mg "is_within" ["one", "other"] s_is_within} (m_all : mg "all" = none)
    (hs : ∀ as q, sp as q → as.length = 2 ∧ t_is_within ⟨fun _ => q .non .fz, q, fun _ => False, fun _ => False⟩ (rho0 3 as)) : OkF P w base D_is_within 1 sp := by
  refine fn_ok _ D_is_within.F sc_is_within (fun cdv A outer s H E hr => ?_) hs
  have sc := sc_is_within
  have d : SB (cxOf CX0 P w K mg base ["one", "other", "place"] "is_within" (defScope s_is_within) D_is_within.f cdv A outer s H E).nox (defBody s_is_within) _ _ :=
    (b_one (s_ret (c_all m_all (o_cons (e_comp [("place", 2)] sc.nd (io_seq (e_var 0)) (blkOk_by (N := ["one", "other", "place"]) (sc := defScope s_is_within) (by decide +kernel)) (fun _ _ _ _ _ => (g_name 2 sc.nd)) (tgIn_name (by decide)) (fun _ _ _ _ _ => ts_nil) (fun _ _ _ _ _ => (e_in hr (e_var 2) (e_var 1)))) o_nil))))
  exact ⟨_, d.ps, d.snd⟩
def t_sorted_by_c1 : WE :=
  (wBin bSubs (wVar 1) (wTup (wConsF (wVar 5) (wConsF (wVar 6) wNil))))
def t_sorted_by_i1 : WT :=
  (wTest (wCl cAll (wCons (wComp (wiO (wVar 3)) (wgName 6) wYes t_sorted_by_c1 [6]) wNil)))
def t_sorted_by_s1 : WS :=
  (wSeq (wMut 2 (wBin bSubs (wVar 4) (wCon (.int 0))) fAppend)
  (wMut 3 (wBin bSubs (wVar 4) (wCon (.int 0))) fRemove))
def t_sorted_by_w1 : WS :=
  (wSeq (wAsg 4 (wComp (wiO (wVar 3)) (wgName 5) t_sorted_by_i1 (wVar 5) [5]))
  (wSeq (wIf (wTest (wBin bEq (wVar 4) (wLst wNil))) (wRet (wCon .non)) wNext)
  t_sorted_by_s1))
def t_sorted_by_s2 : WS :=
  (wRet (wCl cTuple (wCons (wVar 2) wNil)))
def t_sorted_by : WS :=
  (wSeq (wPar [2, 3] (nCons (wLst wNil) (nCons (wLstRg (wRg1 (wVar 0))) nNil)))
  (wSeq (wWhile (wTest (wBin bNe (wVar 3) (wLst wNil))) t_sorted_by_w1)
  t_sorted_by_s2))
theorem ok_sorted_by {sp : FS} {D_sorted_by : Df K mg "sorted_by" ["many", "comes"] s_sorted_by} (m_list : mg "list" = none) (m_range : mg "range" = none) (m_all : mg "all" = none) (m_tuple : mg "tuple" = none)
    (hs : ∀ as q, sp as q → as.length = 2 ∧ t_sorted_by ⟨fun _ => q .non .fz, q, fun _ => False, fun _ => False⟩ (rho0 7 as)) : OkF P w base D_sorted_by 1 sp := by
  refine fn_ok _ D_sorted_by.F sc_sorted_by (fun cdv A outer s H E hr => ?_) hs
  have sc := sc_sorted_by
  have d : SB (cxOf CX0 P w K mg base ["many", "comes", "found", "left", "able", "k", "other"] "sorted_by" (defScope s_sorted_by) D_sorted_by.f cdv A outer s H E).nox (defBody s_sorted_by) _ _ :=
    (b_cons (s_parT (n := 2) [2, 3] (n_cons (e_lst a_nil) (n_cons (c_listRg m_list (r_1 m_range (e_var 0))) n_nil)) (pg_tup rfl (pgs_cons (g_name 2 sc.nd).pg (pgs_cons (g_name 3 sc.nd).pg pgs_nil))))
    (b_cons (s_while (t_ne hr (e_var 3) (e_lst a_nil)) (b_cons (s_comp (j := 4) [("k", 5)] sc.nd (io_seq (e_var 3)) (blkOk_by (N := ["many", "comes", "found", "left", "able", "k", "other"]) (sc := defScope s_sorted_by) (by decide +kernel)) (fun _ _ _ _ _ => (g_name 5 sc.nd)) (tgIn_name (by decide)) (fun _ _ _ _ _ => (ts_one (t_val (c_all m_all (o_cons (e_comp [("other", 6)] sc.nd (io_seq (e_var 3)) (blkOk_in (N := ["many", "comes", "found", "left", "able", "k", "other"]) (sc := defScope s_sorted_by) rfl (by decide +kernel)) (fun _ _ _ _ _ => (g_name 6 sc.nd)) (tgIn_name (by decide)) (fun _ _ _ _ _ => ts_nil) (fun _ _ _ _ _ => (e_subs hr (e_var 1) (e_tup (a_cons (e_var 5) (a_cons (e_var 6) a_nil)))))) o_nil))))) (fun _ _ _ _ _ => (e_var 5)))
    (b_cons (s_if (t_eq hr (e_var 4) (e_lst a_nil)) (b_one (s_ret e_non)) b_nil)
    (b_cons (s_append 2 (e_subs hr (e_var 4) e_int))
    (b_one (s_remove 3 (e_subs hr (e_var 4) e_int)))))))
    (b_one (s_ret (c_tuple m_tuple (o_cons (e_var 2) o_nil))))))
  exact ⟨_, d.ps, d.snd⟩
def t_first_unlike_f1 : WS :=
  (wIf (wAnd (wNot (wTest (wBin bSubs (wVar 1) (wTup (wConsF (wVar 2) (wConsF (wVar 3) wNil)))))) (wNot (wTest (wBin bSubs (wVar 1) (wTup (wConsF (wVar 3) (wConsF (wVar 2) wNil))))))) (wRet (wTup (wConsF (wCon (.str "no")) (wConsF (wVar 2) (wConsF (wVar 3) wNil))))) wNext)
def t_first_unlike_f2 : WS :=
  (wFor (wiR2 (wCons (wBin bAdd (wVar 2) (wCon (.int 1))) (wCons (wVar 0) wNil))) (wgName 3) t_first_unlike_f1)
def t_first_unlike_s1 : WS :=
  (wRet (wTup (wConsF (wCon (.str "no")) (wConsF (wCon (.int 0)) (wConsF (wCon (.int 0)) wNil)))))
def t_first_unlike : WS :=
  (wSeq (wFor (wiR1 (wCons (wVar 0) wNil)) (wgName 2) t_first_unlike_f2)
  t_first_unlike_s1)
theorem ok_first_unlike {sp : FS} {D_first_unlike : Df K mg "first_unlike" ["many", "comes"] s_first_unlike} (m_range : mg "range" = none)
    (hs : ∀ as q, sp as q → as.length = 2 ∧ t_first_unlike ⟨fun _ => q .non .fz, q, fun _ => False, fun _ => False⟩ (rho0 4 as)) : OkF P w base D_first_unlike 1 sp := by
  refine fn_ok _ D_first_unlike.F sc_first_unlike (fun cdv A outer s H E hr => ?_) hs
  have sc := sc_first_unlike
  have d : SB (cxOf CX0 P w K mg base ["many", "comes", "i", "j"] "first_unlike" (defScope s_first_unlike) D_first_unlike.f cdv A outer s H E).nox (defBody s_first_unlike) _ _ :=
    (b_cons (s_for (if_r1 m_range (o_cons (e_var 0) o_nil)) (g_name 2 sc.nd) (b_one (s_for (if_r2 m_range (o_cons (e_add (e_var 2) e_int) (o_cons (e_var 0) o_nil))) (g_name 3 sc.nd) (b_one (s_if (t_pw (t_and (t_not (t_val (e_subs hr (e_var 1) (e_tup (a_cons (e_var 2) (a_cons (e_var 3) a_nil)))))) (t_and1 (t_not (t_val (e_subs hr (e_var 1) (e_tup (a_cons (e_var 3) (a_cons (e_var 2) a_nil))))))))) (b_one (s_ret (e_tup (a_cons e_str (a_cons (e_var 2) (a_cons (e_var 3) a_nil)))))) b_nil)))))
    (b_one (s_ret (e_tup (a_cons e_str (a_cons e_int (a_cons e_int a_nil)))))))
  exact ⟨_, d.ps, d.snd⟩
def t_told_order (sp_sorted_by : FS) (sp_first_unlike : FS) : WS :=
  (wSeq (wAsg 2 (wCall sp_sorted_by (xCons (wVar 0) (xCons (wVar 1) xNil))))
  (wRet (wIfE (wTest (wBin bIsNot (wVar 2) (wCon .non))) (wTup (wConsF (wCon (.str "yes")) (wConsF (wVar 2) wNil))) (wCall sp_first_unlike (xCons (wVar 0) (xCons (wVar 1) xNil))))))
theorem ok_told_order {sp : FS} {D_told_order : Df K mg "told_order" ["many", "comes"] s_told_order} {sp_sorted_by : FS} {D_sorted_by : Df K mg "sorted_by" ["many", "comes"] s_sorted_by} (F_sorted_by : OkF P w base D_sorted_by 1 sp_sorted_by) {sp_first_unlike : FS} {D_first_unlike : Df K mg "first_unlike" ["many", "comes"] s_first_unlike} (F_first_unlike : OkF P w base D_first_unlike 1 sp_first_unlike)
    (hs : ∀ as q, sp as q → as.length = 2 ∧ t_told_order sp_sorted_by sp_first_unlike ⟨fun _ => q .non .fz, q, fun _ => False, fun _ => False⟩ (rho0 3 as)) : OkF P w base D_told_order 2 sp := by
  refine fn_ok _ D_told_order.F sc_told_order (fun cdv A outer s H E hr => ?_) hs
  have sc := sc_told_order
  have d : SB (cxOf CX0 P w K mg base ["many", "comes", "order"] "told_order" (defScope s_told_order) D_told_order.f cdv A outer s H E).nox (defBody s_told_order) _ _ :=
    (b_cons (s_asg 2 sc.nd (e_call F_sorted_by (hr.mono (by first | exact Nat.le_refl _ | decide | omega)) (x_cons (e_var 0) (x_cons (e_var 1) x_nil))))
    (b_one (s_ret (e_ifE (t_isnot (e_var 2) e_non) (e_tup (a_cons e_str (a_cons (e_var 2) a_nil))) (e_call F_first_unlike (hr.mono (by first | exact Nat.le_refl _ | decide | omega)) (x_cons (e_var 0) (x_cons (e_var 1) x_nil)))))))
  exact ⟨_, d.ps, d.snd⟩
def t_order_of_wear (sp_is_within : FS) (sp_told_order : FS) : WS :=
  (wSeq (wAsg 1 (wCl cLen (wCons (wVar 0) wNil)))
  (wSeq (wAsg 2 (wCl cDictT (wCons (wComp2 (wiR1 (wCons (wVar 1) wNil)) (wgName 3) wYes (wiR1 (wCons (wVar 1) wNil)) (wgName 4) wYes (wTup (wConsF (wTup (wConsF (wVar 3) (wConsF (wVar 4) wNil))) (wConsF (wCall sp_is_within (xCons (wBin bSubs (wVar 0) (wVar 3)) (xCons (wBin bSubs (wVar 0) (wVar 4)) xNil))) wNil))) [3, 4] [4]) wNil)))
  (wRet (wCall sp_told_order (xCons (wVar 1) (xCons (wVar 2) xNil))))))
theorem ok_order_of_wear {sp : FS} {D_order_of_wear : Df K mg "order_of_wear" ["wears"] s_order_of_wear} {sp_is_within : FS} {D_is_within : Df K mg "is_within" ["one", "other"] s_is_within} (F_is_within : OkF P w base D_is_within 1 sp_is_within) {sp_told_order : FS} {D_told_order : Df K mg "told_order" ["many", "comes"] s_told_order} (F_told_order : OkF P w base D_told_order 2 sp_told_order) (m_len : mg "len" = none) (m_dict : mg "dict" = none) (m_range : mg "range" = none)
    (hs : ∀ as q, sp as q → as.length = 1 ∧ t_order_of_wear sp_is_within sp_told_order ⟨fun _ => q .non .fz, q, fun _ => False, fun _ => False⟩ (rho0 5 as)) : OkF P w base D_order_of_wear 3 sp := by
  refine fn_ok _ D_order_of_wear.F sc_order_of_wear (fun cdv A outer s H E hr => ?_) hs
  have sc := sc_order_of_wear
  have d : SB (cxOf CX0 P w K mg base ["wears", "many", "comes", "i", "j"] "order_of_wear" (defScope s_order_of_wear) D_order_of_wear.f cdv A outer s H E).nox (defBody s_order_of_wear) _ _ :=
    (b_cons (s_asg 1 sc.nd (c_len m_len (o_cons (e_var 0) o_nil)))
    (b_cons (s_asg 2 sc.nd (c_dictT hr m_dict (o_cons (e_comp2 [("i", 3), ("j", 4)] [4] sc.nd (io_r1 m_range (o_cons (e_var 1) o_nil)) (blkOk_by (N := ["wears", "many", "comes", "i", "j"]) (sc := defScope s_order_of_wear) (by decide +kernel)) (fun _ _ _ _ _ => (g_name 3 sc.nd)) (tgIn_name (by decide)) (fun _ _ _ _ _ => ts_nil) (fun _ _ _ _ _ => (if_r1 m_range (o_cons (e_var 1) o_nil))) (fun _ _ _ _ _ => (g_name 4 sc.nd)) (tgIn_name (by decide)) (fun _ _ _ _ _ => ts_nil) (fun _ _ _ _ _ => (e_tup (a_cons (e_tup (a_cons (e_var 3) (a_cons (e_var 4) a_nil))) (a_cons (e_call F_is_within (hr.mono (by first | exact Nat.le_refl _ | decide | omega)) (x_cons (e_subs hr (e_var 0) (e_var 3)) (x_cons (e_subs hr (e_var 0) (e_var 4)) x_nil))) a_nil))))) o_nil)))
    (b_one (s_ret (e_call F_told_order (hr.mono (by first | exact Nat.le_refl _ | decide | omega)) (x_cons (e_var 1) (x_cons (e_var 2) x_nil)))))))
  exact ⟨_, d.ps, d.snd⟩
def t_two_sides_f1 (sp_is_within : FS) : WS :=
  (wDPut 2 (wTup (wConsF (wVar 3) (wConsF (wVar 4) wNil))) (wAndV (wCall sp_is_within (xCons (wBin bSubs (wBin bSubs (wVar 0) (wVar 3)) (wCon (.int 0))) (xCons (wBin bSubs (wBin bSubs (wVar 0) (wVar 4)) (wCon (.int 0))) xNil))) (wCall sp_is_within (xCons (wBin bSubs (wBin bSubs (wVar 0) (wVar 3)) (wCon (.int 1))) (xCons (wBin bSubs (wBin bSubs (wVar 0) (wVar 4)) (wCon (.int 1))) xNil)))))
def t_two_sides_f2 (sp_is_within : FS) : WS :=
  (wFor (wiR1 (wCons (wVar 1) wNil)) (wgName 4) (t_two_sides_f1 sp_is_within))
def t_two_sides_s1 (sp_told_order : FS) : WS :=
  (wRet (wCall sp_told_order (xCons (wVar 1) (xCons (wVar 2) xNil))))
def t_two_sides (sp_is_within : FS) (sp_told_order : FS) : WS :=
  (wSeq (wAsg 1 (wCl cLen (wCons (wVar 0) wNil)))
  (wSeq (wAsg 2 wDt0)
  (wSeq (wFor (wiR1 (wCons (wVar 1) wNil)) (wgName 3) (t_two_sides_f2 sp_is_within))
  (t_two_sides_s1 sp_told_order))))
theorem ok_two_sides {sp : FS} {D_two_sides : Df K mg "two_sides" ["pairs"] s_two_sides} {sp_is_within : FS} {D_is_within : Df K mg "is_within" ["one", "other"] s_is_within} (F_is_within : OkF P w base D_is_within 1 sp_is_within) {sp_told_order : FS} {D_told_order : Df K mg "told_order" ["many", "comes"] s_told_order} (F_told_order : OkF P w base D_told_order 2 sp_told_order) (m_len : mg "len" = none) (m_range : mg "range" = none)
    (hs : ∀ as q, sp as q → as.length = 1 ∧ t_two_sides sp_is_within sp_told_order ⟨fun _ => q .non .fz, q, fun _ => False, fun _ => False⟩ (rho0 5 as)) : OkF P w base D_two_sides 3 sp := by
  refine fn_ok _ D_two_sides.F sc_two_sides (fun cdv A outer s H E hr => ?_) hs
  have sc := sc_two_sides
  have d : SB (cxOf CX0 P w K mg base ["pairs", "many", "comes", "i", "j"] "two_sides" (defScope s_two_sides) D_two_sides.f cdv A outer s H E).nox (defBody s_two_sides) _ _ :=
    (b_cons (s_asg 1 sc.nd (c_len m_len (o_cons (e_var 0) o_nil)))
    (b_cons (s_asg 2 sc.nd e_dt0)
    (b_cons (s_for (if_r1 m_range (o_cons (e_var 1) o_nil)) (g_name 3 sc.nd) (b_one (s_for (if_r1 m_range (o_cons (e_var 1) o_nil)) (g_name 4 sc.nd) (b_one (s_dput 2 hr (e_tup (a_cons (e_var 3) (a_cons (e_var 4) a_nil))) (e_andV (e_call F_is_within (hr.mono (by first | exact Nat.le_refl _ | decide | omega)) (x_cons (e_subs hr (e_subs hr (e_var 0) (e_var 3)) e_int) (x_cons (e_subs hr (e_subs hr (e_var 0) (e_var 4)) e_int) x_nil))) (e_one (e_call F_is_within (hr.mono (by first | exact Nat.le_refl _ | decide | omega)) (x_cons (e_subs hr (e_subs hr (e_var 0) (e_var 3)) e_int) (x_cons (e_subs hr (e_subs hr (e_var 0) (e_var 4)) e_int) x_nil))))))))))
    (b_one (s_ret (e_call F_told_order (hr.mono (by first | exact Nat.le_refl _ | decide | omega)) (x_cons (e_var 1) (x_cons (e_var 2) x_nil))))))))
  exact ⟨_, d.ps, d.snd⟩
def t_where_in_i1 (sp_is_within : FS) : WT :=
  (wNot (wTest (wCall sp_is_within (xCons (wVar 1) (xCons (wBin bSubs (wVar 0) (wVar 3)) xNil)))))
def t_where_in_i2 (sp_is_within : FS) : WT :=
  (wNot (wTest (wCall sp_is_within (xCons (wBin bSubs (wVar 0) (wVar 3)) (xCons (wVar 1) xNil)))))
def t_where_in (sp_is_within : FS) : WS :=
  (wSeq (wAsg 2 (wComp (wiR1 (wCons (wCl cLen (wCons (wVar 0) wNil)) wNil)) (wgName 3) (t_where_in_i1 sp_is_within) (wVar 3) [3]))
  (wSeq (wAsg 4 (wComp (wiR1 (wCons (wCl cLen (wCons (wVar 0) wNil)) wNil)) (wgName 3) (t_where_in_i2 sp_is_within) (wVar 3) [3]))
  (wSeq (wAsg 5 (wBin bAdd (wCl cMax (wCons (wBin bAdd (wLst (wConsF (wUn uNeg (wCon (.int 1))) wNil)) (wVar 2)) wNil)) (wCon (.int 1))))
  (wSeq (wAsg 6 (wCl cMin (wCons (wBin bAdd (wLst (wConsF (wCl cLen (wCons (wVar 0) wNil)) wNil)) (wVar 4)) wNil)))
  (wRet (wIfE (wTest (wBin bLeD (wVar 5) (wVar 6))) (wTup (wConsF (wVar 5) (wConsF (wVar 6) wNil))) (wCon .non)))))))
theorem ok_where_in {sp : FS} {D_where_in : Df K mg "where_in" ["wears", "seen"] s_where_in} {sp_is_within : FS} {D_is_within : Df K mg "is_within" ["one", "other"] s_is_within} (F_is_within : OkF P w base D_is_within 1 sp_is_within) (m_range : mg "range" = none) (m_len : mg "len" = none) (m_max : mg "max" = none) (m_min : mg "min" = none)
    (hs : ∀ as q, sp as q → as.length = 2 ∧ t_where_in sp_is_within ⟨fun _ => q .non .fz, q, fun _ => False, fun _ => False⟩ (rho0 7 as)) : OkF P w base D_where_in 2 sp := by
  refine fn_ok _ D_where_in.F sc_where_in (fun cdv A outer s H E hr => ?_) hs
  have sc := sc_where_in
  have d : SB (cxOf CX0 P w K mg base ["wears", "seen", "ahead", "k", "behind", "first", "last"] "where_in" (defScope s_where_in) D_where_in.f cdv A outer s H E).nox (defBody s_where_in) _ _ :=
    (b_cons (s_comp (j := 2) [("k", 3)] sc.nd (io_r1 m_range (o_cons (c_len m_len (o_cons (e_var 0) o_nil)) o_nil)) (blkOk_by (N := ["wears", "seen", "ahead", "k", "behind", "first", "last"]) (sc := defScope s_where_in) (by decide +kernel)) (fun _ _ _ _ _ => (g_name 3 sc.nd)) (tgIn_name (by decide)) (fun _ _ _ _ _ => (ts_one (t_not (t_val (e_call F_is_within (hr.mono (by first | exact Nat.le_refl _ | decide | omega)) (x_cons (e_var 1) (x_cons (e_subs hr (e_var 0) (e_var 3)) x_nil))))))) (fun _ _ _ _ _ => (e_var 3)))
    (b_cons (s_comp (j := 4) [("k", 3)] sc.nd (io_r1 m_range (o_cons (c_len m_len (o_cons (e_var 0) o_nil)) o_nil)) (blkOk_by (N := ["wears", "seen", "ahead", "k", "behind", "first", "last"]) (sc := defScope s_where_in) (by decide +kernel)) (fun _ _ _ _ _ => (g_name 3 sc.nd)) (tgIn_name (by decide)) (fun _ _ _ _ _ => (ts_one (t_not (t_val (e_call F_is_within (hr.mono (by first | exact Nat.le_refl _ | decide | omega)) (x_cons (e_subs hr (e_var 0) (e_var 3)) (x_cons (e_var 1) x_nil))))))) (fun _ _ _ _ _ => (e_var 3)))
    (b_cons (s_asg 5 sc.nd (e_add (c_max hr m_max (o_cons (e_add (e_lst (a_cons (e_neg e_int) a_nil)) (e_var 2)) o_nil)) e_int))
    (b_cons (s_asg 6 sc.nd (c_min hr m_min (o_cons (e_add (e_lst (a_cons (c_len m_len (o_cons (e_var 0) o_nil)) a_nil)) (e_var 4)) o_nil)))
    (b_one (s_ret (e_ifE (t_le hr (e_var 5) (e_var 6)) (e_tup (a_cons (e_var 5) (a_cons (e_var 6) a_nil))) e_non)))))))
  exact ⟨_, d.ps, d.snd⟩
def t_wear_between : WS :=
  (wRet (wTup (wConsF (wVar 0) (wConsF (wCl cTuple (wCons (wComp (wiO (wVar 1)) (wgName 2) (wTest (wBin bNotIn (wVar 2) (wVar 0))) (wVar 2) [2]) wNil)) wNil))))
theorem ok_wear_between {sp : FS} {D_wear_between : Df K mg "wear_between" ["one", "other"] s_wear_between} (m_tuple : mg "tuple" = none)
    (hs : ∀ as q, sp as q → as.length = 2 ∧ t_wear_between ⟨fun _ => q .non .fz, q, fun _ => False, fun _ => False⟩ (rho0 3 as)) : OkF P w base D_wear_between 1 sp := by
  refine fn_ok _ D_wear_between.F sc_wear_between (fun cdv A outer s H E hr => ?_) hs
  have sc := sc_wear_between
  have d : SB (cxOf CX0 P w K mg base ["one", "other", "place"] "wear_between" (defScope s_wear_between) D_wear_between.f cdv A outer s H E).nox (defBody s_wear_between) _ _ :=
    (b_one (s_ret (e_tup (a_cons (e_var 0) (a_cons (c_tuple m_tuple (o_cons (e_comp [("place", 2)] sc.nd (io_seq (e_var 1)) (blkOk_by (N := ["one", "other", "place"]) (sc := defScope s_wear_between) (by decide +kernel)) (fun _ _ _ _ _ => (g_name 2 sc.nd)) (tgIn_name (by decide)) (fun _ _ _ _ _ => (ts_one (t_notin hr (e_var 2) (e_var 0)))) (fun _ _ _ _ _ => (e_var 2))) o_nil)) a_nil)))))
  exact ⟨_, d.ps, d.snd⟩
def t_first_gone_f1 : WS :=
  (wDPut 1 (wVar 3) (wGet2 (wVar 1) (wVar 3) (wVar 2)))
def t_first_gone_f2 : WS :=
  (wFor (wiF (wBin bSubs (wVar 0) (wVar 2))) (wgName 3) t_first_gone_f1)
def t_first_gone : WS :=
  (wSeq (wAsg 1 wDk0)
  (wSeq (wFor (wiR1 (wCons (wCl cLen (wCons (wVar 0) wNil)) wNil)) (wgName 2) t_first_gone_f2)
  (wRet (wVar 1))))
theorem ok_first_gone {sp : FS} {D_first_gone : Df K mg "first_gone" ["wears"] s_first_gone} (m_range : mg "range" = none) (m_len : mg "len" = none)
    (hs : ∀ as q, sp as q → as.length = 1 ∧ t_first_gone ⟨fun _ => q .non .fz, q, fun _ => False, fun _ => False⟩ (rho0 4 as)) : OkF P w base D_first_gone 1 sp := by
  refine fn_ok _ D_first_gone.F sc_first_gone (fun cdv A outer s H E hr => ?_) hs
  have sc := sc_first_gone
  have d : SB (cxOf CX0 P w K mg base ["wears", "found", "k", "place"] "first_gone" (defScope s_first_gone) D_first_gone.f cdv A outer s H E).nox (defBody s_first_gone) _ _ :=
    (b_cons (s_asg 1 sc.nd e_dk0)
    (b_cons (s_for (if_r1 m_range (o_cons (c_len m_len (o_cons (e_var 0) o_nil)) o_nil)) (g_name 2 sc.nd) (b_one (s_for (if_seq (e_subs hr (e_var 0) (e_var 2))) (g_name 3 sc.nd) (b_one (s_dput 1 hr (e_var 3) (e_get2 hr (e_var 1) (e_var 3) (e_var 2)))))))
    (b_one (s_ret (e_var 1)))))
  exact ⟨_, d.ps, d.snd⟩
def t_steps_of_wear : WS :=
  (wSeq (wAsg 1 (wBin bAdd (wLst (wConsF (wCon (.int 0)) wNil)) (wComp (wiO (wVar 0)) (wgName 2) wYes (wCl cLen (wCons (wVar 2) wNil)) [2])))
  (wRet (wCl cTuple (wCons (wComp (wiZipO (wVar 1) (wSlice (wVar 1) (wPSome (wCon (.int 1))) wPNone)) (wgTup 2 (wgCons (wgName 3) (wgCons (wgName 4) wgNil))) wYes (wBin bSub (wVar 4) (wVar 3)) [3, 4]) wNil))))
theorem ok_steps_of_wear {sp : FS} {D_steps_of_wear : Df K mg "steps_of_wear" ["wears"] s_steps_of_wear} (m_len : mg "len" = none) (m_tuple : mg "tuple" = none) (m_zip : mg "zip" = none)
    (hs : ∀ as q, sp as q → as.length = 1 ∧ t_steps_of_wear ⟨fun _ => q .non .fz, q, fun _ => False, fun _ => False⟩ (rho0 5 as)) : OkF P w base D_steps_of_wear 1 sp := by
  refine fn_ok _ D_steps_of_wear.F sc_steps_of_wear (fun cdv A outer s H E hr => ?_) hs
  have sc := sc_steps_of_wear
  have d : SB (cxOf CX0 P w K mg base ["wears", "counts", "own", "one", "other"] "steps_of_wear" (defScope s_steps_of_wear) D_steps_of_wear.f cdv A outer s H E).nox (defBody s_steps_of_wear) _ _ :=
    (b_cons (s_asg 1 sc.nd (e_add (e_lst (a_cons e_int a_nil)) (e_comp [("own", 2)] sc.nd (io_seq (e_var 0)) (blkOk_by (N := ["wears", "counts", "own", "one", "other"]) (sc := defScope s_steps_of_wear) (by decide +kernel)) (fun _ _ _ _ _ => (g_name 2 sc.nd)) (tgIn_name (by decide)) (fun _ _ _ _ _ => ts_nil) (fun _ _ _ _ _ => (c_len m_len (o_cons (e_var 2) o_nil))))))
    (b_one (s_ret (c_tuple m_tuple (o_cons (e_comp [("one", 3), ("other", 4)] sc.nd (io_zip m_zip (e_var 1) (e_slice (e_var 1) (q_some e_int) q_none)) (blkOk_by (N := ["wears", "counts", "own", "one", "other"]) (sc := defScope s_steps_of_wear) (by decide +kernel)) (fun _ _ _ _ _ => (g_tup (n := 2) rfl (g_cons (g_name 3 sc.nd) (g_cons (g_name 4 sc.nd) g_nil)))) (tgIn_tup (tgIn_cons (tgIn_name (by decide)) (tgIn_cons (tgIn_name (by decide)) tgIn_nil))) (fun _ _ _ _ _ => ts_nil) (fun _ _ _ _ _ => (e_sub (e_var 4) (e_var 3)))) o_nil)))))
  exact ⟨_, d.ps, d.snd⟩
def t__law_draws_f1 : WS :=
  (wIf (wTest (wBin bGtD (wVar 6) (wCon (.int 0)))) (wSeq (wMut 2 (wBin bMod (wCl cInt (wCons (wVar 6) wNil)) (wCon (.int 997))) fAppend)
  (wAsg 6 (wBin bDiv (wVar 6) (wCon (.int 997))))) wNext)
def t__law_draws_s1 : WS :=
  (wFor (wiR1 (wCons (wCon (.int 60)) wNil)) (wgName 7) t__law_draws_f1)
def t__law_draws_f2 : WS :=
  (wSeq (wAsg 5 (wCl cAbs (wCons (wCl cInt (wCons (wBin bSubs (wVar 0) (wVar 4)) wNil)) wNil)))
  (wSeq (wAsg 3 (wBin bMod (wCl cInt (wCons (wBin bAdd (wBin bAdd (wBin bMul (wVar 3) (wCon (.int 48271))) (wBin bMod (wVar 5) (wCon (.int 1000003)))) (wVar 4)) wNil)) (wCon (.int 65537))))
  (wSeq (wAsg 6 (wCon (.int 0)))
  (wSeq (wIf (wTest (wBin bGeD (wVar 5) (wBin bPow (wCon (.int 10)) (wCon (.int 18))))) (wAsg 6 (wVar 5)) (wSeq (wMut 2 (wBin bMod (wCl cInt (wCons (wVar 5) wNil)) (wCon (.int 997))) fAppend)
  (wMut 2 (wBin bMod (wBin bMod (wCl cInt (wCons (wBin bAdd (wBin bMul (wVar 3) (wCon (.int 69621))) (wCon (.int 5))) wNil)) (wCon (.int 65521))) (wCon (.int 997))) fAppend)))
  t__law_draws_s1))))
def t__law_draws_f3 : WS :=
  (wSeq (wAsg 3 (wBin bMod (wCl cInt (wCons (wBin bAdd (wBin bAdd (wBin bMul (wVar 3) (wCon (.int 16807))) (wVar 4)) (wCon (.int 1))) wNil)) (wCon (.int 65537))))
  (wMut 2 (wBin bMod (wCl cInt (wCons (wVar 3) wNil)) (wCon (.int 997))) fAppend))
def t__law_draws_s2 : WS :=
  (wRet (wSlice (wVar 2) wPNone (wPSome (wVar 1))))
def t__law_draws_s3 : WS :=
  (wSeq (wFor (wiR1 (wCons (wVar 1) wNil)) (wgName 4) t__law_draws_f3)
  t__law_draws_s2)
def t__law_draws : WS :=
  (wSeq (wAsg 2 (wLst wNil))
  (wSeq (wAsg 3 (wCon (.int 7)))
  (wSeq (wFor (wiR1 (wCons (wCl cLen (wCons (wVar 0) wNil)) wNil)) (wgName 4) t__law_draws_f2)
  t__law_draws_s3)))
theorem ok__law_draws {sp : FS} {D__law_draws : Df K mg "_law_draws" ["script", "many"] s__law_draws} (m_range : mg "range" = none) (m_len : mg "len" = none) (m_abs : mg "abs" = none) (m_int : mg "int" = none)
    (hs : ∀ as q, sp as q → as.length = 2 ∧ t__law_draws ⟨fun _ => q .non .fz, q, fun _ => False, fun _ => False⟩ (rho0 8 as)) : OkF P w base D__law_draws 1 sp := by
  refine fn_ok _ D__law_draws.F sc__law_draws (fun cdv A outer s H E hr => ?_) hs
  have sc := sc__law_draws
  have d : SB (cxOf CX0 P w K mg base ["script", "many", "draws", "mixed", "k", "cell", "rest", "turn"] "_law_draws" (defScope s__law_draws) D__law_draws.f cdv A outer s H E).nox (defBody s__law_draws) _ _ :=
    (b_cons (s_asg 2 sc.nd (e_lst a_nil))
    (b_cons (s_asg 3 sc.nd e_int)
    (b_cons (s_for (if_r1 m_range (o_cons (c_len m_len (o_cons (e_var 0) o_nil)) o_nil)) (g_name 4 sc.nd) (b_cons (s_asg 5 sc.nd (c_abs m_abs (o_cons (c_int m_int (o_cons (e_subs hr (e_var 0) (e_var 4)) o_nil)) o_nil)))
    (b_cons (s_asg 3 sc.nd (e_mod (c_int m_int (o_cons (e_add (e_add (e_mul (e_var 3) e_int) (e_mod (e_var 5) e_int)) (e_var 4)) o_nil)) e_int))
    (b_cons (s_asg 6 sc.nd e_int)
    (b_cons (s_if (t_ge hr (e_var 5) (e_pow e_int e_int)) (b_one (s_asg 6 sc.nd (e_var 5))) (b_cons (s_append 2 (e_mod (c_int m_int (o_cons (e_var 5) o_nil)) e_int))
    (b_one (s_append 2 (e_mod (e_mod (c_int m_int (o_cons (e_add (e_mul (e_var 3) e_int) e_int) o_nil)) e_int) e_int)))))
    (b_one (s_for (if_r1 m_range (o_cons e_int o_nil)) (g_name 7 sc.nd) (b_one (s_if (t_gt hr (e_var 6) e_int) (b_cons (s_append 2 (e_mod (c_int m_int (o_cons (e_var 6) o_nil)) e_int))
    (b_one (s_asg 6 sc.nd (e_div (e_var 6) e_int)))) b_nil)))))))))
    (b_cons (s_for (if_r1 m_range (o_cons (e_var 1) o_nil)) (g_name 4 sc.nd) (b_cons (s_asg 3 sc.nd (e_mod (c_int m_int (o_cons (e_add (e_add (e_mul (e_var 3) e_int) (e_var 4)) e_int) o_nil)) e_int))
    (b_one (s_append 2 (e_mod (c_int m_int (o_cons (e_var 3) o_nil)) e_int)))))
    (b_one (s_ret (e_slice (e_var 2) q_none (q_some (e_var 1)))))))))
  exact ⟨_, d.ps, d.snd⟩
theorem ok__law_next {D__law_next : Df K mg "_law_next" ["w", "many"] s__law_next} (m_len : mg "len" = none) (m_int : mg "int" = none) : OkF P w base D__law_next 1 spNext := by
  refine next_ok D__law_next.F sc__law_next fun cdv A outer s H E hr => ?_
  exact pss_cons (ps_daug (u1 hr) (pv 0) pe_str pe_int in_add (by intros; rfl))
    (pss_cons (ps_if (pt_cmpR op_gt (pe_dget (u1 hr) (pv 0) pe_str (by intro _ _; rfl)) (pe_callB cr_lenD (by rfl) m_len PySem.boot_len (pa_cons (pe_dget (u1 hr) (pv 0) pe_str (by intro _ _; rfl)) pa_nil)) (nomark _)) (pss_one (ps_ret pe_int)) pss_nil)
    (pss_one (ps_ret (pe_op op_modN (pe_callTy call_int1 (by rfl) m_int (by decide +kernel) (pa_cons (pe_ix ix_seq (pe_dget (u1 hr) (pv 0) pe_str (by intro _ _; rfl)) (pe_op op_sub (pe_dget (u1 hr) (pv 0) pe_str (by intro _ _; rfl)) pe_int) (by intro _ _; rfl)) pa_nil)) (pv 1)))))
def t__law_same_i1 : WT :=
  (wTest (wBin bNe (wBin bSubs (wVar 0) (wVar 2)) (wBin bSubs (wVar 1) (wVar 2))))
def t__law_same : WS :=
  (wRet (wAndV (wIs "dict" (wVar 0)) (wAndV (wBin bEq (wClP PSortKI (wCons (wVar 0) wNil)) (wClP PSortKI (wCons (wVar 1) wNil))) (wBin bEq (wComp (wiK 1) (wgName 2) t__law_same_i1 (wVar 2) [2]) (wLst wNil)))))
theorem ok__law_same {sp : FS} {D__law_same : Df K mg "_law_same" ["seen", "due"] s__law_same} (m_sorted : mg "sorted" = none) (m_isinstance : mg "isinstance" = none) (m_dict : mg "dict" = none)
    (hs : ∀ as q, sp as q → as.length = 2 ∧ t__law_same ⟨fun _ => q .non .fz, q, fun _ => False, fun _ => False⟩ (rho0 3 as)) : OkF P w base D__law_same 1 sp := by
  refine fn_ok _ D__law_same.F sc__law_same (fun cdv A outer s H E hr => ?_) hs
  have sc := sc__law_same
  have d : SB (cxOf CX0 P w K mg base ["seen", "due", "key"] "_law_same" (defScope s__law_same) D__law_same.f cdv A outer s H E).nox (defBody s__law_same) _ _ :=
    (b_one (s_ret (e_andV (c_isi "dict" (e_var 0) m_isinstance m_dict) (e_andV (e_eq hr (c_sortKI hr m_sorted (o_cons (e_var 0) o_nil)) (c_sortKI hr m_sorted (o_cons (e_var 1) o_nil))) (e_one (e_eq hr (e_compK 1 [("key", 2)] sc.nd (e_var 1) (blkOk_by (N := ["seen", "due", "key"]) (sc := defScope s__law_same) (by decide +kernel)) (fun _ _ _ _ _ => (g_name 2 sc.nd)) (tgIn_name (by decide)) (fun _ _ _ _ _ => (ts_one (t_ne hr (e_subs hr (e_var 0) (e_var 2)) (e_subs hr (e_var 1) (e_var 2))))) (fun _ _ _ _ _ => (e_var 2))) (e_lst a_nil)))))))
  exact ⟨_, d.ps, d.snd⟩
def t__law_in : WS :=
  (wRet (wBin bEq (wComp (wiO (wVar 0)) (wgName 2) (wTest (wBin bNotIn (wVar 2) (wVar 1))) (wVar 2) [2]) (wLst wNil)))
theorem ok__law_in {sp : FS} {D__law_in : Df K mg "_law_in" ["one", "other"] s__law_in}
    (hs : ∀ as q, sp as q → as.length = 2 ∧ t__law_in ⟨fun _ => q .non .fz, q, fun _ => False, fun _ => False⟩ (rho0 3 as)) : OkF P w base D__law_in 1 sp := by
  refine fn_ok _ D__law_in.F sc__law_in (fun cdv A outer s H E hr => ?_) hs
  have sc := sc__law_in
  have d : SB (cxOf CX0 P w K mg base ["one", "other", "place"] "_law_in" (defScope s__law_in) D__law_in.f cdv A outer s H E).nox (defBody s__law_in) _ _ :=
    (b_one (s_ret (e_eq hr (e_comp [("place", 2)] sc.nd (io_seq (e_var 0)) (blkOk_by (N := ["one", "other", "place"]) (sc := defScope s__law_in) (by decide +kernel)) (fun _ _ _ _ _ => (g_name 2 sc.nd)) (tgIn_name (by decide)) (fun _ _ _ _ _ => (ts_one (t_notin hr (e_var 2) (e_var 1)))) (fun _ _ _ _ _ => (e_var 2))) (e_lst a_nil))))
  exact ⟨_, d.ps, d.snd⟩
def t__law_orders_c1 : WE :=
  (wBin bAdd (wVar 4) (wTup (wConsF (wVar 5) wNil)))
def t__law_orders_f1 : WS :=
  (wAsg 3 (wBin bAdd (wVar 3) (wComp (wiR1 (wCons (wVar 0) wNil)) (wgName 5) (wTest (wBin bNotIn (wVar 5) (wVar 4))) t__law_orders_c1 [5])))
def t__law_orders_f2 : WS :=
  (wSeq (wAsg 3 (wLst wNil))
  (wSeq (wFor (wiF (wVar 1)) (wgName 4) t__law_orders_f1)
  (wAsg 1 (wVar 3))))
def t__law_orders : WS :=
  (wSeq (wAsg 1 (wLst (wConsF (wTup wNil) wNil)))
  (wSeq (wFor (wiR1 (wCons (wVar 0) wNil)) (wgName 2) t__law_orders_f2)
  (wRet (wVar 1))))
theorem ok__law_orders {sp : FS} {D__law_orders : Df K mg "_law_orders" ["n"] s__law_orders} (m_range : mg "range" = none)
    (hs : ∀ as q, sp as q → as.length = 1 ∧ t__law_orders ⟨fun _ => q .non .fz, q, fun _ => False, fun _ => False⟩ (rho0 6 as)) : OkF P w base D__law_orders 1 sp := by
  refine fn_ok _ D__law_orders.F sc__law_orders (fun cdv A outer s H E hr => ?_) hs
  have sc := sc__law_orders
  have d : SB (cxOf CX0 P w K mg base ["n", "rows", "turn", "longer", "row", "k"] "_law_orders" (defScope s__law_orders) D__law_orders.f cdv A outer s H E).nox (defBody s__law_orders) _ _ :=
    (b_cons (s_asg 1 sc.nd (e_lst (a_cons (e_tup a_nil) a_nil)))
    (b_cons (s_for (if_r1 m_range (o_cons (e_var 0) o_nil)) (g_name 2 sc.nd) (b_cons (s_asg 3 sc.nd (e_lst a_nil))
    (b_cons (s_for (if_seq (e_var 1)) (g_name 4 sc.nd) (b_one (s_asg 3 sc.nd (e_add (e_var 3) (e_comp [("k", 5)] sc.nd (io_r1 m_range (o_cons (e_var 0) o_nil)) (blkOk_by (N := ["n", "rows", "turn", "longer", "row", "k"]) (sc := defScope s__law_orders) (by decide +kernel)) (fun _ _ _ _ _ => (g_name 5 sc.nd)) (tgIn_name (by decide)) (fun _ _ _ _ _ => (ts_one (t_notin hr (e_var 5) (e_var 4)))) (fun _ _ _ _ _ => (e_add (e_var 4) (e_tup (a_cons (e_var 5) a_nil)))))))))
    (b_one (s_asg 1 sc.nd (e_var 3))))))
    (b_one (s_ret (e_var 1)))))
  exact ⟨_, d.ps, d.snd⟩
def t__law_due_i1 : WT :=
  (wTest (wBin bNotIn (wTup (wConsF (wBin bSubs (wVar 3) (wVar 4)) (wConsF (wBin bSubs (wVar 3) (wBin bAdd (wVar 4) (wCon (.int 1)))) wNil))) (wVar 1)))
def t__law_due_i2 : WT :=
  (wTest (wBin bEq (wComp (wiR1 (wCons (wBin bSub (wVar 0) (wCon (.int 1))) wNil)) (wgName 4) t__law_due_i1 (wVar 4) [4]) (wLst wNil)))
def t__law_due_i3 : WT :=
  (wAnd (wTest (wBin bNotIn (wTup (wConsF (wVar 6) (wConsF (wVar 7) wNil))) (wVar 1))) (wTest (wBin bNotIn (wTup (wConsF (wVar 7) (wConsF (wVar 6) wNil))) (wVar 1))))
def t__law_due_c1 : WE :=
  (wTup (wConsF (wVar 6) (wConsF (wVar 7) wNil)))
def t__law_due_s1 (sp__law_pairs : FS) : WS :=
  (wSeq (wAsg 5 (wComp (wiO (wCall sp__law_pairs (xCons (wVar 0) xNil))) (wgTup 2 (wgCons (wgName 6) (wgCons (wgName 7) wgNil))) t__law_due_i3 t__law_due_c1 [6, 7]))
  (wRet (wTup (wConsF (wCon (.str "no")) (wConsF (wBin bSubs (wBin bSubs (wVar 5) (wCon (.int 0))) (wCon (.int 0))) (wConsF (wBin bSubs (wBin bSubs (wVar 5) (wCon (.int 0))) (wCon (.int 1))) wNil))))))
def t__law_due (sp__law_orders : FS) (sp__law_pairs : FS) : WS :=
  (wSeq (wAsg 2 (wComp (wiO (wCall sp__law_orders (xCons (wVar 0) xNil))) (wgName 3) t__law_due_i2 (wVar 3) [3]))
  (wSeq (wIf (wTest (wBin bNe (wVar 2) (wLst wNil))) (wRet (wTup (wConsF (wCon (.str "yes")) (wConsF (wBin bSubs (wVar 2) (wCon (.int 0))) wNil)))) wNext)
  (t__law_due_s1 sp__law_pairs)))
theorem ok__law_due {sp : FS} {D__law_due : Df K mg "_law_due" ["many", "comes"] s__law_due} {sp__law_orders : FS} {D__law_orders : Df K mg "_law_orders" ["n"] s__law_orders} (F__law_orders : OkF P w base D__law_orders 1 sp__law_orders) {sp__law_pairs : FS} {D__law_pairs : Df K mg "_law_pairs" ["many"] s__law_pairs} (F__law_pairs : OkF P w base D__law_pairs 1 sp__law_pairs) (m_range : mg "range" = none)
    (hs : ∀ as q, sp as q → as.length = 2 ∧ t__law_due sp__law_orders sp__law_pairs ⟨fun _ => q .non .fz, q, fun _ => False, fun _ => False⟩ (rho0 8 as)) : OkF P w base D__law_due 2 sp := by
  refine fn_ok _ D__law_due.F sc__law_due (fun cdv A outer s H E hr => ?_) hs
  have sc := sc__law_due
  have d : SB (cxOf CX0 P w K mg base ["many", "comes", "good", "order", "k", "bad", "i", "j"] "_law_due" (defScope s__law_due) D__law_due.f cdv A outer s H E).nox (defBody s__law_due) _ _ :=
    (b_cons (s_comp (j := 2) [("order", 3)] sc.nd (io_seq (e_call F__law_orders (hr.mono (by first | exact Nat.le_refl _ | decide | omega)) (x_cons (e_var 0) x_nil))) (blkOk_by (N := ["many", "comes", "good", "order", "k", "bad", "i", "j"]) (sc := defScope s__law_due) (by decide +kernel)) (fun _ _ _ _ _ => (g_name 3 sc.nd)) (tgIn_name (by decide)) (fun _ _ _ _ _ => (ts_one (t_eq hr (e_comp [("k", 4)] sc.nd (io_r1 m_range (o_cons (e_sub (e_var 0) e_int) o_nil)) (blkOk_in (N := ["many", "comes", "good", "order", "k", "bad", "i", "j"]) (sc := defScope s__law_due) rfl (by decide +kernel)) (fun _ _ _ _ _ => (g_name 4 sc.nd)) (tgIn_name (by decide)) (fun _ _ _ _ _ => (ts_one (t_notin hr (e_tup (a_cons (e_subs hr (e_var 3) (e_var 4)) (a_cons (e_subs hr (e_var 3) (e_add (e_var 4) e_int)) a_nil))) (e_var 1)))) (fun _ _ _ _ _ => (e_var 4))) (e_lst a_nil)))) (fun _ _ _ _ _ => (e_var 3)))
    (b_cons (s_if (t_ne hr (e_var 2) (e_lst a_nil)) (b_one (s_ret (e_tup (a_cons e_str (a_cons (e_subs hr (e_var 2) e_int) a_nil))))) b_nil)
    (b_cons (s_comp (j := 5) [("i", 6), ("j", 7)] sc.nd (io_seq (e_call F__law_pairs (hr.mono (by first | exact Nat.le_refl _ | decide | omega)) (x_cons (e_var 0) x_nil))) (blkOk_by (N := ["many", "comes", "good", "order", "k", "bad", "i", "j"]) (sc := defScope s__law_due) (by decide +kernel)) (fun _ _ _ _ _ => (g_tup (n := 2) rfl (g_cons (g_name 6 sc.nd) (g_cons (g_name 7 sc.nd) g_nil)))) (tgIn_tup (tgIn_cons (tgIn_name (by decide)) (tgIn_cons (tgIn_name (by decide)) tgIn_nil))) (fun _ _ _ _ _ => (ts_one (t_pw (t_and (t_notin hr (e_tup (a_cons (e_var 6) (a_cons (e_var 7) a_nil))) (e_var 1)) (t_and1 (t_notin hr (e_tup (a_cons (e_var 7) (a_cons (e_var 6) a_nil))) (e_var 1))))))) (fun _ _ _ _ _ => (e_tup (a_cons (e_var 6) (a_cons (e_var 7) a_nil)))))
    (b_one (s_ret (e_tup (a_cons e_str (a_cons (e_subs hr (e_subs hr (e_var 5) e_int) e_int) (a_cons (e_subs hr (e_subs hr (e_var 5) e_int) e_int) a_nil)))))))))
  exact ⟨_, d.ps, d.snd⟩
def t__law_pairs_c1 : WE :=
  (wTup (wConsF (wVar 2) (wConsF (wVar 3) wNil)))
def t__law_pairs_f1 : WS :=
  (wAsg 1 (wBin bAdd (wVar 1) (wComp (wiR2 (wCons (wBin bAdd (wVar 2) (wCon (.int 1))) (wCons (wVar 0) wNil))) (wgName 3) wYes t__law_pairs_c1 [3])))
def t__law_pairs : WS :=
  (wSeq (wAsg 1 (wLst wNil))
  (wSeq (wFor (wiR1 (wCons (wVar 0) wNil)) (wgName 2) t__law_pairs_f1)
  (wRet (wVar 1))))
theorem ok__law_pairs {sp : FS} {D__law_pairs : Df K mg "_law_pairs" ["many"] s__law_pairs} (m_range : mg "range" = none)
    (hs : ∀ as q, sp as q → as.length = 1 ∧ t__law_pairs ⟨fun _ => q .non .fz, q, fun _ => False, fun _ => False⟩ (rho0 4 as)) : OkF P w base D__law_pairs 1 sp := by
  refine fn_ok _ D__law_pairs.F sc__law_pairs (fun cdv A outer s H E hr => ?_) hs
  have sc := sc__law_pairs
  have d : SB (cxOf CX0 P w K mg base ["many", "found", "i", "j"] "_law_pairs" (defScope s__law_pairs) D__law_pairs.f cdv A outer s H E).nox (defBody s__law_pairs) _ _ :=
    (b_cons (s_asg 1 sc.nd (e_lst a_nil))
    (b_cons (s_for (if_r1 m_range (o_cons (e_var 0) o_nil)) (g_name 2 sc.nd) (b_one (s_asg 1 sc.nd (e_add (e_var 1) (e_comp [("j", 3)] sc.nd (io_r2 m_range (o_cons (e_add (e_var 2) e_int) (o_cons (e_var 0) o_nil))) (blkOk_by (N := ["many", "found", "i", "j"]) (sc := defScope s__law_pairs) (by decide +kernel)) (fun _ _ _ _ _ => (g_name 3 sc.nd)) (tgIn_name (by decide)) (fun _ _ _ _ _ => ts_nil) (fun _ _ _ _ _ => (e_tup (a_cons (e_var 2) (a_cons (e_var 3) a_nil)))))))))
    (b_one (s_ret (e_var 1)))))
  exact ⟨_, d.ps, d.snd⟩
def t__law_chain_c1 (sp__law_next : FS) : WE :=
  (wCall sp__law_next (xW 0 (xCons (wCon (.int 6)) xNil)))
def t__law_chain_f1 (sp__law_next : FS) : WS :=
  (wSeq (wAsg 3 (wSortSet (wBin bAdd (wVar 3) (wComp (wiR1 (wCons (wCall sp__law_next (xW 0 (xCons (wCon (.int 3)) xNil))) wNil)) (wgName 5) wYes (t__law_chain_c1 sp__law_next) [5]))))
  (wMut 2 (wCl cTuple (wCons (wVar 3) wNil)) fAppend))
def t__law_chain (sp__law_next : FS) : WS :=
  (wSeq (wPar [2, 3] (nCons (wLst wNil) (nCons (wLst wNil) nNil)))
  (wSeq (wFor (wiR1 (wCons (wVar 1) wNil)) (wgName 4) (t__law_chain_f1 sp__law_next))
  (wRet (wVar 2))))
theorem ok__law_chain {sp : FS} {D__law_chain : Df K mg "_law_chain" ["w", "many"] s__law_chain} {sp__law_next : FS} {D__law_next : Df K mg "_law_next" ["w", "many"] s__law_next} (F__law_next : OkF P w base D__law_next 1 sp__law_next) (m_range : mg "range" = none) (m_sorted : mg "sorted" = none) (m_set : mg "set" = none) (m_tuple : mg "tuple" = none)
    (hs : ∀ as q, sp as q → as.length = 2 ∧ t__law_chain sp__law_next ⟨fun _ => q .non .fz, q, fun _ => False, fun _ => False⟩ (rho0 6 as)) : OkF P w base D__law_chain 2 sp := by
  refine fn_ok _ D__law_chain.F sc__law_chain (fun cdv A outer s H E hr => ?_) hs
  have sc := sc__law_chain
  have d : SB (cxOf CX0 P w K mg base ["w", "many", "rows", "now", "k", "n"] "_law_chain" (defScope s__law_chain) D__law_chain.f cdv A outer s H E).nox (defBody s__law_chain) _ _ :=
    (b_cons (s_par2 2 3 sc.nd (n_cons (e_lst a_nil) (n_cons (e_lst a_nil) n_nil)))
    (b_cons (s_for (if_r1 m_range (o_cons (e_var 1) o_nil)) (g_name 4 sc.nd) (b_cons (s_asg 3 sc.nd (c_sortset hr m_sorted m_set (e_add (e_var 3) (e_comp [("n", 5)] sc.nd (io_r1 m_range (o_cons (e_call F__law_next (hr.mono (by first | exact Nat.le_refl _ | decide | omega)) (x_w 0 (x_cons e_int x_nil))) o_nil)) (blkOk_by (N := ["w", "many", "rows", "now", "k", "n"]) (sc := defScope s__law_chain) (by decide +kernel)) (fun _ _ _ _ _ => (g_name 5 sc.nd)) (tgIn_name (by decide)) (fun _ _ _ _ _ => ts_nil) (fun _ _ _ _ _ => (e_call F__law_next (hr.mono (by first | exact Nat.le_refl _ | decide | omega)) (x_w 0 (x_cons e_int x_nil))))))))
    (b_one (s_append 2 (c_tuple m_tuple (o_cons (e_var 3) o_nil))))))
    (b_one (s_ret (e_var 2)))))
  exact ⟨_, d.ps, d.snd⟩
def t_law_c1 (sp__law_next : FS) : WE :=
  (wCall sp__law_next (xW 1 (xCons (wCon (.int 4)) xNil)))
def t_law_c2 (sp__law_next : FS) : WE :=
  (wCl cTuple (wCons (wSortSet (wComp (wiR1 (wCons (wCall sp__law_next (xW 1 (xCons (wCon (.int 4)) xNil))) wNil)) (wgName 7) wYes (t_law_c1 sp__law_next) [7])) wNil))
def t_law_c3 : WE :=
  (wTup (wConsF (wVar 12) (wConsF (wVar 13) wNil)))
def t_law_c4 : WE :=
  (wTup (wConsF (wVar 13) (wConsF (wVar 12) wNil)))
def t_law_i1 (sp__law_in : FS) : WT :=
  (wTest (wCall sp__law_in (xCons (wBin bSubs (wVar 6) (wVar 10)) (xCons (wBin bSubs (wVar 6) (wVar 11)) xNil))))
def t_law_c5 : WE :=
  (wTup (wConsF (wVar 10) (wConsF (wVar 11) wNil)))
def t_law_c6 (sp__law_next : FS) : WE :=
  (wIfE (wTest (wBin bGtD (wCall sp__law_next (xW 1 (xCons (wCon (.int 3)) xNil))) (wCon (.int 0)))) (wBin bSubs (wVar 6) (wVar 8)) (wTup wNil))
def t_law_i2 (sp__law_in : FS) : WT :=
  (wTest (wCall sp__law_in (xCons (wBin bSubs (wVar 14) (wVar 10)) (xCons (wBin bSubs (wVar 14) (wVar 11)) xNil))))
def t_law_c7 : WE :=
  (wTup (wConsF (wVar 10) (wConsF (wVar 11) wNil)))
def t_law_c8 : WE :=
  (wTup (wConsF (wBin bSubs (wVar 6) (wVar 8)) (wConsF (wBin bSubs (wVar 14) (wVar 8)) wNil)))
def t_law_c9 (sp__law_next : FS) : WE :=
  (wCall sp__law_next (xW 1 (xCons (wCon (.int 6)) xNil)))
def t_law_i3 (sp__law_in : FS) : WT :=
  (wNot (wTest (wCall sp__law_in (xCons (wVar 16) (xCons (wVar 18) xNil)))))
def t_law_i4 (sp__law_in : FS) : WT :=
  (wNot (wTest (wCall sp__law_in (xCons (wVar 18) (xCons (wVar 16) xNil)))))
def t_law_i5 (sp__law_in : FS) : WT :=
  (wAnd (wTest (wBin bEq (wComp (wiO (wSlice (wVar 4) wPNone (wPSome (wVar 8)))) (wgName 18) (t_law_i4 sp__law_in) (wVar 18) [18]) (wLst wNil))) (wTest (wBin bEq (wComp (wiO (wSlice (wVar 4) (wPSome (wVar 8)) wPNone)) (wgName 18) (t_law_i3 sp__law_in) (wVar 18) [18]) (wLst wNil))))
def t_law_i6 : WT :=
  (wTest (wBin bNotIn (wVar 19) (wBin bSubs (wVar 4) (wVar 10))))
def t_law_i7 : WT :=
  (wTest (wBin bIn (wVar 19) (wBin bSubs (wVar 4) (wVar 8))))
def t_law_f1 : WS :=
  (wDPut 20 (wVar 19) (wBin bSubs (wComp (wiR1 (wCons (wVar 3) wNil)) (wgName 8) t_law_i7 (wVar 8) [8]) (wCon (.int 0))))
def t_law_i8 : WT :=
  (wTest (wBin bEq (wBin bSubs (wVar 20) (wVar 19)) (wVar 8)))
def t_law_c10 : WE :=
  (wCl cLen (wCons (wComp (wiK 20) (wgName 19) t_law_i8 (wVar 19) [19]) wNil))
def t_law_s1 (sp__law_same : FS) (sp_first_gone : FS) (sp_steps_of_wear : FS) : WS :=
  (wIf (wOr (wNot (wTest (wCall sp__law_same (xCons (wCall sp_first_gone (xCons (wCl cTuple (wCons (wVar 4) wNil)) xNil)) (xCons (wVar 20) xNil))))) (wTest (wBin bNe (wCall sp_steps_of_wear (xCons (wCl cTuple (wCons (wVar 4) wNil)) xNil)) (wCl cTuple (wCons (wComp (wiR1 (wCons (wVar 3) wNil)) (wgName 8) wYes t_law_c10 [8]) wNil))))) (wRet (wCon (.bl false))) wNext)
def t_law_s2 (sp__law_same : FS) (sp_first_gone : FS) (sp_steps_of_wear : FS) : WS :=
  (wSeq (wAsg 20 wDk0)
  (wSeq (wFor (wiF (wBin bSubs (wVar 4) (wUn uNeg (wCon (.int 1))))) (wgName 19) t_law_f1)
  (t_law_s1 sp__law_same sp_first_gone sp_steps_of_wear)))
def t_law_s3 (sp__law_next : FS) (sp_wear_between : FS) (sp__law_same : FS) (sp_first_gone : FS) (sp_steps_of_wear : FS) : WS :=
  (wSeq (wAsg 10 (wCall sp__law_next (xW 1 (xCons (wVar 3) xNil))))
  (wSeq (wAsg 11 (wBin bAdd (wVar 10) (wCall sp__law_next (xW 1 (xCons (wBin bSub (wVar 3) (wVar 10)) xNil)))))
  (wSeq (wIf (wTest (wBin bNe (wCall sp_wear_between (xCons (wBin bSubs (wVar 4) (wVar 10)) (xCons (wBin bSubs (wVar 4) (wVar 11)) xNil))) (wTup (wConsF (wBin bSubs (wVar 4) (wVar 10)) (wConsF (wCl cTuple (wCons (wComp (wiO (wBin bSubs (wVar 4) (wVar 11))) (wgName 19) t_law_i6 (wVar 19) [19]) wNil)) wNil))))) (wRet (wCon (.bl false))) wNext)
  (t_law_s2 sp__law_same sp_first_gone sp_steps_of_wear))))
def t_law_s4 (sp__law_in : FS) (sp_where_in : FS) (sp__law_next : FS) (sp_wear_between : FS) (sp__law_same : FS) (sp_first_gone : FS) (sp_steps_of_wear : FS) : WS :=
  (wSeq (wAsg 17 (wComp (wiR1 (wCons (wBin bAdd (wVar 3) (wCon (.int 1))) wNil)) (wgName 8) (t_law_i5 sp__law_in) (wVar 8) [8]))
  (wSeq (wIf (wTest (wBin bNe (wCall sp_where_in (xCons (wCl cTuple (wCons (wVar 4) wNil)) (xCons (wVar 16) xNil))) (wIfE (wTest (wBin bNe (wVar 17) (wLst wNil))) (wTup (wConsF (wBin bSubs (wVar 17) (wCon (.int 0))) (wConsF (wBin bSubs (wVar 17) (wUn uNeg (wCon (.int 1)))) wNil))) (wCon .non)))) (wRet (wCon (.bl false))) wNext)
  (t_law_s3 sp__law_next sp_wear_between sp__law_same sp_first_gone sp_steps_of_wear)))
def t_law_s5 (sp__law_next : FS) (sp__law_in : FS) (sp_where_in : FS) (sp_wear_between : FS) (sp__law_same : FS) (sp_first_gone : FS) (sp_steps_of_wear : FS) : WS :=
  (wSeq (wAsg 16 (wCl cTuple (wCons (wSortSet (wComp (wiR1 (wCons (wCall sp__law_next (xW 1 (xCons (wCon (.int 5)) xNil))) wNil)) (wgName 7) wYes (t_law_c9 sp__law_next) [7])) wNil)))
  (wSeq (wIf (wTest (wBin bEq (wCall sp__law_next (xW 1 (xCons (wCon (.int 2)) xNil))) (wCon (.int 0)))) (wAsg 16 (wBin bSubs (wVar 4) (wCall sp__law_next (xW 1 (xCons (wVar 3) xNil))))) wNext)
  (t_law_s4 sp__law_in sp_where_in sp__law_next sp_wear_between sp__law_same sp_first_gone sp_steps_of_wear)))
def t_law_s6 (sp__law_next : FS) (sp__law_in : FS) (sp_two_sides : FS) (sp__law_due : FS) (sp_where_in : FS) (sp_wear_between : FS) (sp__law_same : FS) (sp_first_gone : FS) (sp_steps_of_wear : FS) : WS :=
  (wSeq (wAsg 14 (wCl cTuple (wCons (wComp (wiR1 (wCons (wVar 3) wNil)) (wgName 8) wYes (t_law_c6 sp__law_next) [8]) wNil)))
  (wSeq (wAsg 15 (wComp (wiO (wVar 9)) (wgTup 2 (wgCons (wgName 10) (wgCons (wgName 11) wgNil))) (t_law_i2 sp__law_in) t_law_c7 [10, 11]))
  (wSeq (wIf (wTest (wBin bNe (wCall sp_two_sides (xCons (wCl cTuple (wCons (wComp (wiR1 (wCons (wVar 3) wNil)) (wgName 8) wYes t_law_c8 [8]) wNil)) xNil)) (wCall sp__law_due (xCons (wVar 3) (xCons (wVar 15) xNil))))) (wRet (wCon (.bl false))) wNext)
  (t_law_s5 sp__law_next sp__law_in sp_where_in sp_wear_between sp__law_same sp_first_gone sp_steps_of_wear))))
def t_law_f2 (sp__law_next : FS) (sp__law_chain : FS) (sp__law_pairs : FS) (sp__law_in : FS) (sp_order_of_wear : FS) (sp__law_due : FS) (sp_two_sides : FS) (sp_where_in : FS) (sp_wear_between : FS) (sp__law_same : FS) (sp_first_gone : FS) (sp_steps_of_wear : FS) : WS :=
  (wSeq (wAsg 3 (wBin bAdd (wCon (.int 1)) (wCall sp__law_next (xW 1 (xCons (wCon (.int 5)) xNil)))))
  (wSeq (wAsg 4 (wCall sp__law_chain (xW 1 (xCons (wVar 3) xNil))))
  (wSeq (wAsg 5 (wBin bAdd (wStep (some 1) 2 (wVar 4)) (wStep none 2 (wVar 4))))
  (wSeq (wAsg 6 (wCl cTuple (wCons (wIfE (wTest (wBin bEq (wCall sp__law_next (xW 1 (xCons (wCon (.int 2)) xNil))) (wCon (.int 0)))) (wVar 5) (wComp (wiR1 (wCons (wVar 3) wNil)) (wgName 8) wYes (t_law_c2 sp__law_next) [8])) wNil)))
  (wSeq (wAsg 9 (wComp (wiO (wBin bAdd (wComp (wiO (wCall sp__law_pairs (xCons (wVar 3) xNil))) (wgTup 2 (wgCons (wgName 12) (wgCons (wgName 13) wgNil))) wYes t_law_c3 [12, 13]) (wComp (wiO (wCall sp__law_pairs (xCons (wVar 3) xNil))) (wgTup 2 (wgCons (wgName 12) (wgCons (wgName 13) wgNil))) wYes t_law_c4 [12, 13]))) (wgTup 2 (wgCons (wgName 10) (wgCons (wgName 11) wgNil))) (t_law_i1 sp__law_in) t_law_c5 [10, 11]))
  (wSeq (wIf (wTest (wBin bNe (wCall sp_order_of_wear (xCons (wVar 6) xNil)) (wCall sp__law_due (xCons (wVar 3) (xCons (wVar 9) xNil))))) (wRet (wCon (.bl false))) wNext)
  (t_law_s6 sp__law_next sp__law_in sp_two_sides sp__law_due sp_where_in sp_wear_between sp__law_same sp_first_gone sp_steps_of_wear)))))))
def t_law (sp__law_next : FS) (sp__law_chain : FS) (sp__law_pairs : FS) (sp__law_in : FS) (sp_order_of_wear : FS) (sp__law_due : FS) (sp_two_sides : FS) (sp_where_in : FS) (sp_wear_between : FS) (sp_steps_of_wear : FS) (sp__law_same : FS) (sp_first_gone : FS) : WS :=
  (wSeq (wFor (wiR1 (wCons (wCon (.int 4)) wNil)) (wgName 2) (t_law_f2 sp__law_next sp__law_chain sp__law_pairs sp__law_in sp_order_of_wear sp__law_due sp_two_sides sp_where_in sp_wear_between sp__law_same sp_first_gone sp_steps_of_wear))
  (wRet (wCon (.bl true))))
theorem ok_law {f : Addr} {fd : FuncData} (F : Fun K "law" "law" s_law f fd) {D__law_draws : Df K mg "_law_draws" ["script", "many"] s__law_draws} (F__law_draws : OkF P w base D__law_draws 1 spDraws) {sp__law_next : FS} {D__law_next : Df K mg "_law_next" ["w", "many"] s__law_next} (F__law_next : OkF P w base D__law_next 1 sp__law_next) {sp__law_chain : FS} {D__law_chain : Df K mg "_law_chain" ["w", "many"] s__law_chain} (F__law_chain : OkF P w base D__law_chain 2 sp__law_chain) {sp__law_pairs : FS} {D__law_pairs : Df K mg "_law_pairs" ["many"] s__law_pairs} (F__law_pairs : OkF P w base D__law_pairs 1 sp__law_pairs) {sp__law_in : FS} {D__law_in : Df K mg "_law_in" ["one", "other"] s__law_in} (F__law_in : OkF P w base D__law_in 1 sp__law_in) {sp_order_of_wear : FS} {D_order_of_wear : Df K mg "order_of_wear" ["wears"] s_order_of_wear} (F_order_of_wear : OkF P w base D_order_of_wear 3 sp_order_of_wear) {sp__law_due : FS} {D__law_due : Df K mg "_law_due" ["many", "comes"] s__law_due} (F__law_due : OkF P w base D__law_due 2 sp__law_due) {sp_two_sides : FS} {D_two_sides : Df K mg "two_sides" ["pairs"] s_two_sides} (F_two_sides : OkF P w base D_two_sides 3 sp_two_sides) {sp_where_in : FS} {D_where_in : Df K mg "where_in" ["wears", "seen"] s_where_in} (F_where_in : OkF P w base D_where_in 2 sp_where_in) {sp_wear_between : FS} {D_wear_between : Df K mg "wear_between" ["one", "other"] s_wear_between} (F_wear_between : OkF P w base D_wear_between 1 sp_wear_between) {sp_steps_of_wear : FS} {D_steps_of_wear : Df K mg "steps_of_wear" ["wears"] s_steps_of_wear} (F_steps_of_wear : OkF P w base D_steps_of_wear 1 sp_steps_of_wear) {sp__law_same : FS} {D__law_same : Df K mg "_law_same" ["seen", "due"] s__law_same} (F__law_same : OkF P w base D__law_same 1 sp__law_same) {sp_first_gone : FS} {D_first_gone : Df K mg "first_gone" ["wears"] s_first_gone} (F_first_gone : OkF P w base D_first_gone 1 sp_first_gone) (m_range : mg "range" = none) (m_tuple : mg "tuple" = none) (m_sorted : mg "sorted" = none) (m_set : mg "set" = none) (m_len : mg "len" = none)
    (hs : ∀ ns : List Int, ns.length ≤ 63 → t_law sp__law_next sp__law_chain sp__law_pairs sp__law_in sp_order_of_wear sp__law_due sp_two_sides sp_where_in sp_wear_between sp_steps_of_wear sp__law_same sp_first_gone ⟨fun _ => False, fun d _ => d = .bl true, fun _ => False, fun _ => False⟩ (.fz (.fl (ns.map .int)) :: .w :: List.replicate 19 .un)) : FnOk P w K mg base CX0 4 f fd ["script"] (spLaw K) := by
  refine law_ok (m := 120) (n := 19) (by decide) (by decide) rfl F sc_law (fun cdv A outer s H E hr => ?_) hs
  have sc := sc_law
  have d1 : SS (cxOf CX0 P w K mg base ["script", "w", "turn", "many", "rows", "mixed", "wears", "n", "k", "comes", "i", "j", "a", "b", "backs", "both", "seen", "able", "own", "place", "first"] "law" (defScope s_law) f cdv A outer s H E).nox ((defBody s_law).getD 0 (.Pass ⟨0, 0, 0, 0⟩)) _ (wHead 120) :=
    (s_asg 1 sc.nd (e_disp (p_cons e_str (e_call F__law_draws (hr.mono (by decide)) (x_cons (e_var 0) (x_cons e_int x_nil))) (p_cons e_str e_int p_nil))))
  have d2 : SB (cxOf CX0 P w K mg base ["script", "w", "turn", "many", "rows", "mixed", "wears", "n", "k", "comes", "i", "j", "a", "b", "backs", "both", "seen", "able", "own", "place", "first"] "law" (defScope s_law) f cdv A outer s H E).nox (defBody s_law).tail _ (t_law sp__law_next sp__law_chain sp__law_pairs sp__law_in sp_order_of_wear sp__law_due sp_two_sides sp_where_in sp_wear_between sp_steps_of_wear sp__law_same sp_first_gone) :=
    (b_cons (s_for (if_r1 m_range (o_cons e_int o_nil)) (g_name 2 sc.nd) (b_cons (s_asg 3 sc.nd (e_add e_int (e_call F__law_next (hr.mono (by decide)) (x_w 1 (x_cons e_int x_nil)))))
    (b_cons (s_asg 4 sc.nd (e_call F__law_chain (hr.mono (by decide)) (x_w 1 (x_cons (e_var 3) x_nil))))
    (b_cons (s_asg 5 sc.nd (e_add (e_stepA 1 2 (e_var 4)) (e_step0 2 (e_var 4))))
    (b_cons (s_asg 6 sc.nd (c_tuple m_tuple (o_cons (e_ifE (t_eq hr (e_call F__law_next (hr.mono (by decide)) (x_w 1 (x_cons e_int x_nil))) e_int) (e_var 5) (e_comp [("k", 8)] sc.nd (io_r1 m_range (o_cons (e_var 3) o_nil)) (blkOk_by (N := ["script", "w", "turn", "many", "rows", "mixed", "wears", "n", "k", "comes", "i", "j", "a", "b", "backs", "both", "seen", "able", "own", "place", "first"]) (sc := defScope s_law) (by decide +kernel)) (fun _ _ _ _ _ => (g_name 8 sc.nd)) (tgIn_name (by decide)) (fun _ _ _ _ _ => ts_nil) (fun _ _ _ _ _ => (c_tuple m_tuple (o_cons (c_sortset hr m_sorted m_set (e_comp [("n", 7)] sc.nd (io_r1 m_range (o_cons (e_call F__law_next (hr.mono (by decide)) (x_w 1 (x_cons e_int x_nil))) o_nil)) (blkOk_in (N := ["script", "w", "turn", "many", "rows", "mixed", "wears", "n", "k", "comes", "i", "j", "a", "b", "backs", "both", "seen", "able", "own", "place", "first"]) (sc := defScope s_law) rfl (by decide +kernel)) (fun _ _ _ _ _ => (g_name 7 sc.nd)) (tgIn_name (by decide)) (fun _ _ _ _ _ => ts_nil) (fun _ _ _ _ _ => (e_call F__law_next (hr.mono (by decide)) (x_w 1 (x_cons e_int x_nil)))))) o_nil))))) o_nil)))
    (b_cons (s_comp (j := 9) [("i", 10), ("j", 11)] sc.nd (io_seq (e_add (e_comp [("a", 12), ("b", 13)] sc.nd (io_seq (e_call F__law_pairs (hr.mono (by decide)) (x_cons (e_var 3) x_nil))) (blkOk_by (N := ["script", "w", "turn", "many", "rows", "mixed", "wears", "n", "k", "comes", "i", "j", "a", "b", "backs", "both", "seen", "able", "own", "place", "first"]) (sc := defScope s_law) (by decide +kernel)) (fun _ _ _ _ _ => (g_tup (n := 2) rfl (g_cons (g_name 12 sc.nd) (g_cons (g_name 13 sc.nd) g_nil)))) (tgIn_tup (tgIn_cons (tgIn_name (by decide)) (tgIn_cons (tgIn_name (by decide)) tgIn_nil))) (fun _ _ _ _ _ => ts_nil) (fun _ _ _ _ _ => (e_tup (a_cons (e_var 12) (a_cons (e_var 13) a_nil))))) (e_comp [("a", 12), ("b", 13)] sc.nd (io_seq (e_call F__law_pairs (hr.mono (by decide)) (x_cons (e_var 3) x_nil))) (blkOk_by (N := ["script", "w", "turn", "many", "rows", "mixed", "wears", "n", "k", "comes", "i", "j", "a", "b", "backs", "both", "seen", "able", "own", "place", "first"]) (sc := defScope s_law) (by decide +kernel)) (fun _ _ _ _ _ => (g_tup (n := 2) rfl (g_cons (g_name 12 sc.nd) (g_cons (g_name 13 sc.nd) g_nil)))) (tgIn_tup (tgIn_cons (tgIn_name (by decide)) (tgIn_cons (tgIn_name (by decide)) tgIn_nil))) (fun _ _ _ _ _ => ts_nil) (fun _ _ _ _ _ => (e_tup (a_cons (e_var 13) (a_cons (e_var 12) a_nil))))))) (blkOk_by (N := ["script", "w", "turn", "many", "rows", "mixed", "wears", "n", "k", "comes", "i", "j", "a", "b", "backs", "both", "seen", "able", "own", "place", "first"]) (sc := defScope s_law) (by decide +kernel)) (fun _ _ _ _ _ => (g_tup (n := 2) rfl (g_cons (g_name 10 sc.nd) (g_cons (g_name 11 sc.nd) g_nil)))) (tgIn_tup (tgIn_cons (tgIn_name (by decide)) (tgIn_cons (tgIn_name (by decide)) tgIn_nil))) (fun _ _ _ _ _ => (ts_one (t_val (e_call F__law_in (hr.mono (by decide)) (x_cons (e_subs hr (e_var 6) (e_var 10)) (x_cons (e_subs hr (e_var 6) (e_var 11)) x_nil)))))) (fun _ _ _ _ _ => (e_tup (a_cons (e_var 10) (a_cons (e_var 11) a_nil)))))
    (b_cons (s_if (t_ne hr (e_call F_order_of_wear (hr.mono (by decide)) (x_cons (e_var 6) x_nil)) (e_call F__law_due (hr.mono (by decide)) (x_cons (e_var 3) (x_cons (e_var 9) x_nil)))) (b_one (s_ret e_bl)) b_nil)
    (b_cons (s_asg 14 sc.nd (c_tuple m_tuple (o_cons (e_comp [("k", 8)] sc.nd (io_r1 m_range (o_cons (e_var 3) o_nil)) (blkOk_by (N := ["script", "w", "turn", "many", "rows", "mixed", "wears", "n", "k", "comes", "i", "j", "a", "b", "backs", "both", "seen", "able", "own", "place", "first"]) (sc := defScope s_law) (by decide +kernel)) (fun _ _ _ _ _ => (g_name 8 sc.nd)) (tgIn_name (by decide)) (fun _ _ _ _ _ => ts_nil) (fun _ _ _ _ _ => (e_ifE (t_gt hr (e_call F__law_next (hr.mono (by decide)) (x_w 1 (x_cons e_int x_nil))) e_int) (e_subs hr (e_var 6) (e_var 8)) (e_tup a_nil)))) o_nil)))
    (b_cons (s_comp (j := 15) [("i", 10), ("j", 11)] sc.nd (io_seq (e_var 9)) (blkOk_by (N := ["script", "w", "turn", "many", "rows", "mixed", "wears", "n", "k", "comes", "i", "j", "a", "b", "backs", "both", "seen", "able", "own", "place", "first"]) (sc := defScope s_law) (by decide +kernel)) (fun _ _ _ _ _ => (g_tup (n := 2) rfl (g_cons (g_name 10 sc.nd) (g_cons (g_name 11 sc.nd) g_nil)))) (tgIn_tup (tgIn_cons (tgIn_name (by decide)) (tgIn_cons (tgIn_name (by decide)) tgIn_nil))) (fun _ _ _ _ _ => (ts_one (t_val (e_call F__law_in (hr.mono (by decide)) (x_cons (e_subs hr (e_var 14) (e_var 10)) (x_cons (e_subs hr (e_var 14) (e_var 11)) x_nil)))))) (fun _ _ _ _ _ => (e_tup (a_cons (e_var 10) (a_cons (e_var 11) a_nil)))))
    (b_cons (s_if (t_ne hr (e_call F_two_sides (hr.mono (by decide)) (x_cons (c_tuple m_tuple (o_cons (e_comp [("k", 8)] sc.nd (io_r1 m_range (o_cons (e_var 3) o_nil)) (blkOk_by (N := ["script", "w", "turn", "many", "rows", "mixed", "wears", "n", "k", "comes", "i", "j", "a", "b", "backs", "both", "seen", "able", "own", "place", "first"]) (sc := defScope s_law) (by decide +kernel)) (fun _ _ _ _ _ => (g_name 8 sc.nd)) (tgIn_name (by decide)) (fun _ _ _ _ _ => ts_nil) (fun _ _ _ _ _ => (e_tup (a_cons (e_subs hr (e_var 6) (e_var 8)) (a_cons (e_subs hr (e_var 14) (e_var 8)) a_nil))))) o_nil)) x_nil)) (e_call F__law_due (hr.mono (by decide)) (x_cons (e_var 3) (x_cons (e_var 15) x_nil)))) (b_one (s_ret e_bl)) b_nil)
    (b_cons (s_asg 16 sc.nd (c_tuple m_tuple (o_cons (c_sortset hr m_sorted m_set (e_comp [("n", 7)] sc.nd (io_r1 m_range (o_cons (e_call F__law_next (hr.mono (by decide)) (x_w 1 (x_cons e_int x_nil))) o_nil)) (blkOk_by (N := ["script", "w", "turn", "many", "rows", "mixed", "wears", "n", "k", "comes", "i", "j", "a", "b", "backs", "both", "seen", "able", "own", "place", "first"]) (sc := defScope s_law) (by decide +kernel)) (fun _ _ _ _ _ => (g_name 7 sc.nd)) (tgIn_name (by decide)) (fun _ _ _ _ _ => ts_nil) (fun _ _ _ _ _ => (e_call F__law_next (hr.mono (by decide)) (x_w 1 (x_cons e_int x_nil)))))) o_nil)))
    (b_cons (s_if (t_eq hr (e_call F__law_next (hr.mono (by decide)) (x_w 1 (x_cons e_int x_nil))) e_int) (b_one (s_asg 16 sc.nd (e_subs hr (e_var 4) (e_call F__law_next (hr.mono (by decide)) (x_w 1 (x_cons (e_var 3) x_nil)))))) b_nil)
    (b_cons (s_comp (j := 17) [("k", 8)] sc.nd (io_r1 m_range (o_cons (e_add (e_var 3) e_int) o_nil)) (blkOk_by (N := ["script", "w", "turn", "many", "rows", "mixed", "wears", "n", "k", "comes", "i", "j", "a", "b", "backs", "both", "seen", "able", "own", "place", "first"]) (sc := defScope s_law) (by decide +kernel)) (fun _ _ _ _ _ => (g_name 8 sc.nd)) (tgIn_name (by decide)) (fun _ _ _ _ _ => (ts_one (t_pw (t_and (t_eq hr (e_comp [("own", 18)] sc.nd (io_seq (e_slice (e_var 4) q_none (q_some (e_var 8)))) (blkOk_in (N := ["script", "w", "turn", "many", "rows", "mixed", "wears", "n", "k", "comes", "i", "j", "a", "b", "backs", "both", "seen", "able", "own", "place", "first"]) (sc := defScope s_law) rfl (by decide +kernel)) (fun _ _ _ _ _ => (g_name 18 sc.nd)) (tgIn_name (by decide)) (fun _ _ _ _ _ => (ts_one (t_not (t_val (e_call F__law_in (hr.mono (by decide)) (x_cons (e_var 18) (x_cons (e_var 16) x_nil))))))) (fun _ _ _ _ _ => (e_var 18))) (e_lst a_nil)) (t_and1 (t_eq hr (e_comp [("own", 18)] sc.nd (io_seq (e_slice (e_var 4) (q_some (e_var 8)) q_none)) (blkOk_in (N := ["script", "w", "turn", "many", "rows", "mixed", "wears", "n", "k", "comes", "i", "j", "a", "b", "backs", "both", "seen", "able", "own", "place", "first"]) (sc := defScope s_law) rfl (by decide +kernel)) (fun _ _ _ _ _ => (g_name 18 sc.nd)) (tgIn_name (by decide)) (fun _ _ _ _ _ => (ts_one (t_not (t_val (e_call F__law_in (hr.mono (by decide)) (x_cons (e_var 16) (x_cons (e_var 18) x_nil))))))) (fun _ _ _ _ _ => (e_var 18))) (e_lst a_nil))))))) (fun _ _ _ _ _ => (e_var 8)))
    (b_cons (s_if (t_ne hr (e_call F_where_in (hr.mono (by decide)) (x_cons (c_tuple m_tuple (o_cons (e_var 4) o_nil)) (x_cons (e_var 16) x_nil))) (e_ifE (t_ne hr (e_var 17) (e_lst a_nil)) (e_tup (a_cons (e_subs hr (e_var 17) e_int) (a_cons (e_subs hr (e_var 17) (e_neg e_int)) a_nil))) e_non)) (b_one (s_ret e_bl)) b_nil)
    (b_cons (s_asg 10 sc.nd (e_call F__law_next (hr.mono (by decide)) (x_w 1 (x_cons (e_var 3) x_nil))))
    (b_cons (s_asg 11 sc.nd (e_add (e_var 10) (e_call F__law_next (hr.mono (by decide)) (x_w 1 (x_cons (e_sub (e_var 3) (e_var 10)) x_nil)))))
    (b_cons (s_if (t_ne hr (e_call F_wear_between (hr.mono (by decide)) (x_cons (e_subs hr (e_var 4) (e_var 10)) (x_cons (e_subs hr (e_var 4) (e_var 11)) x_nil))) (e_tup (a_cons (e_subs hr (e_var 4) (e_var 10)) (a_cons (c_tuple m_tuple (o_cons (e_comp [("place", 19)] sc.nd (io_seq (e_subs hr (e_var 4) (e_var 11))) (blkOk_by (N := ["script", "w", "turn", "many", "rows", "mixed", "wears", "n", "k", "comes", "i", "j", "a", "b", "backs", "both", "seen", "able", "own", "place", "first"]) (sc := defScope s_law) (by decide +kernel)) (fun _ _ _ _ _ => (g_name 19 sc.nd)) (tgIn_name (by decide)) (fun _ _ _ _ _ => (ts_one (t_notin hr (e_var 19) (e_subs hr (e_var 4) (e_var 10))))) (fun _ _ _ _ _ => (e_var 19))) o_nil)) a_nil)))) (b_one (s_ret e_bl)) b_nil)
    (b_cons (s_asg 20 sc.nd e_dk0)
    (b_cons (s_for (if_seq (e_subs hr (e_var 4) (e_neg e_int))) (g_name 19 sc.nd) (b_one (s_dput 20 hr (e_var 19) (e_subs hr (e_comp [("k", 8)] sc.nd (io_r1 m_range (o_cons (e_var 3) o_nil)) (blkOk_by (N := ["script", "w", "turn", "many", "rows", "mixed", "wears", "n", "k", "comes", "i", "j", "a", "b", "backs", "both", "seen", "able", "own", "place", "first"]) (sc := defScope s_law) (by decide +kernel)) (fun _ _ _ _ _ => (g_name 8 sc.nd)) (tgIn_name (by decide)) (fun _ _ _ _ _ => (ts_one (t_in hr (e_var 19) (e_subs hr (e_var 4) (e_var 8))))) (fun _ _ _ _ _ => (e_var 8))) e_int))))
    (b_one (s_if (t_pw (t_or (t_not (t_val (e_call F__law_same (hr.mono (by decide)) (x_cons (e_call F_first_gone (hr.mono (by decide)) (x_cons (c_tuple m_tuple (o_cons (e_var 4) o_nil)) x_nil)) (x_cons (e_var 20) x_nil))))) (t_or1 (t_ne hr (e_call F_steps_of_wear (hr.mono (by decide)) (x_cons (c_tuple m_tuple (o_cons (e_var 4) o_nil)) x_nil)) (c_tuple m_tuple (o_cons (e_comp [("k", 8)] sc.nd (io_r1 m_range (o_cons (e_var 3) o_nil)) (blkOk_by (N := ["script", "w", "turn", "many", "rows", "mixed", "wears", "n", "k", "comes", "i", "j", "a", "b", "backs", "both", "seen", "able", "own", "place", "first"]) (sc := defScope s_law) (by decide +kernel)) (fun _ _ _ _ _ => (g_name 8 sc.nd)) (tgIn_name (by decide)) (fun _ _ _ _ _ => ts_nil) (fun _ _ _ _ _ => (c_len m_len (o_cons (e_compK 20 [("place", 19)] sc.nd (e_var 20) (blkOk_in (N := ["script", "w", "turn", "many", "rows", "mixed", "wears", "n", "k", "comes", "i", "j", "a", "b", "backs", "both", "seen", "able", "own", "place", "first"]) (sc := defScope s_law) rfl (by decide +kernel)) (fun _ _ _ _ _ => (g_name 19 sc.nd)) (tgIn_name (by decide)) (fun _ _ _ _ _ => (ts_one (t_eq hr (e_subs hr (e_var 20) (e_var 19)) (e_var 8)))) (fun _ _ _ _ _ => (e_var 19))) o_nil)))) o_nil)))))) (b_one (s_ret e_bl)) b_nil)))))))))))))))))))))
    (b_one (s_ret e_bl)))
  exact ⟨_, _, pss_cons d1.ps d2.ps, d1.snd, d2.snd⟩
end
end K15

namespace K15
open PySem PySem.Spec PyProof.Rows L2 VL
/-! ### orders: the greedy one is the first of all -/
abbrev Rl := Nat → Nat → Bool
structure Pre (R : Rl) : Prop where
  rf : ∀ i, R i i = true
  tr : ∀ i j k, R i j = true → R j k = true → R i k = true
def able (R : Rl) (left : List Nat) : List Nat := left.filter fun k => left.all fun o => R k o
def greedy (R : Rl) : Nat → List Nat → Option (List Nat)
  | 0, _ => some []
  | m + 1, left => match able R left with
    | [] => none
    | k :: _ => (greedy R m (left.filter fun x => decide (x ≠ k))).map (k :: ·)
def leftOf (n : Nat) (row : List Nat) : List Nat := (List.range n).filter fun k => decide (k ∉ row)
def extR (n : Nat) (row : List Nat) : List (List Nat) := (leftOf n row).map fun k => row ++ [k]
def layer (n : Nat) : Nat → List (List Nat)
  | 0 => [[]]
  | t + 1 => (layer n t).flatMap (extR n)
def below (n : Nat) : Nat → List Nat → List (List Nat)
  | 0, row => [row]
  | m + 1, row => (extR n row).flatMap (below n m)
theorem layer_below (n : Nat) : ∀ (m t : Nat), (layer n t).flatMap (below n m) = layer n (t + m)
  | 0, t => by
    have : ∀ l : List (List Nat), l.flatMap (below n 0) = l := fun l => by
      induction l with
      | nil => rfl
      | cons a r ih => rw [List.flatMap_cons, ih]; rfl
    rw [this]; rfl
  | m + 1, t => by
    have e : (layer n t).flatMap (below n (m + 1)) = ((layer n t).flatMap (extR n)).flatMap (below n m) := by
      rw [List.flatMap_assoc]; rfl
    rw [e]
    have := layer_below n m (t + 1)
    rw [show t + 1 + m = t + (m + 1) by omega] at this
    exact this
theorem layer_top (n : Nat) : layer n n = below n n [] := by
  have := layer_below n n 0
  rw [Nat.zero_add] at this
  rw [← this]
  show [[]].flatMap (below n n) = _
  rw [List.flatMap_cons, List.flatMap_nil, List.append_nil]
theorem len_sub {α : Type} [DecidableEq α] : ∀ {l m : List α}, l.Nodup → (∀ x ∈ l, x ∈ m) → l.length ≤ m.length
  | [], m, _, _ => by simp
  | a :: l, m, h, hs => by
    obtain ⟨h1, h2⟩ := List.nodup_cons.mp h
    have hm := hs a (List.mem_cons_self ..)
    have := len_sub (m := m.erase a) h2 fun x hx => (List.mem_erase_of_ne (fun z : x = a => h1 (by rw [← z]; exact hx))).mpr (hs x (List.mem_cons_of_mem _ hx))
    rw [List.length_erase_of_mem hm] at this
    have := List.length_pos_of_mem hm
    simp only [List.length_cons]
    omega
theorem left_mem {n : Nat} {row : List Nat} {x : Nat} : x ∈ leftOf n row ↔ x < n ∧ x ∉ row := by
  unfold leftOf
  rw [List.mem_filter, List.mem_range, decide_eq_true_iff]
theorem left_nodup (n : Nat) (row : List Nat) : (leftOf n row).Nodup := (List.nodup_range).filter _
theorem left_snoc (n : Nat) (row : List Nat) (k : Nat) : leftOf n (row ++ [k]) = (leftOf n row).filter fun x => decide (x ≠ k) := by
  unfold leftOf
  rw [List.filter_filter]
  refine List.filter_congr fun x _ => ?_
  rw [Bool.eq_iff_iff, Bool.and_eq_true, decide_eq_true_iff, decide_eq_true_iff, decide_eq_true_iff, List.mem_append, List.mem_singleton]
  constructor
  · intro h; exact ⟨fun z => h (.inr z), fun z => h (.inl z)⟩
  · rintro ⟨h1, h2⟩ (z | z)
    · exact h2 z
    · exact h1 z
theorem drop_len {l : List Nat} (h : l.Nodup) {k : Nat} (hk : k ∈ l) : (l.filter fun x => decide (x ≠ k)).length + 1 = l.length := by
  induction l with
  | nil => cases hk
  | cons a r ih =>
    obtain ⟨h1, h2⟩ := List.nodup_cons.mp h
    by_cases e : a = k
    · subst e
      have e : (r.filter fun x => decide (x ≠ a)) = r := List.filter_eq_self.mpr (fun x hx => decide_eq_true (fun z : x = a => h1 (by rw [← z]; exact hx)))
      rw [List.filter_cons_of_neg (by simp), e]
      rfl
    · rw [List.filter_cons_of_pos (by simpa using e), List.length_cons, List.length_cons, ih h2 ((List.mem_cons.mp hk).resolve_left (Ne.symm e))]
/-- what lies below a row -/
theorem below_mem (n : Nat) : ∀ (m : Nat) (row o : List Nat), o ∈ below n m row → ∃ s, o = row ++ s ∧ s.length = m ∧ s.Nodup ∧ ∀ x ∈ s, x ∈ leftOf n row
  | 0, row, o, h => ⟨[], by rw [List.mem_singleton.mp h, List.append_nil], rfl, List.nodup_nil, by simp⟩
  | m + 1, row, o, h => by
    obtain ⟨r2, h1, h2⟩ := List.mem_flatMap.mp h
    obtain ⟨k, hk, rfl⟩ := List.mem_map.mp h1
    obtain ⟨s, rfl, hl, hn, hs⟩ := below_mem n m _ o h2
    refine ⟨k :: s, by rw [List.append_assoc]; rfl, by rw [List.length_cons, hl], List.nodup_cons.mpr ⟨fun z => ?_, hn⟩, fun x hx => ?_⟩
    · have := hs k z
      rw [left_mem] at this
      exact this.2 (by simp)
    · rcases List.mem_cons.mp hx with rfl | hx
      · exact hk
      · have := hs x hx
        rw [left_mem] at this ⊢
        exact ⟨this.1, fun z => this.2 (List.mem_append.mpr (.inl z))⟩
theorem below_all {n m : Nat} {row s : List Nat} (hm : (leftOf n row).length = m) (hl : s.length = m) (hn : s.Nodup) (hs : ∀ x ∈ s, x ∈ leftOf n row) : ∀ x ∈ leftOf n row, x ∈ s := fun x hx => by
  by_cases h : x ∈ s
  · exact h
  · have := len_sub (l := x :: s) (m := leftOf n row) (List.nodup_cons.mpr ⟨h, hn⟩) fun y hy => by
      rcases List.mem_cons.mp hy with rfl | hy
      · exact hx
      · exact hs y hy
    rw [List.length_cons] at this
    omega
def Tot (R : Rl) (l : List Nat) : Prop := ∀ x ∈ l, ∀ y ∈ l, R x y = true ∨ R y x = true
def PW (R : Rl) (o : List Nat) : Prop := o.Pairwise fun a b => R a b = true
theorem pw_tot {R : Rl} (hR : Pre R) : ∀ {s : List Nat}, PW R s → Tot R s
  | [], _ => fun x hx => by cases hx
  | a :: s, h => by
    obtain ⟨h1, h2⟩ := List.pairwise_cons.mp h
    have ih := pw_tot hR h2
    intro x hx y hy
    rcases List.mem_cons.mp hx with ex | hx2
    · rcases List.mem_cons.mp hy with ey | hy2
      · rw [ex, ey]; exact .inl (hR.rf _)
      · rw [ex]; exact .inl (h1 y hy2)
    · rcases List.mem_cons.mp hy with ey | hy2
      · rw [ey]; exact .inr (h1 x hx2)
      · exact ih x hx2 y hy2
theorem below_tot {R : Rl} (hR : Pre R) {n m : Nat} {row o : List Nat} (hm : (leftOf n row).length = m) (ho : o ∈ below n m row) (hp : PW R o) : Tot R (leftOf n row) := by
  obtain ⟨s, rfl, hl, hn, hs⟩ := below_mem n m row o ho
  have hp2 := (List.pairwise_append.mp hp).2.1
  have ht := pw_tot hR hp2
  have ha := below_all hm hl hn hs
  exact fun x hx y hy => ht x (ha x hx) y (ha y hy)
theorem min_ex {R : Rl} (hR : Pre R) : ∀ {l : List Nat}, l ≠ [] → Tot R l → ∃ k ∈ l, ∀ y ∈ l, R k y = true
  | [], h, _ => absurd rfl h
  | a :: r, _, ht => by
    cases r with
    | nil => exact ⟨a, by simp, fun y hy => by rw [List.mem_singleton.mp hy]; exact hR.rf a⟩
    | cons b r =>
      obtain ⟨k, hk, hmin⟩ := min_ex hR (l := b :: r) (by simp) fun x hx y hy => ht x (List.mem_cons_of_mem _ hx) y (List.mem_cons_of_mem _ hy)
      rcases ht a (List.mem_cons_self ..) k (List.mem_cons_of_mem _ hk) with h | h
      · refine ⟨a, List.mem_cons_self .., fun y hy => ?_⟩
        rcases List.mem_cons.mp hy with rfl | hy
        · exact hR.rf _
        · exact hR.tr _ _ _ h (hmin y hy)
      · refine ⟨k, List.mem_cons_of_mem _ hk, fun y hy => ?_⟩
        rcases List.mem_cons.mp hy with rfl | hy
        · exact h
        · exact hmin y hy
theorem able_mem {R : Rl} {l : List Nat} {k : Nat} : k ∈ able R l ↔ k ∈ l ∧ ∀ y ∈ l, R k y = true := by
  unfold able
  rw [List.mem_filter, List.all_eq_true]
theorem flat_none {α β : Type} {f : α → List β} : ∀ {l : List α}, (∀ a ∈ l, f a = []) → l.flatMap f = []
  | [], _ => rfl
  | a :: r, h => by rw [List.flatMap_cons, h a (List.mem_cons_self ..), flat_none fun b hb => h b (List.mem_cons_of_mem _ hb)]; rfl
theorem greedy_tot {R : Rl} (hR : Pre R) : ∀ (m : Nat) (l g : List Nat), l.length = m → l.Nodup → greedy R m l = some g → Tot R l
  | 0, l, g, hl, _, _ => by
    rw [List.length_eq_zero_iff.mp hl]
    exact fun x hx => by cases hx
  | m + 1, l, g, hl, hn, h => by
    unfold greedy at h
    cases ha : able R l with
    | nil => rw [ha] at h; cases h
    | cons k r =>
      rw [ha] at h
      have hk : k ∈ able R l := by rw [ha]; exact List.mem_cons_self ..
      obtain ⟨hk1, hk2⟩ := able_mem.mp hk
      have h : (greedy R m (l.filter fun x => decide (x ≠ k))).map (k :: ·) = some g := h
      cases hg : greedy R m (l.filter fun x => decide (x ≠ k)) with
      | none => rw [hg] at h; cases h
      | some g' =>
        have ih := greedy_tot hR m _ g' (by have := drop_len hn hk1; omega) (hn.filter _) hg
        intro x hx y hy
        by_cases ex : x = k
        · rw [ex]; exact .inl (hk2 y hy)
        · by_cases ey : y = k
          · rw [ey]; exact .inr (hk2 x hx)
          · exact ih x (List.mem_filter.mpr ⟨hx, decide_eq_true ex⟩) y (List.mem_filter.mpr ⟨hy, decide_eq_true ey⟩)
/-- the first of all good orders is the greedy one -/
theorem first_good {R : Rl} (hR : Pre R) (p : List Nat → Bool) (n : Nat) : ∀ (m : Nat) (row : List Nat), (∀ o ∈ below n m row, p o = true ↔ PW R o) → (leftOf n row).length = m → PW R row → (∀ x ∈ row, ∀ y ∈ leftOf n row, R x y = true) → Tot R (leftOf n row) →
    ∃ g, greedy R m (leftOf n row) = some g ∧ ((below n m row).filter p).head? = some (row ++ g)
  | 0, row, hp, _, hw, _, _ => ⟨[], rfl, by
    have : p row = true := (hp row (List.mem_singleton.mpr rfl)).mpr hw
    show ([row].filter p).head? = _
    rw [List.filter_cons_of_pos this, List.append_nil]; rfl⟩
  | m + 1, row, hp, hm, hw, hrl, ht => by
    have hne : leftOf n row ≠ [] := fun z => by rw [z] at hm; cases hm
    obtain ⟨k1, hk1, hk2⟩ := min_ex hR hne ht
    have hka : k1 ∈ able R (leftOf n row) := able_mem.mpr ⟨hk1, hk2⟩
    cases ha : able R (leftOf n row) with
    | nil => rw [ha] at hka; cases hka
    | cons k r =>
      obtain ⟨pre, post, e1, e2, e3, _⟩ := List.filter_eq_cons_iff.mp ha
      have hkl : k ∈ leftOf n row := by rw [e1]; simp
      have hkmin : ∀ y ∈ leftOf n row, R k y = true := List.all_eq_true.mp e3
      have hsn := left_snoc n row k
      have hlen : (leftOf n (row ++ [k])).length = m := by
        rw [hsn]
        have := drop_len (left_nodup n row) hkl
        omega
      have hw' : PW R (row ++ [k]) := List.pairwise_append.mpr ⟨hw, List.pairwise_singleton _ _, fun x hx y hy => by rw [List.mem_singleton.mp hy]; exact hrl x hx k hkl⟩
      have sub : ∀ x ∈ leftOf n (row ++ [k]), x ∈ leftOf n row := fun x hx => by rw [hsn] at hx; exact (List.mem_filter.mp hx).1
      obtain ⟨g, hg1, hg2⟩ := first_good hR p n m (row ++ [k]) (fun o ho => hp o (List.mem_flatMap.mpr ⟨_, List.mem_map.mpr ⟨k, hkl, rfl⟩, ho⟩)) hlen hw' (fun x hx y hy => by
        rcases List.mem_append.mp hx with h | h
        · exact hrl x h y (sub y hy)
        · rw [List.mem_singleton.mp h]; exact hkmin y (sub y hy)) fun x hx y hy => ht x (sub x hx) y (sub y hy)
      refine ⟨k :: g, ?_, ?_⟩
      · show (match able R (leftOf n row) with | [] => none | k :: _ => (greedy R m ((leftOf n row).filter fun x => decide (x ≠ k))).map (k :: ·)) = _
        rw [ha]
        show (greedy R m ((leftOf n row).filter fun x => decide (x ≠ k))).map (k :: ·) = _
        rw [← hsn, hg1]; rfl
      · have ee : (below n (m + 1) row).filter p = (leftOf n row).flatMap fun k => (below n m (row ++ [k])).filter p := by
          show ((extR n row).flatMap (below n m)).filter p = _
          rw [flat_filter]
          show ((leftOf n row).map fun k => row ++ [k]).flatMap _ = _
          rw [List.flatMap_map]
        have e1' : ∀ f : Nat → List (List Nat), (leftOf n row).flatMap f = pre.flatMap f ++ (f k ++ post.flatMap f) := fun f => by
          conv => lhs; rw [e1]
          rw [List.flatMap_append, List.flatMap_cons]
        rw [ee, e1', flat_none (l := pre), List.nil_append]
        · cases hb : (below n m (row ++ [k])).filter p with
          | nil => rw [hb] at hg2; cases hg2
          | cons z zs =>
            rw [hb] at hg2
            rw [List.cons_append]
            have hg2 : some z = some (row ++ [k] ++ g) := hg2
            show some z = _
            rw [hg2, List.append_assoc]; rfl
        · intro j hj
          refine List.filter_eq_nil_iff.mpr fun o ho hpo => ?_
          have hjl : j ∈ leftOf n row := by rw [e1]; exact List.mem_append.mpr (.inl hj)
          have hpw := (hp o (List.mem_flatMap.mpr ⟨_, List.mem_map.mpr ⟨j, hjl, rfl⟩, ho⟩)).mp hpo
          refine e2 j hj (List.all_eq_true.mpr fun y hy => ?_)
          by_cases ey : y = j
          · rw [ey]; exact hR.rf j
          · obtain ⟨s, rfl, hl, hn, hs⟩ := below_mem n m _ o ho
            have hjs := left_snoc n row j
            have hlj : (leftOf n (row ++ [j])).length = m := by
              rw [hjs]
              have := drop_len (left_nodup n row) hjl
              omega
            have hys : y ∈ s := below_all hlj hl hn hs y (by rw [hjs]; exact List.mem_filter.mpr ⟨hy, decide_eq_true ey⟩)
            rw [List.append_assoc] at hpw
            have h2 := (List.pairwise_append.mp hpw).2.1
            exact (List.pairwise_cons.mp h2).1 y hys
theorem no_good {R : Rl} (hR : Pre R) (p : List Nat → Bool) (n : Nat) (hp : ∀ o ∈ below n n [], p o = true ↔ PW R o) (h : greedy R n (List.range n) = none) : (below n n []).filter p = [] ∧ ¬ Tot R (List.range n) := by
  have e : leftOf n [] = List.range n := List.filter_eq_self.mpr (by simp)
  have nt : ¬ Tot R (List.range n) := fun ht => by
    obtain ⟨g, hg, _⟩ := first_good hR p n n [] hp (by rw [e, List.length_range]) List.Pairwise.nil (by simp) (by rw [e]; exact ht)
    rw [e, h] at hg; cases hg
  refine ⟨List.filter_eq_nil_iff.mpr fun o ho hpo => nt ?_, nt⟩
  have := below_tot hR (by rw [e, List.length_range]) ho ((hp o ho).mp hpo)
  rw [e] at this; exact this
theorem good_head {R : Rl} (hR : Pre R) (p : List Nat → Bool) (n : Nat) (hp : ∀ o ∈ below n n [], p o = true ↔ PW R o) {g : List Nat} (h : greedy R n (List.range n) = some g) : ((below n n []).filter p).head? = some g := by
  have e : leftOf n [] = List.range n := List.filter_eq_self.mpr (by simp)
  have ht := greedy_tot hR n _ g List.length_range List.nodup_range h
  obtain ⟨g', hg, hh⟩ := first_good hR p n n [] hp (by rw [e, List.length_range]) List.Pairwise.nil (by simp) (by rw [e]; exact ht)
  rw [e, h] at hg; cases hg
  rw [hh]; rfl
/-! ### pairs -/
def pairsN (n : Nat) : List (Nat × Nat) := (List.range n).flatMap fun i => (List.range (n - (i + 1))).map fun d => (i, i + 1 + d)
theorem pairs_mem {n i j : Nat} : (i, j) ∈ pairsN n ↔ i < j ∧ j < n := by
  unfold pairsN
  rw [List.mem_flatMap]
  constructor
  · rintro ⟨a, h1, h2⟩
    obtain ⟨d, h3, h4⟩ := List.mem_map.mp h2
    cases h4
    have := List.mem_range.mp h3
    omega
  · rintro ⟨h1, h2⟩
    refine ⟨i, List.mem_range.mpr (by omega), List.mem_map.mpr ⟨j - (i + 1), List.mem_range.mpr (by omega), ?_⟩⟩
    rw [show i + 1 + (j - (i + 1)) = j by omega]
def unl (R : Rl) (p : Nat × Nat) : Bool := !R p.1 p.2 && !R p.2 p.1
def unlike (R : Rl) (n : Nat) : Option (Nat × Nat) := (pairsN n).find? (unl R)
theorem unlike_some {R : Rl} (hR : Pre R) {n : Nat} (h : ¬ Tot R (List.range n)) : ∃ p, unlike R n = some p := by
  cases hu : unlike R n with
  | some p => exact ⟨p, rfl⟩
  | none =>
    exfalso
    refine h fun x hx y hy => ?_
    have hno := List.find?_eq_none.mp hu
    have key : ∀ a b : Nat, a < b → b < n → R a b = true ∨ R b a = true := fun a b h1 h2 => by
      have := hno (a, b) (pairs_mem.mpr ⟨h1, h2⟩)
      unfold unl at this
      cases h3 : R a b
      · cases h4 : R b a
        · rw [h3, h4] at this; exact absurd rfl this
        · exact .inr rfl
      · exact .inl rfl
    have hx := List.mem_range.mp hx
    have hy := List.mem_range.mp hy
    rcases Nat.lt_trichotomy x y with h1 | h1 | h1
    · exact key x y h1 hy
    · rw [h1]; exact .inl (hR.rf y)
    · exact (key y x h1 hx).symm
end K15

namespace K15
open PySem PySem.Spec PyProof.Rows L2 VL
def wth (a b : List Int) : Bool := a.all fun x => decide (x ∈ b)
theorem wth_iff {a b : List Int} : wth a b = true ↔ ∀ x ∈ a, x ∈ b := by
  unfold wth
  rw [List.all_eq_true]
  exact ⟨fun h x hx => of_decide_eq_true (h x hx), fun h x hx => decide_eq_true (h x hx)⟩
def spWth : FS := fun as q => ∃ a b : List Int, a.length ≤ 1000 ∧ as = [.d (tI a), .d (tI b)] ∧ q (.bl (wth a b)) .fz
theorem p_is_within (as : List VL.A) (q : D → Kd → Prop) (h : spWth as q) : as.length = 2 ∧ t_is_within ⟨fun _ => q .non .fz, q, fun _ => False, fun _ => False⟩ (rho0 3 as) := by
  obtain ⟨a, b, ha, rfl, hq⟩ := h
  refine ⟨rfl, ?_⟩
  unfold t_is_within
  refine (show wRet _ _ [.fz (tI a), .fz (tI b), .un] from ?_)
  have e := ev_comp1 (ρ := [.fz (tI a), .fz (tI b), .un]) (wi := wiO (wVar 0)) (i := 2) (tt := wYes) (t := wBin bIn (wVar 2) (wVar 1)) (k := .fz) D.int (fun _ => true) (fun x => .bl (decide (x ∈ b))) a (ei_tup (ev_var rfl)) (by simp only [LIM]; omega) (fun _ _ => et_yes) (fun x _ _ => ev_bin (ev_var rfl) (ev_var rfl) (in_tI x b))
  rw [List.filter_eq_self.mpr (by simp)] at e
  refine go_ret (ev_cl (z := .bl (wth a b)) (kz := .fz) (ea_cons e ea_nil) ?_) hq
  have h1 : (a.map fun x => D.bl (decide (x ∈ b))) = (a.map fun x => decide (x ∈ b)).map .bl := by rw [List.map_map]; rfl
  rw [h1]
  refine (cAll_bls _).trans ?_
  rw [List.all_map]; rfl
theorem p__law_in (as : List VL.A) (q : D → Kd → Prop) (h : spWth as q) : as.length = 2 ∧ t__law_in ⟨fun _ => q .non .fz, q, fun _ => False, fun _ => False⟩ (rho0 3 as) := by
  obtain ⟨a, b, ha, rfl, hq⟩ := h
  refine ⟨rfl, ?_⟩
  unfold t__law_in
  refine (show wRet _ _ [.fz (tI a), .fz (tI b), .un] from ?_)
  have e := ev_comp1 (ρ := [.fz (tI a), .fz (tI b), .un]) (wi := wiO (wVar 0)) (i := 2) (tt := wTest (wBin bNotIn (wVar 2) (wVar 1))) (t := wVar 2) (k := .fz) D.int (fun x => !decide (x ∈ b)) D.int a (ei_tup (ev_var rfl)) (by simp only [LIM]; omega) (fun x _ => et_test (ev_bin (ev_var rfl) (ev_var rfl) (notin_tI x b))) (fun x _ _ => ev_var rfl)
  refine go_ret (ev_bin e (ev_lst ea_nil) (bEq_nil (okL fun x hx => by
    obtain ⟨k, _, rfl⟩ := List.mem_map.mp hx
    exact okE_int))) ?_
  have : decide (((a.filter fun x => !decide (x ∈ b)).map D.int) = []) = wth a b := by
    rw [Bool.eq_iff_iff, decide_eq_true_iff, List.map_eq_nil_iff, List.filter_eq_nil_iff, wth_iff]
    exact ⟨fun h x hx => by have := h x hx; simpa using this, fun h x hx => by simpa using h x hx⟩
  rw [this]; exact hq
/-! ### the dict of what comes before what -/
def CmpOk (es : List (List L2.Key × D)) (n : Nat) (R : Rl) : Prop := ∀ i j, i < n → j < n → valD es [.inl (i : Int), .inl (j : Int)] = some (.bl (R i j))
theorem cmp_at {es : List (List L2.Key × D)} {n : Nat} {R : Rl} (h : CmpOk es n R) {i j : Nat} (hi : i < n) (hj : j < n) : bSubs (.dt es) (.tup [.int (i : Int), .int (j : Int)]) = some (.bl (R i j), .fz) := by
  show (match (some (valD es [.inl (i : Int), .inl (j : Int)]) : Option (Option D)) with
    | some (some z) => some (z, Kd.fz)
    | some none => none
    | none => bIx (.dt es) (.tup [.int (i : Int), .int (j : Int)])) = _
  rw [h i j hi hj]
theorem all_bls {α : Type} (l : List α) (f : α → Bool) : cAll [.lst (l.map fun a => .bl (f a))] = some (.bl (l.all f), .fz) := by
  have h1 : (l.map fun x => D.bl (f x)) = (l.map f).map .bl := by rw [List.map_map]; rfl
  rw [h1]
  refine (cAll_bls _).trans ?_
  rw [List.all_map]; rfl
theorem rem_nat : ∀ {l : List Nat} {k : Nat}, l.Nodup → k ∈ l → ((l.map fun (x : Nat) => (x : Int)).eraseIdx ((l.map fun (x : Nat) => (x : Int)).idxOf (k : Int))) = (l.filter fun x => decide (x ≠ k)).map fun (x : Nat) => (x : Int)
  | a :: r, k, h, hk => by
    obtain ⟨h1, h2⟩ := List.nodup_cons.mp h
    by_cases e : a = k
    · subst e
      have e2 : (r.filter fun x => decide (x ≠ a)) = r := List.filter_eq_self.mpr (fun x hx => decide_eq_true (fun z : x = a => h1 (by rw [← z]; exact hx)))
      rw [List.filter_cons_of_neg (by simp), e2, List.map_cons, List.idxOf_cons_self]
      rfl
    · have ih := rem_nat h2 ((List.mem_cons.mp hk).resolve_left (Ne.symm e))
      rw [List.filter_cons_of_pos (by simpa using e), List.map_cons, List.map_cons, ← ih, List.idxOf_cons, show ((a : Int) == (k : Int)) = false from beq_eq_false_iff_ne.mpr fun z => e (by omega)]
      rfl
theorem fRem {l : List Nat} {k : Nat} (h : l.Nodup) (hk : k ∈ l) : fRemove (.lst (nI l)) (.int (k : Int)) = some (.lst (nI (l.filter fun x => decide (x ≠ k)))) := by
  have e : nI l = (l.map fun (x : Nat) => (x : Int)).map D.int := by unfold nI; rw [List.map_map]; rfl
  have e2 : nI (l.filter fun x => decide (x ≠ k)) = ((l.filter fun x => decide (x ≠ k)).map fun (x : Nat) => (x : Int)).map D.int := by unfold nI; rw [List.map_map]; rfl
  rw [e, e2]
  show (intsOf ((l.map fun (x : Nat) => (x : Int)).map D.int)).bind _ = _
  rw [intsOf_map]
  show (if (k : Int) ∈ (l.map fun (x : Nat) => (x : Int)) then _ else none) = _
  rw [if_pos (List.mem_map.mpr ⟨k, hk, rfl⟩), rem_nat h hk]
def ordD : Option (List Nat) → D
  | none => .non
  | some o => .tup (nI o)
def spSorted : FS := fun as q => ∃ (n : Nat) (es : List (List L2.Key × D)) (R : Rl), n ≤ 100 ∧ CmpOk es n R ∧ as = [.d (.int (n : Int)), .d (.dt es)] ∧ q (ordD (greedy R n (List.range n))) .fz
theorem p_sorted_by (as : List VL.A) (q : D → Kd → Prop) (h : spSorted as q) : as.length = 2 ∧ t_sorted_by ⟨fun _ => q .non .fz, q, fun _ => False, fun _ => False⟩ (rho0 7 as) := by
  obtain ⟨n, es, R, hn, hc, rfl, hq⟩ := h
  refine ⟨rfl, ?_⟩
  unfold t_sorted_by
  refine (show wSeq _ _ _ [.fz (.int (n : Int)), .fz (.dt es), .un, .un, .un, .un, .un] from ?_)
  refine sq_parNN (ev_lst ea_nil) (ev_range (ev_var rfl) (by omega)) ?_
  refine (show wSeq _ _ _ [.fz (.int (n : Int)), .fz (.dt es), .ow (.lst (nI [])), .ow (.lst (nI (List.range n))), .un, .un, .un] from ?_)
  refine sq (go_while (fun m ρ => ∃ fs ls : List Nat, ∃ x4, m = ls.length ∧ ls.Nodup ∧ (∀ x ∈ ls, x < n) ∧ fs.length + ls.length ≤ n ∧ greedy R n (List.range n) = (greedy R ls.length ls).map (fs ++ ·) ∧ ρ = [.fz (.int (n : Int)), .fz (.dt es), .ow (.lst (nI fs)), .ow (.lst (nI ls)), x4, .un, .un]) (m0 := (List.range n).length) ⟨[], List.range n, .un, rfl, List.nodup_range, fun x hx => List.mem_range.mp hx, by rw [List.length_range]; simp, by
    rw [List.length_range]
    cases greedy R n (List.range n) <;> rfl, rfl⟩ ?_)
  rintro _ _ ⟨fs, ls, x4, rfl, hnd, hlt, hlen, hg, rfl⟩
  refine ⟨!decide (nI ls = []), et_test (ev_bin (ev_own rfl) (ev_lst ea_nil) (bNe_nilL (okL_nI ls))), fun hb => ?_, fun hb => ?_⟩
  · have hne : ls ≠ [] := fun z => by subst z; simp [nI] at hb
    unfold t_sorted_by_w1
    have e := ev_comp1 (ρ := [.fz (.int (n : Int)), .fz (.dt es), .ow (.lst (nI fs)), .ow (.lst (nI ls)), x4, .un, .un]) (wi := wiO (wVar 3)) (i := 5) (tt := t_sorted_by_i1) (t := wVar 5) (k := .fz) (fun (x : Nat) => .int (x : Int)) (fun k => ls.all fun o => R k o) (fun (x : Nat) => .int (x : Int)) ls (ei_lst (ev_own rfl)) (by simp only [LIM]; omega) (fun k hk => by
      unfold t_sorted_by_i1
      have e2 := ev_comp1 (ρ := [.fz (.int (n : Int)), .fz (.dt es), .ow (.lst (nI fs)), .ow (.lst (nI ls)), x4, .fz (.int (k : Int)), .un]) (wi := wiO (wVar 3)) (i := 6) (tt := wYes) (t := t_sorted_by_c1) (k := .fz) (fun (x : Nat) => .int (x : Int)) (fun _ => true) (fun o => .bl (R k o)) ls (ei_lst (ev_own rfl)) (by simp only [LIM]; omega) (fun _ _ => et_yes) (fun o ho _ => by
        unfold t_sorted_by_c1
        exact ev_bin (ev_var rfl) (ev_tup (ea_consF (ev_var rfl) (ea_consF (ev_var rfl) ea_nil))) (cmp_at hc (hlt k hk) (hlt o ho)))
      rw [List.filter_eq_self.mpr (by simp)] at e2
      exact et_test (ev_cl (ea_cons e2 ea_nil) (all_bls ls fun o => R k o))) (fun k hk _ => ev_var rfl)
    refine sq_asgN e ?_
    have ea : (ls.filter fun k => ls.all fun o => R k o).map (fun (x : Nat) => D.int (x : Int)) = nI (able R ls) := rfl
    rw [ea]
    refine (show wSeq _ _ _ [.fz (.int (n : Int)), .fz (.dt es), .ow (.lst (nI fs)), .ow (.lst (nI ls)), .ow (.lst (nI (able R ls))), .un, .un] from ?_)
    have t1 : Et (wTest (wBin bEq (wVar 4) (wLst wNil))) [.fz (.int (n : Int)), .fz (.dt es), .ow (.lst (nI fs)), .ow (.lst (nI ls)), .ow (.lst (nI (able R ls))), .un, .un] (decide (nI (able R ls) = [])) := et_test (ev_bin (ev_own rfl) (ev_lst ea_nil) (bEq_nil (okL_nI _)))
    obtain ⟨m, hm⟩ : ∃ m, ls.length = m + 1 := ⟨ls.length - 1, by have := List.length_pos_iff.mpr hne; omega⟩
    have hgs : greedy R ls.length ls = (match able R ls with | [] => none | k :: _ => (greedy R m (ls.filter fun x => decide (x ≠ k))).map (k :: ·)) := by rw [hm]; rfl
    cases ha : able R ls with
    | nil =>
      rw [ha] at t1 hgs
      refine sq_ifT t1 (sq (go_ret ev_con ?_))
      rw [hg, hgs] at hq
      exact hq
    | cons k r =>
      rw [ha] at t1 hgs
      refine sq_skip t1 ?_
      have hk : k ∈ able R ls := by rw [ha]; exact List.mem_cons_self ..
      have hkl := (able_mem.mp hk).1
      have e0 : ∀ {x2 x3 : Slot}, Ev (wBin bSubs (wVar 4) (wCon (.int 0))) [.fz (.int (n : Int)), .fz (.dt es), x2, x3, .ow (.lst (nI (k :: r))), .un, .un] (.int (k : Int)) .fz := ev_bin (ev_own rfl) ev_con (ix_natL (k := 0) rfl)
      unfold t_sorted_by_s1
      refine sq_app (xs := nI fs) rfl e0 (by unfold nI; rw [List.length_map]; simp only [LIM]; omega) ?_
      refine go_rem (xs := nI ls) rfl e0 (fRem hnd hkl) ?_
      have hdl := drop_len hnd hkl
      refine ⟨(ls.filter fun x => decide (x ≠ k)).length, by omega, fs ++ [k], ls.filter (fun x => decide (x ≠ k)), .ow (.lst (nI (k :: r))), rfl, hnd.filter _, fun x hx => hlt x (List.mem_filter.mp hx).1, by rw [List.length_append, List.length_singleton]; omega, ?_, ?_⟩
      · rw [hg, hgs]
        show ((greedy R m (ls.filter fun x => decide (x ≠ k))).map (k :: ·)).map (fs ++ ·) = _
        have : (ls.filter fun x => decide (x ≠ k)).length = m := by omega
        rw [this, Option.map_map]
        congr 1
        funext g
        show fs ++ k :: g = fs ++ [k] ++ g
        rw [List.append_assoc]; rfl
      · have : nI (fs ++ [k]) = nI fs ++ [.int (k : Int)] := by unfold nI; rw [List.map_append]; rfl
        rw [this]
        rfl
  · have hl : ls = [] := by
      have := of_decide_eq_true (by simpa using hb : decide (nI ls = []) = true)
      exact List.map_eq_nil_iff.mp this
    subst hl
    dsimp only
    unfold t_sorted_by_s2
    refine go_ret (ev_cl (ea_cons (ev_own rfl) ea_nil) cTup_l) ?_
    have : greedy R n (List.range n) = some fs := by
      rw [hg]
      show some (fs ++ []) = _
      rw [List.append_nil]
    rw [this] at hq
    exact hq
/-! ### the first two that bar it -/
def noD (p : Nat × Nat) : D := .tup [.str "no", .int (p.1 : Int), .int (p.2 : Int)]
def spUnlike : FS := fun as q => ∃ (n : Nat) (es : List (List L2.Key × D)) (R : Rl), n ≤ 100 ∧ CmpOk es n R ∧ as = [.d (.int (n : Int)), .d (.dt es)] ∧ q (noD ((unlike R n).getD (0, 0))) .fz
theorem un_inner {n : Nat} {es : List (List L2.Key × D)} {R : Rl} (hc : CmpOk es n R) {i : Nat} (hi : i < n) {P : PEnds} : ∀ (js : List Nat) (x3 : Slot), (∀ j ∈ js, j < n) → (match (js.map fun j => (i, j)).find? (unl R) with | some p => P.rt (noD p) .fz | none => ∀ x3, P.nx [.fz (.int (n : Int)), .fz (.dt es), .fz (.int (i : Int)), x3]) →
    wLoop (wgName 3) t_first_unlike_f1 P (nI js) [.fz (.int (n : Int)), .fz (.dt es), .fz (.int (i : Int)), x3]
  | [], x3, _, h => h x3
  | j :: js, x3, hj, h => by
    have hjn := hj j (List.mem_cons_self ..)
    refine (show t_first_unlike_f1 ⟨wLoop (wgName 3) t_first_unlike_f1 P (nI js), P.rt, P.nx, wLoop (wgName 3) t_first_unlike_f1 P (nI js)⟩ [.fz (.int (n : Int)), .fz (.dt es), .fz (.int (i : Int)), .fz (.int (j : Int))] from ?_)
    unfold t_first_unlike_f1
    have t1 : Et (wAnd (wNot (wTest (wBin bSubs (wVar 1) (wTup (wConsF (wVar 2) (wConsF (wVar 3) wNil)))))) (wNot (wTest (wBin bSubs (wVar 1) (wTup (wConsF (wVar 3) (wConsF (wVar 2) wNil))))))) [.fz (.int (n : Int)), .fz (.dt es), .fz (.int (i : Int)), .fz (.int (j : Int))] (!R i j && !R j i) :=
      et_and (et_not (et_test (ev_bin (ev_var rfl) (ev_tup (ea_consF (ev_var rfl) (ea_consF (ev_var rfl) ea_nil))) (cmp_at hc hi hjn)))) fun _ => et_not (et_test (ev_bin (ev_var rfl) (ev_tup (ea_consF (ev_var rfl) (ea_consF (ev_var rfl) ea_nil))) (cmp_at hc hjn hi)))
    rw [List.map_cons, List.find?_cons] at h
    have eu : unl R (i, j) = (!R i j && !R j i) := rfl
    rw [eu] at h
    cases hb : (!R i j && !R j i) with
    | true =>
      rw [hb] at t1 h
      exact go_ifT t1 (go_ret (ev_tup (ea_consF ev_con (ea_consF (ev_var rfl) (ea_consF (ev_var rfl) ea_nil)))) h)
    | false =>
      rw [hb] at t1 h
      exact go_skip t1 (un_inner hc hi js _ (fun j' h' => hj j' (List.mem_cons_of_mem _ h')) h)
def rowP (n i : Nat) : List (Nat × Nat) := (List.range (n - (i + 1))).map fun d => (i, i + 1 + d)
theorem un_outer {n : Nat} {es : List (List L2.Key × D)} {R : Rl} (hn : n ≤ 100) (hc : CmpOk es n R) {P : PEnds} : ∀ (is : List Nat) (x2 x3 : Slot), (∀ i ∈ is, i < n) → (match (is.flatMap (rowP n)).find? (unl R) with | some p => P.rt (noD p) .fz | none => ∀ x2 x3, P.nx [.fz (.int (n : Int)), .fz (.dt es), x2, x3]) →
    wLoop (wgName 2) t_first_unlike_f2 P (nI is) [.fz (.int (n : Int)), .fz (.dt es), x2, x3]
  | [], x2, x3, _, h => h x2 x3
  | i :: is, x2, x3, hi, h => by
    have hin := hi i (List.mem_cons_self ..)
    refine (show t_first_unlike_f2 ⟨wLoop (wgName 2) t_first_unlike_f2 P (nI is), P.rt, P.nx, wLoop (wgName 2) t_first_unlike_f2 P (nI is)⟩ [.fz (.int (n : Int)), .fz (.dt es), .fz (.int (i : Int)), x3] from ?_)
    unfold t_first_unlike_f2
    have er : (List.range (n - (i + 1))).map (fun (k : Nat) => D.int (((i + 1 : Nat) : Int) + (k : Int))) = nI ((List.range (n - (i + 1))).map fun d => i + 1 + d) := by
      unfold nI; rw [List.map_map]
      refine List.map_congr_left fun k _ => ?_
      show D.int _ = .int _
      congr 1
    have ei := ei_r2 (ρ := [.fz (.int (n : Int)), .fz (.dt es), .fz (.int (i : Int)), x3]) (a := ((i + 1 : Nat) : Int)) (n := n - (i + 1)) (b := (n : Int)) (ea_cons (ev_bin (ev_var (i := 2) rfl) (ev_con (d := .int 1)) (by
      have : ((i + 1 : Nat) : Int) = (i : Int) + 1 := by omega
      rw [this]; exact bAdd_i)) (ea_cons (ev_var (i := 0) rfl) ea_nil)) (by omega) (by omega) (by omega)
    rw [er] at ei
    refine go_for ei ?_
    refine un_inner hc hin _ x3 (fun j hj => ?_) ?_
    · obtain ⟨d, hd, rfl⟩ := List.mem_map.mp hj
      have := List.mem_range.mp hd
      omega
    · have e2 : ((List.range (n - (i + 1))).map fun d => i + 1 + d).map (fun j => (i, j)) = rowP n i := by unfold rowP; rw [List.map_map]; rfl
      rw [e2]
      rw [List.flatMap_cons, List.find?_append] at h
      cases hf : (rowP n i).find? (unl R) with
      | some p => rw [hf] at h; exact h
      | none =>
        rw [hf] at h
        exact fun x3 => un_outer hn hc is _ _ (fun j hj => hi j (List.mem_cons_of_mem _ hj)) h
theorem p_first_unlike (as : List VL.A) (q : D → Kd → Prop) (h : spUnlike as q) : as.length = 2 ∧ t_first_unlike ⟨fun _ => q .non .fz, q, fun _ => False, fun _ => False⟩ (rho0 4 as) := by
  obtain ⟨n, es, R, hn, hc, rfl, hq⟩ := h
  refine ⟨rfl, ?_⟩
  unfold t_first_unlike
  refine (show wSeq _ _ _ [.fz (.int (n : Int)), .fz (.dt es), .un, .un] from ?_)
  refine sq (go_for (ei_r1 (n := n) (ea_cons (ev_var rfl) ea_nil) (by omega)) ?_)
  refine un_outer hn hc (List.range n) .un .un (fun i hi => List.mem_range.mp hi) ?_
  have e : (List.range n).flatMap (rowP n) = pairsN n := rfl
  rw [e]
  unfold unlike at hq
  cases hf : (pairsN n).find? (unl R) with
  | some p => rw [hf] at hq; exact hq
  | none =>
    rw [hf] at hq
    intro x2 x3
    dsimp only
    unfold t_first_unlike_s1
    exact go_ret (ev_tup (ea_consF ev_con (ea_consF ev_con (ea_consF ev_con ea_nil)))) hq
/-! ### the order that is told -/
def toldD (R : Rl) (n : Nat) : D := match greedy R n (List.range n) with
  | some o => .tup [.str "yes", .tup (nI o)]
  | none => noD ((unlike R n).getD (0, 0))
def spTold : FS := fun as q => ∃ (n : Nat) (es : List (List L2.Key × D)) (R : Rl), n ≤ 100 ∧ CmpOk es n R ∧ as = [.d (.int (n : Int)), .d (.dt es)] ∧ q (toldD R n) .fz
theorem p_told_order (as : List VL.A) (q : D → Kd → Prop) (h : spTold as q) : as.length = 2 ∧ t_told_order spSorted spUnlike ⟨fun _ => q .non .fz, q, fun _ => False, fun _ => False⟩ (rho0 3 as) := by
  obtain ⟨n, es, R, hn, hc, rfl, hq⟩ := h
  refine ⟨rfl, ?_⟩
  unfold t_told_order
  refine (show wSeq _ _ _ [.fz (.int (n : Int)), .fz (.dt es), .un] from ?_)
  refine sq_asg (ev_call (k := .fz) (ex_cons (ev_var rfl) (ex_cons (ev_var rfl) ex_nil)) fun q hq => ⟨n, es, R, hn, hc, rfl, hq⟩) ?_
  refine (show wRet _ _ [.fz (.int (n : Int)), .fz (.dt es), .fz (ordD (greedy R n (List.range n)))] from ?_)
  unfold toldD at hq
  cases hg : greedy R n (List.range n) with
  | some o =>
    rw [hg] at hq
    exact go_ret (ev_ifT (et_test (b := true) (ev_bin (ev_var rfl) ev_con bIsNot_e)) (ev_tup (ea_consF ev_con (ea_consF (ev_var (d := .tup (nI o)) rfl) ea_nil)))) hq
  | none =>
    rw [hg] at hq
    exact go_ret (ev_ifF (et_test (b := false) (ev_bin (ev_var (d := .non) rfl) ev_con bIsNot_e)) (ev_call (k := .fz) (ex_cons (ev_var rfl) (ex_cons (ev_var rfl) ex_nil)) fun q hq => ⟨n, es, R, hn, hc, rfl, hq⟩)) hq
end K15

namespace K15
open PySem PySem.Spec PyProof.Rows L2 VL
/-! ### order_of_wear, two_sides -/
theorem ret_own2 {ρ : Rho} {i j : Nat} {a d : D} {sp : FS} {P : PEnds} (h : ρ[i]? = some (.fz a)) (ho : ρ[j]? = some (.ow d)) (q : sp [.d a, .d d] fun d k => P.rt d k.ret) : wRet (wCall sp (xCons (wVar i) (xCons (wVar j) xNil))) P ρ := by
  unfold wRet wCall xCons xNil
  refine (ev_var h) _ ?_
  show wVar j ρ (toF _)
  exact own_go ho q
theorem ei_lstF {w : WE} {ρ : Rho} {xs : List D} {k : Kd} (h : Ev w ρ (.lst xs) k) (hk : k.ok = true := by rfl) : Ei (wiF w) ρ xs := fun Q q => h _ (toF_ok hk q)
def at' (ws : List (List Int)) (i : Nat) : List Int := ws.getD i []
def Rw (ws : List (List Int)) : Rl := fun i j => wth (at' ws i) (at' ws j)
theorem wth_pre (f : Nat → List Int) : Pre fun i j => wth (f i) (f j) :=
  ⟨fun i => wth_iff.mpr fun _ h => h, fun i j k h1 h2 => wth_iff.mpr fun x hx => wth_iff.mp h2 x (wth_iff.mp h1 x hx)⟩
theorem Rw_pre (ws : List (List Int)) : Pre (Rw ws) := wth_pre (at' ws)
theorem get_at {ws : List (List Int)} {i : Nat} (h : i < ws.length) : (ws.map tI)[i]? = some (tI (at' ws i)) := by
  unfold at'
  rw [List.getElem?_map, List.getElem?_eq_getElem h, List.getD_eq_getElem?_getD, List.getElem?_eq_getElem h]; rfl
def WsOk (ws : List (List Int)) : Prop := ws.length ≤ 6 ∧ ∀ w ∈ ws, w.length ≤ 100
theorem at_len {ws : List (List Int)} (h : WsOk ws) {i : Nat} : (at' ws i).length ≤ 100 := by
  unfold at'
  rw [List.getD_eq_getElem?_getD]
  cases hg : ws[i]? with
  | none => simp
  | some w => exact h.2 w (List.mem_of_getElem? hg)
def keyP (p : Nat × Nat) : List L2.Key := [.inl (p.1 : Int), .inl (p.2 : Int)]
theorem keyP_inj {p q : Nat × Nat} (h : keyP p = keyP q) : p = q := by
  unfold keyP at h
  injection h with h1 h2
  injection h2 with h2 h3
  have h1 : (p.1 : Int) = q.1 := by injection h1
  have h2 : (p.2 : Int) = q.2 := by injection h2
  exact Prod.ext (by omega) (by omega)
theorem prsT_map (R : Rl) : ∀ l : List (Nat × Nat), prsT (l.map fun p => .tup [.tup [.int (p.1 : Int), .int (p.2 : Int)], .bl (R p.1 p.2)]) = some (l.map fun p => (keyP p, .bl (R p.1 p.2)))
  | [] => rfl
  | p :: r => by
    rw [List.map_cons]
    show (match keysOf [.int (p.1 : Int), .int (p.2 : Int)], prsT (r.map fun p => .tup [.tup [.int (p.1 : Int), .int (p.2 : Int)], .bl (R p.1 p.2)]) with | some key, some l => some ((key, D.bl (R p.1 p.2)) :: l) | _, _ => none) = _
    rw [prsT_map R r]; rfl
def allP (n : Nat) : List (Nat × Nat) := (List.range n).flatMap fun i => (List.range n).map fun j => (i, j)
theorem allP_mem {n i j : Nat} (hi : i < n) (hj : j < n) : (i, j) ∈ allP n := List.mem_flatMap.mpr ⟨i, List.mem_range.mpr hi, List.mem_map.mpr ⟨j, List.mem_range.mpr hj, rfl⟩⟩
def spOrder : FS := fun as q => ∃ ws : List (List Int), WsOk ws ∧ as = [.d (.tup (ws.map tI))] ∧ q (toldD (Rw ws) ws.length) .fz
theorem p_order_of_wear (as : List VL.A) (q : D → Kd → Prop) (h : spOrder as q) : as.length = 1 ∧ t_order_of_wear spWth spTold ⟨fun _ => q .non .fz, q, fun _ => False, fun _ => False⟩ (rho0 5 as) := by
  obtain ⟨ws, hw, rfl, hq⟩ := h
  refine ⟨rfl, ?_⟩
  unfold t_order_of_wear
  refine (show wSeq _ _ _ [.fz (.tup (ws.map tI)), .un, .un, .un, .un] from ?_)
  refine sq_asg (ev_lenT (ev_var rfl)) ?_
  refine (show wSeq _ _ _ [.fz (.tup (ws.map tI)), .fz (.int (ws.length : Int)), .un, .un, .un] from ?_)
  have hn := hw.1
  have e := ev_two (ρ := [.fz (.tup (ws.map tI)), .fz (.int (ws.length : Int)), .un, .un, .un]) (wi := wiR1 (wCons (wVar 1) wNil)) (wi1 := wiR1 (wCons (wVar 1) wNil)) (i := 3) (j := 4) (tt1 := wYes) (t := wTup (wConsF (wTup (wConsF (wVar 3) (wConsF (wVar 4) wNil))) (wConsF (wCall spWth (xCons (wBin bSubs (wVar 0) (wVar 3)) (xCons (wBin bSubs (wVar 0) (wVar 4)) xNil))) wNil))) (k := .fz)
    (fun (i : Nat) => .int (i : Int)) (fun (j : Nat) => .int (j : Int)) (fun _ => List.range ws.length) (fun _ _ => true) (fun (i j : Nat) => .tup [.tup [.int (i : Int), .int (j : Int)], .bl (Rw ws i j)]) (List.range ws.length) (ei_r1 (ea_cons (ev_var rfl) ea_nil) (by omega)) (fun a _ => ei_r1 (ea_cons (ev_var rfl) ea_nil) (by omega)) (fun _ _ _ _ => et_yes)
    (fun i hi j hj _ => ev_tup (ea_consF (ev_tup (ea_consF (ev_var rfl) (ea_consF (ev_var rfl) ea_nil))) (ea_consF (ev_call (k := .fz) (ex_cons (ev_bin (ev_var rfl) (ev_var rfl) (ix_natT (get_at (List.mem_range.mp hi)))) (ex_cons (ev_bin (ev_var rfl) (ev_var rfl) (ix_natT (get_at (List.mem_range.mp hj)))) ex_nil)) fun q hq => ⟨_, _, by have := at_len hw (i := i); omega, rfl, hq⟩) ea_nil)))
    (by
      have : ∀ l : List Nat, (l.flatMap fun _ => List.range ws.length).length = l.length * ws.length := fun l => by
        induction l with
        | nil => simp
        | cons a r ih => rw [List.flatMap_cons, List.length_append, ih, List.length_range, List.length_cons, Nat.add_mul, Nat.one_mul, Nat.add_comm]
      rw [this, List.length_range]
      have := Nat.mul_le_mul hn hn
      simp only [LIM]; omega)
  have ed : ((List.range ws.length).flatMap fun (i : Nat) => ((List.range ws.length).filter fun _ => true).map fun (j : Nat) => D.tup [.tup [.int (i : Int), .int (j : Int)], .bl (Rw ws i j)]) = (allP ws.length).map fun p => .tup [.tup [.int (p.1 : Int), .int (p.2 : Int)], .bl (Rw ws p.1 p.2)] := by
    unfold allP
    rw [flat_map']
    refine congrArg (fun f => (List.range ws.length).flatMap f) (funext fun i => ?_)
    rw [List.filter_eq_self.mpr (by simp), List.map_map]; rfl
  rw [ed] at e
  refine sq_asgN (ev_cl (ea_cons e ea_nil) (z := .dt (mgTD [] ((allP ws.length).map fun p => (keyP p, .bl (Rw ws p.1 p.2))))) (kz := .nw) ?_) ?_
  · show (prsT _).map _ = _
    rw [prsT_map]; rfl
  refine (show wRet _ _ [.fz (.tup (ws.map tI)), .fz (.int (ws.length : Int)), .ow (.dt (mgTD [] ((allP ws.length).map fun p => (keyP p, .bl (Rw ws p.1 p.2))))), .un, .un] from ?_)
  have ok : CmpOk (mgTD [] ((allP ws.length).map fun p => (keyP p, D.bl (Rw ws p.1 p.2)))) ws.length (Rw ws) := fun i j hi hj => by
    refine mgTD_val (k := keyP (i, j)) _ _ (fun p hp e => ?_) (.inr ⟨_, List.mem_map.mpr ⟨(i, j), allP_mem hi hj, rfl⟩, rfl⟩)
    obtain ⟨p', _, rfl⟩ := List.mem_map.mp hp
    rw [keyP_inj e]
  exact ret_own2 rfl rfl ⟨ws.length, _, Rw ws, by omega, ok, rfl, hq⟩
def p1 (ps : List (List Int × List Int)) (i : Nat) : List Int := at' (ps.map (·.1)) i
def p2 (ps : List (List Int × List Int)) (i : Nat) : List Int := at' (ps.map (·.2)) i
def R2 (ps : List (List Int × List Int)) : Rl := fun i j => wth (p1 ps i) (p1 ps j) && wth (p2 ps i) (p2 ps j)
theorem R2_pre (ps : List (List Int × List Int)) : Pre (R2 ps) :=
  ⟨fun i => by unfold R2; rw [(wth_pre (p1 ps)).rf i, (wth_pre (p2 ps)).rf i]; rfl, fun i j k h1 h2 => by
    unfold R2 at *
    rw [Bool.and_eq_true] at *
    exact ⟨(wth_pre (p1 ps)).tr i j k h1.1 h2.1, (wth_pre (p2 ps)).tr i j k h1.2 h2.2⟩⟩
def pD2 (p : List Int × List Int) : D := .tup [tI p.1, tI p.2]
theorem get_p2 {ps : List (List Int × List Int)} {i : Nat} (h : i < ps.length) : (ps.map pD2)[i]? = some (.tup [tI (p1 ps i), tI (p2 ps i)]) := by
  unfold p1 p2 at'
  rw [List.getElem?_map, List.getElem?_eq_getElem h, List.getD_eq_getElem?_getD, List.getD_eq_getElem?_getD, List.getElem?_map, List.getElem?_map, List.getElem?_eq_getElem h]; rfl
def PsOk (ps : List (List Int × List Int)) : Prop := WsOk (ps.map (·.1)) ∧ WsOk (ps.map (·.2))
def spTwo : FS := fun as q => ∃ ps : List (List Int × List Int), PsOk ps ∧ as = [.d (.tup (ps.map pD2))] ∧ q (toldD (R2 ps) ps.length) .fz
/-- what is written so far -/
def Sofar (R : Rl) (es : List (List L2.Key × D)) (done : List (Nat × Nat)) : Prop := es.length ≤ done.length ∧ ∀ p ∈ done, valD es (keyP p) = some (.bl (R p.1 p.2))
theorem sofar_put {R : Rl} {es : List (List L2.Key × D)} {done : List (Nat × Nat)} (h : Sofar R es done) (p : Nat × Nat) : Sofar R (putD es (keyP p) (.bl (R p.1 p.2))) (done ++ [p]) := by
  refine ⟨?_, fun q hq => ?_⟩
  · have := lenT_put es (keyP p) (.bl (R p.1 p.2))
    have := h.1
    rw [List.length_append, List.length_singleton]; omega
  · rw [valT_put]
    by_cases c : keyP p = keyP q
    · rw [if_pos c, keyP_inj c]
    · rw [if_neg c]
      rcases List.mem_append.mp hq with h1 | h1
      · exact h.2 q h1
      · rw [List.mem_singleton.mp h1] at c; exact absurd rfl c
theorem two_inner {ps : List (List Int × List Int)} (hps : PsOk ps) {i : Nat} (hi : i < ps.length) {P : PEnds} : ∀ (js : List Nat) (es : List (List L2.Key × D)) (done : List (Nat × Nat)) (x4 : Slot), (∀ j ∈ js, j < ps.length) → Sofar (R2 ps) es done → done.length + js.length ≤ 1000 →
    (∀ es x4, Sofar (R2 ps) es (done ++ js.map fun j => (i, j)) → P.nx [.fz (.tup (ps.map pD2)), .fz (.int (ps.length : Int)), .ow (.dt es), .fz (.int (i : Int)), x4]) →
    wLoop (wgName 4) (t_two_sides_f1 spWth) P (nI js) [.fz (.tup (ps.map pD2)), .fz (.int (ps.length : Int)), .ow (.dt es), .fz (.int (i : Int)), x4]
  | [], es, done, x4, _, hs, _, h => h es x4 (by rw [List.map_nil, List.append_nil]; exact hs)
  | j :: js, es, done, x4, hj, hs, hl, h => by
    have hjn := hj j (List.mem_cons_self ..)
    refine (show t_two_sides_f1 spWth ⟨wLoop (wgName 4) (t_two_sides_f1 spWth) P (nI js), P.rt, P.nx, wLoop (wgName 4) (t_two_sides_f1 spWth) P (nI js)⟩ [.fz (.tup (ps.map pD2)), .fz (.int (ps.length : Int)), .ow (.dt es), .fz (.int (i : Int)), .fz (.int (j : Int))] from ?_)
    unfold t_two_sides_f1
    rw [List.length_cons] at hl
    have l1 : ∀ k, (p1 ps k).length ≤ 1000 := fun k => by have := at_len hps.1 (i := k); unfold p1; omega
    have l2 : ∀ k, (p2 ps k).length ≤ 1000 := fun k => by have := at_len hps.2 (i := k); unfold p2; omega
    have ei : Ev (wBin bSubs (wVar 0) (wVar 3)) [.fz (.tup (ps.map pD2)), .fz (.int (ps.length : Int)), .ow (.dt es), .fz (.int (i : Int)), .fz (.int (j : Int))] (.tup [tI (p1 ps i), tI (p2 ps i)]) .fz := ev_bin (ev_var rfl) (ev_var rfl) (ix_natT (get_p2 hi))
    have ej : Ev (wBin bSubs (wVar 0) (wVar 4)) [.fz (.tup (ps.map pD2)), .fz (.int (ps.length : Int)), .ow (.dt es), .fz (.int (i : Int)), .fz (.int (j : Int))] (.tup [tI (p1 ps j), tI (p2 ps j)]) .fz := ev_bin (ev_var rfl) (ev_var rfl) (ix_natT (get_p2 hjn))
    have ev : Ev (wAndV (wCall spWth (xCons (wBin bSubs (wBin bSubs (wVar 0) (wVar 3)) (wCon (.int 0))) (xCons (wBin bSubs (wBin bSubs (wVar 0) (wVar 4)) (wCon (.int 0))) xNil))) (wCall spWth (xCons (wBin bSubs (wBin bSubs (wVar 0) (wVar 3)) (wCon (.int 1))) (xCons (wBin bSubs (wBin bSubs (wVar 0) (wVar 4)) (wCon (.int 1))) xNil)))) [.fz (.tup (ps.map pD2)), .fz (.int (ps.length : Int)), .ow (.dt es), .fz (.int (i : Int)), .fz (.int (j : Int))] (.bl (R2 ps i j)) .fz :=
      ev_andB (ev_call (k := .fz) (ex_cons (ev_bin (z := tI (p1 ps i)) (kz := .fz) ei ev_con (ix_natT (k := 0) rfl)) (ex_cons (ev_bin (z := tI (p1 ps j)) (kz := .fz) ej ev_con (ix_natT (k := 0) rfl)) ex_nil)) fun q hq => ⟨_, _, l1 i, rfl, hq⟩)
        fun _ => ev_call (k := .fz) (ex_cons (ev_bin (z := tI (p2 ps i)) (kz := .fz) ei ev_con (ix_natT (k := 1) rfl)) (ex_cons (ev_bin (z := tI (p2 ps j)) (kz := .fz) ej ev_con (ix_natT (k := 1) rfl)) ex_nil)) fun q hq => ⟨_, _, l2 i, rfl, hq⟩
    refine go_dputT (key := keyP (i, j)) rfl ev (ev_tup (ea_consF (ev_var rfl) (ea_consF (ev_var rfl) ea_nil))) rfl (by have := hs.1; simp only [LIM]; omega) ?_
    refine two_inner hps hi js _ (done ++ [(i, j)]) _ (fun j' h' => hj j' (List.mem_cons_of_mem _ h')) (sofar_put hs (i, j)) (by rw [List.length_append, List.length_singleton]; omega) fun es' x4' h' => ?_
    refine h es' x4' ?_
    rw [List.map_cons]
    rw [List.append_assoc] at h'
    exact h'
theorem two_outer {ps : List (List Int × List Int)} (hps : PsOk ps) {P : PEnds} : ∀ (is : List Nat) (es : List (List L2.Key × D)) (done : List (Nat × Nat)) (x3 x4 : Slot), (∀ i ∈ is, i < ps.length) → Sofar (R2 ps) es done → done.length + is.length * ps.length ≤ 1000 →
    (∀ es x3 x4, Sofar (R2 ps) es (done ++ is.flatMap fun i => (List.range ps.length).map fun j => (i, j)) → P.nx [.fz (.tup (ps.map pD2)), .fz (.int (ps.length : Int)), .ow (.dt es), x3, x4]) →
    wLoop (wgName 3) (t_two_sides_f2 spWth) P (nI is) [.fz (.tup (ps.map pD2)), .fz (.int (ps.length : Int)), .ow (.dt es), x3, x4]
  | [], es, done, x3, x4, _, hs, _, h => h es x3 x4 (by rw [List.flatMap_nil, List.append_nil]; exact hs)
  | i :: is, es, done, x3, x4, hi, hs, hl, h => by
    refine (show t_two_sides_f2 spWth ⟨wLoop (wgName 3) (t_two_sides_f2 spWth) P (nI is), P.rt, P.nx, wLoop (wgName 3) (t_two_sides_f2 spWth) P (nI is)⟩ [.fz (.tup (ps.map pD2)), .fz (.int (ps.length : Int)), .ow (.dt es), .fz (.int (i : Int)), x4] from ?_)
    unfold t_two_sides_f2
    rw [List.length_cons, Nat.add_mul, Nat.one_mul] at hl
    have hn : ps.length ≤ 6 := by have := hps.1.1; rw [List.length_map] at this; exact this
    refine go_for (ei_r1 (ea_cons (ev_var rfl) ea_nil) (by omega)) ?_
    refine two_inner hps (hi i (List.mem_cons_self ..)) (List.range ps.length) es done x4 (fun j hj => List.mem_range.mp hj) hs (by rw [List.length_range]; omega) fun es' x4' h' => ?_
    refine two_outer hps is es' _ _ _ (fun j hj => hi j (List.mem_cons_of_mem _ hj)) h' (by rw [List.length_append, List.length_map, List.length_range]; omega) fun es2 y3 y4 h2 => ?_
    refine h es2 y3 y4 ?_
    rw [List.flatMap_cons, ← List.append_assoc]
    exact h2
theorem p_two_sides (as : List VL.A) (q : D → Kd → Prop) (h : spTwo as q) : as.length = 1 ∧ t_two_sides spWth spTold ⟨fun _ => q .non .fz, q, fun _ => False, fun _ => False⟩ (rho0 5 as) := by
  obtain ⟨ps, hps, rfl, hq⟩ := h
  refine ⟨rfl, ?_⟩
  unfold t_two_sides
  have hn : ps.length ≤ 6 := by have := hps.1.1; rw [List.length_map] at this; exact this
  refine (show wSeq _ _ _ [.fz (.tup (ps.map pD2)), .un, .un, .un, .un] from ?_)
  refine sq_asg (ev_lenT (ev_var rfl)) ?_
  refine sq_asgN (d := .dt []) (fun _ q => q) ?_
  refine (show wSeq _ _ _ [.fz (.tup (ps.map pD2)), .fz (.int (ps.length : Int)), .ow (.dt []), .un, .un] from ?_)
  refine sq (go_for (ei_r1 (ea_cons (ev_var rfl) ea_nil) (by omega)) ?_)
  have := Nat.mul_le_mul hn hn
  refine two_outer hps (List.range ps.length) [] [] .un .un (fun i hi => List.mem_range.mp hi) ⟨by simp, by simp⟩ (by rw [List.length_range]; simp; omega) fun es x3 x4 h => ?_
  dsimp only
  unfold t_two_sides_s1
  exact ret_own2 rfl rfl ⟨ps.length, es, R2 ps, by omega, fun i j hi hj => h.2 (i, j) (allP_mem hi hj), rfl, hq⟩
/-! ### the law's orders -/
theorem ext_len (n : Nat) (l : List (List Nat)) : (l.flatMap (extR n)).length ≤ l.length * n := by
  induction l with
  | nil => simp
  | cons a r ih =>
    have h1 : (extR n a).length ≤ n := by
      unfold extR leftOf
      rw [List.length_map]
      have := List.length_filter_le (fun k => decide (k ∉ a)) (List.range n)
      rw [List.length_range] at this
      exact this
    rw [List.flatMap_cons, List.length_append, List.length_cons, Nat.add_mul, Nat.one_mul]
    omega
theorem layer_len (n : Nat) : ∀ t, (layer n t).length ≤ n ^ t
  | 0 => by simp [layer]
  | t + 1 => by
    have h1 := ext_len n (layer n t)
    have h2 := Nat.mul_le_mul_right n (layer_len n t)
    show ((layer n t).flatMap (extR n)).length ≤ n ^ t * n
    omega
theorem pow_le {n t : Nat} (hn : n ≤ 5) (ht : t ≤ 5) : n ^ t ≤ 3125 := by
  have h1 : n ^ t ≤ 5 ^ t := Nat.pow_le_pow_left hn t
  have h2 : 5 ^ t ≤ 5 ^ 5 := Nat.pow_le_pow_right (by omega) ht
  have : (5 : Nat) ^ 5 = 3125 := by decide
  omega
def tN (o : List Nat) : D := .tup (nI o)
def spOrders : FS := fun as q => ∃ n : Nat, n ≤ 5 ∧ as = [.d (.int (n : Int))] ∧ q (.lst ((layer n n).map tN)) .nw ∧ q (.lst ((layer n n).map tN)) .fz
theorem notin_nI (k : Nat) (o : List Nat) : bNotIn (.int (k : Int)) (tN o) = some (.bl (!decide (k ∈ o)), .fz) := by
  have e : tN o = tI (o.map fun (x : Nat) => (x : Int)) := by unfold tN tI nI; rw [List.map_map]; rfl
  rw [e, notin_tI]
  have : decide ((k : Int) ∈ o.map fun (x : Nat) => (x : Int)) = decide (k ∈ o) := decide_eq_decide.mpr ⟨fun h => by
    obtain ⟨y, hy, e⟩ := List.mem_map.mp h
    have : y = k := by omega
    rw [← this]; exact hy, fun h => List.mem_map.mpr ⟨k, h, rfl⟩⟩
  rw [this]
theorem ord_inner {n : Nat} (hn : n ≤ 5) {P : PEnds} {x1 x2 : Slot} : ∀ (rows : List (List Nat)) (acc : List (List Nat)) (x4 : Slot), acc.length + rows.length * n ≤ 50000 → (∀ r ∈ rows, r.length ≤ 10) → (∀ x4, P.nx [.fz (.int (n : Int)), x1, x2, .ow (.lst ((acc ++ rows.flatMap (extR n)).map tN)), x4, .un]) →
    wLoop (wgName 4) t__law_orders_f1 P (rows.map tN) [.fz (.int (n : Int)), x1, x2, .ow (.lst (acc.map tN)), x4, .un]
  | [], acc, x4, _, _, h => by
    have := h x4
    rw [List.flatMap_nil, List.append_nil] at this
    exact this
  | row :: rows, acc, x4, hl, hr, h => by
    refine (show t__law_orders_f1 ⟨wLoop (wgName 4) t__law_orders_f1 P (rows.map tN), P.rt, P.nx, wLoop (wgName 4) t__law_orders_f1 P (rows.map tN)⟩ [.fz (.int (n : Int)), x1, x2, .ow (.lst (acc.map tN)), .fz (tN row), .un] from ?_)
    unfold t__law_orders_f1
    have hrl := hr row (List.mem_cons_self ..)
    rw [List.length_cons, Nat.add_mul, Nat.one_mul] at hl
    have e := ev_comp1 (ρ := [.fz (.int (n : Int)), x1, x2, .ow (.lst (acc.map tN)), .fz (tN row), .un]) (wi := wiR1 (wCons (wVar 0) wNil)) (i := 5) (tt := wTest (wBin bNotIn (wVar 5) (wVar 4))) (t := t__law_orders_c1) (k := .fz) (fun (k : Nat) => .int (k : Int)) (fun k => decide (k ∉ row)) (fun k => tN (row ++ [k])) (List.range n) (ei_r1 (ea_cons (ev_var rfl) ea_nil) (by omega)) (by rw [List.length_range]; simp only [LIM]; omega)
      (fun k _ => by
        have := et_test (ρ := [.fz (.int (n : Int)), x1, x2, .ow (.lst (acc.map tN)), .fz (tN row), .fz (.int (k : Int))]) (ev_bin (ev_var (i := 5) rfl) (ev_var (i := 4) rfl) (notin_nI k row))
        have e : decide (k ∉ row) = !decide (k ∈ row) := by simp
        rw [e]; exact this)
      (fun k _ _ => by
        unfold t__law_orders_c1
        refine ev_bin (ev_var (d := .tup (nI row)) rfl) (ev_tup (ea_consF (ev_var rfl) ea_nil)) ?_
        rw [bAdd_t, if_pos (by unfold nI; rw [List.length_map]; simp only [LIM, List.length_cons, List.length_nil]; omega)]
        unfold tN nI
        rw [List.map_append]; rfl)
    have ee : ((List.range n).filter fun k => decide (k ∉ row)).map (fun k => tN (row ++ [k])) = (extR n row).map tN := by
      unfold extR leftOf; rw [List.map_map]; rfl
    rw [ee] at e
    have hel : (extR n row).length ≤ n := by
      have := ext_len n [row]
      rw [List.flatMap_cons, List.flatMap_nil, List.append_nil, List.length_singleton, Nat.one_mul] at this
      exact this
    refine go_asgN (ev_bin (ev_own (i := 3) rfl) e (by rw [bAdd_l, if_pos (by rw [List.length_map, List.length_map]; simp only [LIM]; omega), ← List.map_append])) ?_
    refine ord_inner hn rows (acc ++ extR n row) _ (by rw [List.length_append]; omega) (fun r hr' => hr r (List.mem_cons_of_mem _ hr')) fun x4' => ?_
    have := h x4'
    rw [List.flatMap_cons, ← List.append_assoc] at this
    exact this
theorem layer_rows {n : Nat} : ∀ (t : Nat) (r : List Nat), r ∈ layer n t → r.length = t
  | 0, r, h => by rw [List.mem_singleton.mp h]; rfl
  | t + 1, r, h => by
    obtain ⟨r2, h1, h2⟩ := List.mem_flatMap.mp h
    obtain ⟨k, _, rfl⟩ := List.mem_map.mp h2
    rw [List.length_append, List.length_singleton, layer_rows t r2 h1]
theorem ord_outer {n : Nat} (hn : n ≤ 5) {P : PEnds} : ∀ (m t : Nat) (xs : List D) (x1 x2 x3 x4 : Slot), xs.length = m → t + m ≤ n → (x1 = .ow (.lst ((layer n t).map tN)) ∨ x1 = .fz (.lst ((layer n t).map tN))) →
    (∀ x1 x2 x3 x4, (x1 = .ow (.lst ((layer n (t + m)).map tN)) ∨ x1 = .fz (.lst ((layer n (t + m)).map tN))) → P.nx [.fz (.int (n : Int)), x1, x2, x3, x4, .un]) →
    wLoop (wgName 2) t__law_orders_f2 P xs [.fz (.int (n : Int)), x1, x2, x3, x4, .un]
  | 0, t, [], x1, x2, x3, x4, _, _, hx, h => h x1 x2 x3 x4 hx
  | m + 1, t, x :: xs, x1, x2, x3, x4, hl, ht, hx, h => by
    refine (show t__law_orders_f2 ⟨wLoop (wgName 2) t__law_orders_f2 P xs, P.rt, P.nx, wLoop (wgName 2) t__law_orders_f2 P xs⟩ [.fz (.int (n : Int)), x1, .fz x, x3, x4, .un] from ?_)
    unfold t__law_orders_f2
    refine sq_asgN (ev_lst ea_nil) ?_
    refine (show wSeq _ _ _ [.fz (.int (n : Int)), x1, .fz x, .ow (.lst (([] : List (List Nat)).map tN)), x4, .un] from ?_)
    have hll := layer_len n t
    have hpw := pow_le (t := t) hn (by omega)
    have hm5 : (layer n t).length * n ≤ 3125 * 5 := Nat.mul_le_mul (by omega) hn
    have rest : ∀ y1, wLoop (wgName 4) t__law_orders_f1 ⟨wAsg 1 (wVar 3) ⟨wLoop (wgName 2) t__law_orders_f2 P xs, P.rt, P.nx, wLoop (wgName 2) t__law_orders_f2 P xs⟩, P.rt, P.nx, wLoop (wgName 2) t__law_orders_f2 P xs⟩ ((layer n t).map tN) [.fz (.int (n : Int)), y1, .fz x, .ow (.lst (([] : List (List Nat)).map tN)), x4, .un] := fun y1 => by
      refine ord_inner hn (layer n t) [] x4 (by simp; omega) (fun r hr => by rw [layer_rows t r hr]; omega) fun x4' => ?_
      rw [List.nil_append]
      have key := ord_outer hn m (t + 1) xs (.fz (.lst ((layer n (t + 1)).map tN))) (.fz x) (.fz (.lst ((layer n (t + 1)).map tN))) x4' (by simpa using hl) (by omega) (.inr rfl) (P := P) (by
        have : t + 1 + m = t + (m + 1) := by omega
        rw [this]; exact h)
      exact key
    rcases hx with rfl | rfl
    · exact sq (go_forO rfl (rest _))
    · exact sq (go_for (ei_lstF (ev_var rfl)) (rest _))
theorem p__law_orders (as : List VL.A) (q : D → Kd → Prop) (h : spOrders as q) : as.length = 1 ∧ t__law_orders ⟨fun _ => q .non .fz, q, fun _ => False, fun _ => False⟩ (rho0 6 as) := by
  obtain ⟨n, hn, rfl, hq⟩ := h
  refine ⟨rfl, ?_⟩
  unfold t__law_orders
  refine (show wSeq _ _ _ [.fz (.int (n : Int)), .un, .un, .un, .un, .un] from ?_)
  refine sq_asgN (ev_lst (ea_consF (ev_tup ea_nil) ea_nil)) ?_
  refine (show wSeq _ _ _ [.fz (.int (n : Int)), .ow (.lst ((layer n 0).map tN)), .un, .un, .un, .un] from ?_)
  refine sq (go_for (ei_r1 (ea_cons (ev_var rfl) ea_nil) (by omega)) ?_)
  refine ord_outer hn n 0 _ _ .un .un .un (by simp) (by omega) (.inl rfl) fun x1 x2 x3 x4 hx => ?_
  rw [Nat.zero_add] at hx
  dsimp only
  rcases hx with rfl | rfl
  · exact go_ret (ev_own rfl) hq.1
  · exact go_ret (ev_var rfl) hq.2
end K15

namespace K15
open PySem PySem.Spec PyProof.Rows L2 VL
/-! ### the law's pairs, what is due -/
def pD (p : Nat × Nat) : D := .tup [.int (p.1 : Int), .int (p.2 : Int)]
theorem pD_inj (a b : Nat × Nat) (h : pD a = pD b) : a = b := by
  unfold pD at h
  injection h with h
  injection h with h1 h2
  injection h2 with h2 _
  injection h1 with h1
  injection h2 with h2
  exact Prod.ext (by omega) (by omega)
theorem gd_pD (p : Nat × Nat) : Gd 3 (pD p) := .tup fun z hz => by
  simp only [List.mem_cons, List.not_mem_nil, or_false] at hz
  rcases hz with rfl | rfl <;> exact .int
theorem rowP_len (n i : Nat) : (rowP n i).length ≤ n := by unfold rowP; rw [List.length_map, List.length_range]; omega
theorem pairs_len {n : Nat} (hn : n ≤ 6) : (pairsN n).length ≤ 36 := by
  have : ∀ l : List Nat, (l.flatMap (rowP n)).length ≤ l.length * n := fun l => by
    induction l with
    | nil => simp
    | cons a r ih =>
      have := rowP_len n a
      rw [List.flatMap_cons, List.length_append, List.length_cons, Nat.add_mul, Nat.one_mul]; omega
  have h := this (List.range n)
  rw [List.length_range] at h
  have h2 := Nat.mul_le_mul hn hn
  have e : (List.range n).flatMap (rowP n) = pairsN n := rfl
  rw [e] at h
  omega
def spPairs : FS := fun as q => ∃ n : Nat, n ≤ 6 ∧ as = [.d (.int (n : Int))] ∧ q (.lst ((pairsN n).map pD)) .nw
theorem pairs_loop {n : Nat} (hn : n ≤ 6) {P : PEnds} : ∀ (is : List Nat) (acc : List (Nat × Nat)) (x2 : Slot), acc.length + is.length * n ≤ 1000 → (∀ i ∈ is, i < n) → (∀ x2, P.nx [.fz (.int (n : Int)), .ow (.lst ((acc ++ is.flatMap (rowP n)).map pD)), x2, .un]) →
    wLoop (wgName 2) t__law_pairs_f1 P (nI is) [.fz (.int (n : Int)), .ow (.lst (acc.map pD)), x2, .un]
  | [], acc, x2, _, _, h => by
    have := h x2
    rw [List.flatMap_nil, List.append_nil] at this
    exact this
  | i :: is, acc, x2, hl, hi, h => by
    have hin := hi i (List.mem_cons_self ..)
    refine (show t__law_pairs_f1 ⟨wLoop (wgName 2) t__law_pairs_f1 P (nI is), P.rt, P.nx, wLoop (wgName 2) t__law_pairs_f1 P (nI is)⟩ [.fz (.int (n : Int)), .ow (.lst (acc.map pD)), .fz (.int (i : Int)), .un] from ?_)
    unfold t__law_pairs_f1
    rw [List.length_cons, Nat.add_mul, Nat.one_mul] at hl
    have hr := rowP_len n i
    have er : (List.range (n - (i + 1))).map (fun (k : Nat) => D.int (((i + 1 : Nat) : Int) + (k : Int))) = (List.range (n - (i + 1))).map fun (k : Nat) => D.int ((i + 1 + k : Nat) : Int) := List.map_congr_left fun k _ => by
      show D.int _ = .int _
      congr 1
    have ei := ei_r2 (ρ := [.fz (.int (n : Int)), .ow (.lst (acc.map pD)), .fz (.int (i : Int)), .un]) (a := ((i + 1 : Nat) : Int)) (n := n - (i + 1)) (b := (n : Int)) (ea_cons (ev_bin (ev_var (i := 2) rfl) (ev_con (d := .int 1)) (by
      have : ((i + 1 : Nat) : Int) = (i : Int) + 1 := by omega
      rw [this]; exact bAdd_i)) (ea_cons (ev_var (i := 0) rfl) ea_nil)) (by omega) (by omega) (by omega)
    rw [er] at ei
    have e := ev_comp1 (ρ := [.fz (.int (n : Int)), .ow (.lst (acc.map pD)), .fz (.int (i : Int)), .un]) (i := 3) (tt := wYes) (t := t__law_pairs_c1) (k := .fz) (fun (k : Nat) => D.int ((i + 1 + k : Nat) : Int)) (fun _ => true) (fun k => pD (i, i + 1 + k)) (List.range (n - (i + 1))) ei (by rw [List.length_range]; simp only [LIM]; omega) (fun _ _ => et_yes) (fun k _ _ => by
      unfold t__law_pairs_c1
      exact ev_tup (ea_consF (ev_var rfl) (ea_consF (ev_var rfl) ea_nil)))
    rw [List.filter_eq_self.mpr (by simp)] at e
    have ee : (List.range (n - (i + 1))).map (fun k => pD (i, i + 1 + k)) = (rowP n i).map pD := by unfold rowP; rw [List.map_map]; rfl
    rw [ee] at e
    refine go_asgN (ev_bin (ev_own (i := 1) rfl) e (by rw [bAdd_l, if_pos (by rw [List.length_map, List.length_map]; simp only [LIM]; omega), ← List.map_append])) ?_
    refine pairs_loop hn is (acc ++ rowP n i) _ (by rw [List.length_append]; omega) (fun j hj => hi j (List.mem_cons_of_mem _ hj)) fun x2' => ?_
    have := h x2'
    rw [List.flatMap_cons, ← List.append_assoc] at this
    exact this
theorem p__law_pairs (as : List VL.A) (q : D → Kd → Prop) (h : spPairs as q) : as.length = 1 ∧ t__law_pairs ⟨fun _ => q .non .fz, q, fun _ => False, fun _ => False⟩ (rho0 4 as) := by
  obtain ⟨n, hn, rfl, hq⟩ := h
  refine ⟨rfl, ?_⟩
  unfold t__law_pairs
  refine (show wSeq _ _ _ [.fz (.int (n : Int)), .un, .un, .un] from ?_)
  refine sq_asgN (ev_lst ea_nil) ?_
  refine (show wSeq _ _ _ [.fz (.int (n : Int)), .ow (.lst (([] : List (Nat × Nat)).map pD)), .un, .un] from ?_)
  refine sq (go_for (ei_r1 (n := n) (ea_cons (ev_var rfl) ea_nil) (by omega)) ?_)
  have := Nat.mul_le_mul hn hn
  refine pairs_loop hn (List.range n) [] .un (by rw [List.length_range]; simp; omega) (fun i hi => List.mem_range.mp hi) fun x2 => ?_
  dsimp only
  exact go_ret (ev_own rfl) hq
def Knows (cs : List (Nat × Nat)) (n : Nat) (R : Rl) : Prop := ∀ i j, i < n → j < n → i ≠ j → (R i j = true ↔ (i, j) ∈ cs)
def goodB (cs : List (Nat × Nat)) (n : Nat) (o : List Nat) : Bool := (List.range (n - 1)).all fun k => decide ((o.getD k 0, o.getD (k + 1) 0) ∈ cs)
theorem good_pw {cs : List (Nat × Nat)} {n : Nat} {R : Rl} (hR : Pre R) (hk : Knows cs n R) {o : List Nat} (hl : o.length = n) (hn : o.Nodup) (hlt : ∀ x ∈ o, x < n) : goodB cs n o = true ↔ PW R o := by
  have hg : ∀ i (h : i < o.length), o.getD i 0 = o[i] := fun i h => by rw [List.getD_eq_getElem?_getD, List.getElem?_eq_getElem h]; rfl
  have hne : ∀ i (h : i + 1 < o.length), o[i] ≠ o[i + 1] := fun i h => List.pairwise_iff_getElem.mp hn i (i + 1) (by omega) h (by omega)
  unfold goodB PW
  rw [List.all_eq_true, List.pairwise_iff_getElem]
  constructor
  · intro h
    have step : ∀ k (h1 : k + 1 < o.length), R o[k] o[k + 1] = true := fun k h1 => by
      have := h k (List.mem_range.mpr (by omega))
      rw [decide_eq_true_iff, hg k (by omega), hg (k + 1) h1] at this
      exact (hk _ _ (hlt _ (List.getElem_mem _)) (hlt _ (List.getElem_mem _)) (hne k h1)).mpr this
    have far : ∀ d i (h1 : i + d < o.length), R o[i] o[i + d] = true := fun d => by
      induction d with
      | zero => intro i h1; exact hR.rf _
      | succ d ih => intro i h1; exact hR.tr _ _ _ (ih i (by omega)) (step (i + d) h1)
    intro i j hi hj hij
    have := far (j - i) i (by omega)
    have e : i + (j - i) = j := by omega
    simp only [e] at this
    exact this
  · intro h k hk'
    have hk' := List.mem_range.mp hk'
    rw [decide_eq_true_iff, hg k (by omega), hg (k + 1) (by omega)]
    exact (hk _ _ (hlt _ (List.getElem_mem _)) (hlt _ (List.getElem_mem _)) (hne k (by omega))).mp (h k (k + 1) (by omega) (by omega) (by omega))
def spDue : FS := fun as q => ∃ (n : Nat) (cs : List (Nat × Nat)) (R : Rl), 1 ≤ n ∧ n ≤ 5 ∧ Pre R ∧ Knows cs n R ∧ as = [.d (.int (n : Int)), .d (.lst (cs.map pD))] ∧ q (toldD R n) .fz
theorem p__law_due (as : List VL.A) (q : D → Kd → Prop) (h : spDue as q) : as.length = 2 ∧ t__law_due spOrders spPairs ⟨fun _ => q .non .fz, q, fun _ => False, fun _ => False⟩ (rho0 8 as) := by
  obtain ⟨n, cs, R, hn1, hn, hR, hk, rfl, hq⟩ := h
  refine ⟨rfl, ?_⟩
  unfold t__law_due
  refine (show wSeq _ _ _ [.fz (.int (n : Int)), .fz (.lst (cs.map pD)), .un, .un, .un, .un, .un, .un] from ?_)
  have hll := layer_len n n
  have hpw := pow_le (t := n) hn hn
  have facts : ∀ o ∈ layer n n, o.length = n ∧ o.Nodup ∧ ∀ x ∈ o, x < n := fun o ho => by
    rw [layer_top] at ho
    obtain ⟨s, rfl, h1, h2, h3⟩ := below_mem n n [] o ho
    exact ⟨h1, h2, fun x hx => (left_mem.mp (h3 x hx)).1⟩
  have e := ev_comp1 (ρ := [.fz (.int (n : Int)), .fz (.lst (cs.map pD)), .un, .un, .un, .un, .un, .un]) (wi := wiO (wCall spOrders (xCons (wVar 0) xNil))) (i := 3) (tt := t__law_due_i2) (t := wVar 3) (k := .fz) tN (goodB cs n) tN (layer n n)
    (ei_call (ex_cons (ev_var (i := 0) rfl) ex_nil) fun q hq => ⟨n, hn, rfl, hq _, hq _⟩) (by simp only [LIM]; omega)
    (fun o ho => by
      obtain ⟨h1, h2, h3⟩ := facts o ho
      unfold t__law_due_i2
      have e2 := ev_comp1 (ρ := [.fz (.int (n : Int)), .fz (.lst (cs.map pD)), .un, .fz (tN o), .un, .un, .un, .un]) (wi := wiR1 (wCons (wBin bSub (wVar 0) (wCon (.int 1))) wNil)) (i := 4) (tt := t__law_due_i1) (t := wVar 4) (k := .fz) (fun (k : Nat) => .int (k : Int)) (fun k => !decide ((o.getD k 0, o.getD (k + 1) 0) ∈ cs)) (fun (k : Nat) => .int (k : Int)) (List.range (n - 1))
        (ei_r1 (n := n - 1) (ea_cons (ev_bin (ev_var (i := 0) rfl) (ev_con (d := .int 1)) (by
          have : ((n - 1 : Nat) : Int) = (n : Int) - 1 := by omega
          rw [this]; exact bSub_i)) ea_nil) (by omega)) (by rw [List.length_range]; simp only [LIM]; omega)
        (fun k hk' => by
          have hk' := List.mem_range.mp hk'
          have ho1 : (nI o)[k]? = some (.int ((o.getD k 0 : Nat) : Int)) := by
            unfold nI
            rw [List.getElem?_map, List.getElem?_eq_getElem (by omega), List.getD_eq_getElem?_getD, List.getElem?_eq_getElem (by omega)]; rfl
          have ho2 : (nI o)[k + 1]? = some (.int ((o.getD (k + 1) 0 : Nat) : Int)) := by
            unfold nI
            rw [List.getElem?_map, List.getElem?_eq_getElem (by omega), List.getD_eq_getElem?_getD, List.getElem?_eq_getElem (by omega)]; rfl
          unfold t__law_due_i1
          refine et_test (ev_bin (ev_tup (ea_consF (ev_bin (d := .tup (nI o)) (ev_var rfl) (ev_var rfl) (ix_natT ho1)) (ea_consF (ev_bin (d := .tup (nI o)) (e := .int ((k + 1 : Nat) : Int)) (ev_var rfl) (ev_bin (ev_var rfl) ev_con (by
            have : ((k + 1 : Nat) : Int) = (k : Int) + 1 := by omega
            rw [this]; exact bAdd_i)) (ix_natT ho2)) ea_nil))) (ev_var rfl) (notin_gd (f := pD) gd_pD (by decide) pD_inj (o.getD k 0, o.getD (k + 1) 0) cs)))
        (fun k _ _ => ev_var rfl)
      refine et_test (ev_bin (kz := .fz) e2 (ev_lst ea_nil) ?_)
      refine (bEq_nil (okL_nI ((List.range (n - 1)).filter fun k => !decide ((o.getD k 0, o.getD (k + 1) 0) ∈ cs)))).trans ?_
      have : decide (((List.range (n - 1)).filter fun k => !decide ((o.getD k 0, o.getD (k + 1) 0) ∈ cs)).map (fun (k : Nat) => D.int (k : Int)) = []) = goodB cs n o := by
        unfold goodB
        rw [Bool.eq_iff_iff, decide_eq_true_iff, List.map_eq_nil_iff, List.filter_eq_nil_iff, List.all_eq_true]
        exact ⟨fun h x hx => by have := h x hx; simpa using this, fun h x hx => by simpa using h x hx⟩
      exact congrArg ozB this)
    (fun o _ _ => ev_var rfl)
  refine sq_asgN e ?_
  refine (show wSeq _ _ _ [.fz (.int (n : Int)), .fz (.lst (cs.map pD)), .ow (.lst (((layer n n).filter (goodB cs n)).map tN)), .un, .un, .un, .un, .un] from ?_)
  have hp : ∀ o ∈ below n n [], goodB cs n o = true ↔ PW R o := fun o ho => by
    rw [← layer_top] at ho
    obtain ⟨h1, h2, h3⟩ := facts o ho
    exact good_pw hR hk h1 h2 h3
  have ok : okE 20 (.lst (((layer n n).filter (goodB cs n)).map tN)) = true := okL fun x hx => by
    obtain ⟨o, _, rfl⟩ := List.mem_map.mp hx
    have e : tN o = tI (o.map fun (x : Nat) => (x : Int)) := by unfold tN tI nI; rw [List.map_map]; rfl
    rw [e]; exact okE_tI
  have t1 : Et (wTest (wBin bNe (wVar 2) (wLst wNil))) [.fz (.int (n : Int)), .fz (.lst (cs.map pD)), .ow (.lst (((layer n n).filter (goodB cs n)).map tN)), .un, .un, .un, .un, .un] (!decide (((layer n n).filter (goodB cs n)).map tN = [])) := et_test (ev_bin (ev_own rfl) (ev_lst ea_nil) (bNe_nilL ok))
  unfold toldD at hq
  cases hg : greedy R n (List.range n) with
  | some g =>
    rw [hg] at hq
    have hh := good_head hR (goodB cs n) n hp hg
    rw [← layer_top] at hh
    cases hf : (layer n n).filter (goodB cs n) with
    | nil => rw [hf] at hh; cases hh
    | cons z zs =>
      rw [hf] at hh t1
      cases hh
      exact sq_ifT t1 (sq (go_ret (ev_tup (ea_consF ev_con (ea_consF (d := .tup (nI g)) (k := .fz) (ev_bin (ev_own rfl) ev_con (ix_natL (k := 0) rfl)) ea_nil))) hq))
  | none =>
    rw [hg] at hq
    obtain ⟨h1, h2⟩ := no_good hR (goodB cs n) n hp hg
    rw [← layer_top] at h1
    rw [h1] at t1 ⊢
    refine sq_skip t1 ?_
    unfold t__law_due_s1
    obtain ⟨u, hu⟩ := unlike_some hR h2
    have e3 := ev_comp2 (ρ := [.fz (.int (n : Int)), .fz (.lst (cs.map pD)), .ow (.lst (([] : List (List Nat)).map tN)), .un, .un, .un, .un, .un]) (wi := wiO (wCall spPairs (xCons (wVar 0) xNil))) (i := 6) (j := 7) (tt := t__law_due_i3) (t := t__law_due_c1) (k := .fz) (fun p : Nat × Nat => .int (p.1 : Int)) (fun p => .int (p.2 : Int)) (unl R) pD (pairsN n)
      (ei_call (ex_cons (ev_var (i := 0) rfl) ex_nil) fun q hq => ⟨n, by omega, rfl, hq _⟩) (by have := pairs_len (n := n) (by omega); simp only [LIM]; omega)
      (fun p hp' => by
        obtain ⟨i, j⟩ := p
        have hij := pairs_mem.mp hp'
        unfold t__law_due_i3
        have k1 : (!decide ((i, j) ∈ cs)) = !R i j := by
          rw [Bool.eq_iff_iff, Bool.not_eq_true', Bool.not_eq_true', decide_eq_false_iff_not]
          have := hk i j (by omega) hij.2 (by omega)
          cases hRij : R i j
          · exact ⟨fun _ => rfl, fun _ hm => by have := this.mpr hm; rw [hRij] at this; cases this⟩
          · exact ⟨fun hm => absurd (this.mp hRij) hm, fun z => by cases z⟩
        have k2 : (!decide ((j, i) ∈ cs)) = !R j i := by
          rw [Bool.eq_iff_iff, Bool.not_eq_true', Bool.not_eq_true', decide_eq_false_iff_not]
          have := hk j i hij.2 (by omega) (by omega)
          cases hRij : R j i
          · exact ⟨fun _ => rfl, fun _ hm => by have := this.mpr hm; rw [hRij] at this; cases this⟩
          · exact ⟨fun hm => absurd (this.mp hRij) hm, fun z => by cases z⟩
        show Et _ _ (!R i j && !R j i)
        rw [← k1, ← k2]
        exact et_and (et_test (ev_bin (ev_tup (ea_consF (ev_var rfl) (ea_consF (ev_var rfl) ea_nil))) (ev_var rfl) (notin_gd (f := pD) gd_pD (by decide) pD_inj (i, j) cs))) fun _ => et_test (ev_bin (ev_tup (ea_consF (ev_var rfl) (ea_consF (ev_var rfl) ea_nil))) (ev_var rfl) (notin_gd (f := pD) gd_pD (by decide) pD_inj (j, i) cs)))
      (fun p _ _ => by
        unfold t__law_due_c1
        exact ev_tup (ea_consF (ev_var rfl) (ea_consF (ev_var rfl) ea_nil)))
    refine sq_asgN e3 ?_
    have hf : ∃ zs, (pairsN n).filter (unl R) = u :: zs := by
      have : ((pairsN n).filter (unl R)).head? = some u := by rw [List.head?_filter]; exact hu
      cases hfl : (pairsN n).filter (unl R) with
      | nil => rw [hfl] at this; cases this
      | cons z zs => rw [hfl] at this; cases this; exact ⟨zs, rfl⟩
    obtain ⟨zs, hf⟩ := hf
    rw [hf]
    refine (show wRet _ _ [.fz (.int (n : Int)), .fz (.lst (cs.map pD)), .ow (.lst (([] : List (List Nat)).map tN)), .un, .un, .ow (.lst ((u :: zs).map pD)), .un, .un] from ?_)
    have e5 : Ev (wBin bSubs (wVar 5) (wCon (.int 0))) [.fz (.int (n : Int)), .fz (.lst (cs.map pD)), .ow (.lst (([] : List (List Nat)).map tN)), .un, .un, .ow (.lst ((u :: zs).map pD)), .un, .un] (.tup [.int (u.1 : Int), .int (u.2 : Int)]) .fz := ev_bin (ev_own rfl) ev_con (ix_natL (k := 0) rfl)
    rw [hu] at hq
    exact go_ret (ev_tup (ea_consF ev_con (ea_consF (ev_bin (z := .int (u.1 : Int)) (kz := .fz) e5 ev_con (ix_natT (k := 0) rfl)) (ea_consF (ev_bin (z := .int (u.2 : Int)) (kz := .fz) e5 ev_con (ix_natT (k := 1) rfl)) ea_nil)))) hq
end K15

namespace K15
open PySem PySem.Spec PyProof.Rows L2 VL
/-! ### dicts of first numbers -/
def spSameI : FS := fun as q => ∃ (ns ms : List Int) (f g : Int → Int), as = [.d (.dk (dI ns f)), .d (.dk (dI ms g))] ∧ ns.Nodup ∧ ms.Nodup ∧ ms.length ≤ 50 ∧ (∀ m, m ∈ ns ↔ m ∈ ms) ∧ (∀ m ∈ ms, f m = g m) ∧ q (.bl true) .fz
theorem keys1 (f : Int → Int) (ps : List Int) : (dI ps f).map (·.1) = ps.map Sum.inl := by unfold dI; rw [List.map_map]; rfl
theorem p__law_same (as : List VL.A) (q : D → Kd → Prop) (h : spSameI as q) : as.length = 2 ∧ t__law_same ⟨fun _ => q .non .fz, q, fun _ => False, fun _ => False⟩ (rho0 3 as) := by
  obtain ⟨ns, ms, f, g, rfl, hn, hm, hl, he, hv, hq⟩ := h
  refine ⟨rfl, ?_⟩
  unfold t__law_same
  have pm : ns.Perm ms := (List.perm_ext_iff_of_nodup hn hm).mpr he
  have gd : Gd 2 (.lst (isort (ms.map .int))) := .lst fun x hx => by
    obtain ⟨n, _, rfl⟩ := List.mem_map.mp ((isort_perm _).mem_iff.mp hx)
    exact .int
  have isD : isB "dict" "dict" = true := by decide +kernel
  have e1 : Ev (wIs "dict" (wVar 0)) [.fz (.dk (dI ns f)), .fz (.dk (dI ms g)), .un] (.bl (isB "dict" "dict")) .fz := ev_is (a := "dict") (ev_var rfl) rfl
  have e2 := ev_bin (f := bEq) (kz := .fz) (z := .bl true) (ev_sortKI (ρ := [.fz (.dk (dI ns f)), .fz (.dk (dI ms g)), .un]) (t := wVar 0) (ev_var rfl) (keys1 f ns) (by have := pm.length_eq; omega)) (ev_sortKI (t := wVar 1) (ev_var rfl) (keys1 g ms) (by omega)) (by rw [isort_ints pm]; exact bEq_self gd)
  have e3 := ev_comp1 (k := .fz) (i := 2) (tt := t__law_same_i1) (t := wVar 2) (wi := wiK 1) (ρ := [.fz (.dk (dI ns f)), .fz (.dk (dI ms g)), .un]) D.int (fun _ => false) D.int ms (fun Q q => ei_k (es := dI ms g) rfl _ (by rw [keys_dI]; exact q)) (by simp only [LIM]; omega)
    (fun n hn' => et_test (ev_bin (ev_bin (ev_var rfl) (ev_var rfl) (sub_dI ((he n).mpr hn'))) (ev_bin (ev_var rfl) (ev_var rfl) (sub_dI hn')) (by rw [bNe_ints, hv n hn', decide_eq_true rfl]; rfl))) (fun _ _ h => by cases h)
  rw [show ms.filter (fun _ => false) = [] from List.filter_eq_nil_iff.mpr (by simp)] at e3
  have e4 := ev_andB e1 (fun _ => ev_andB e2 (fun _ => ev_bin (f := bEq) (z := .bl true) (kz := .fz) e3 (ev_lst ea_nil) (bEq_self (n := 2) (.lst (by simp)))))
  rw [isD] at e4
  exact go_ret e4 hq
/-! ### where_in -/
def IsF (n : Nat) (p : Nat → Bool) (f : Nat) : Prop := f ≤ n ∧ (∀ k, k < n → p k = false → k < f) ∧ (f = 0 ∨ ∃ k, k < n ∧ f = k + 1 ∧ p k = false)
def IsL (n : Nat) (p : Nat → Bool) (l : Nat) : Prop := l ≤ n ∧ (∀ k, k < n → p k = false → l ≤ k) ∧ (l = n ∨ ∃ k, k < n ∧ l = k ∧ p k = false)
theorem max_ex : ∀ xs : List Nat, ∃ f, (∀ x ∈ xs, x < f) ∧ (f = 0 ∨ ∃ k ∈ xs, f = k + 1)
  | [] => ⟨0, by simp, .inl rfl⟩
  | a :: r => by
    obtain ⟨f, h1, h2⟩ := max_ex r
    by_cases c : f ≤ a
    · refine ⟨a + 1, fun x hx => ?_, .inr ⟨a, by simp, rfl⟩⟩
      rcases List.mem_cons.mp hx with rfl | hx
      · omega
      · have := h1 x hx; omega
    · refine ⟨f, fun x hx => ?_, ?_⟩
      · rcases List.mem_cons.mp hx with rfl | hx
        · omega
        · exact h1 x hx
      · rcases h2 with h2 | ⟨k, hk, e⟩
        · omega
        · exact .inr ⟨k, List.mem_cons_of_mem _ hk, e⟩
theorem min_ex' (n : Nat) : ∀ xs : List Nat, (∀ x ∈ xs, x < n) → ∃ l, l ≤ n ∧ (∀ x ∈ xs, l ≤ x) ∧ (l = n ∨ l ∈ xs)
  | [], _ => ⟨n, by omega, by simp, .inl rfl⟩
  | a :: r, h => by
    obtain ⟨l, h0, h1, h2⟩ := min_ex' n r fun x hx => h x (List.mem_cons_of_mem _ hx)
    have ha := h a (List.mem_cons_self ..)
    by_cases c : a ≤ l
    · refine ⟨a, by omega, fun x hx => ?_, .inr (by simp)⟩
      rcases List.mem_cons.mp hx with rfl | hx
      · omega
      · have := h1 x hx; omega
    · refine ⟨l, h0, fun x hx => ?_, ?_⟩
      · rcases List.mem_cons.mp hx with rfl | hx
        · omega
        · exact h1 x hx
      · rcases h2 with h2 | h2
        · exact .inl h2
        · exact .inr (List.mem_cons_of_mem _ h2)
def spWhere : FS := fun as q => ∃ (ws : List (List Int)) (seen : List Int), WsOk ws ∧ seen.length ≤ 100 ∧ as = [.d (.tup (ws.map tI)), .d (tI seen)] ∧
  ∀ f l : Nat, IsF ws.length (fun k => wth seen (at' ws k)) f → IsL ws.length (fun k => wth (at' ws k) seen) l → q (if f ≤ l then .tup [.int (f : Int), .int (l : Int)] else .non) .fz
theorem p_where_in (as : List VL.A) (q : D → Kd → Prop) (h : spWhere as q) : as.length = 2 ∧ t_where_in spWth ⟨fun _ => q .non .fz, q, fun _ => False, fun _ => False⟩ (rho0 7 as) := by
  obtain ⟨ws, seen, hw, hs, rfl, hq⟩ := h
  refine ⟨rfl, ?_⟩
  unfold t_where_in
  have hn := hw.1
  refine (show wSeq _ _ _ [.fz (.tup (ws.map tI)), .fz (tI seen), .un, .un, .un, .un, .un] from ?_)
  have e1 := ev_comp1 (ρ := [.fz (.tup (ws.map tI)), .fz (tI seen), .un, .un, .un, .un, .un]) (wi := wiR1 (wCons (wCl cLen (wCons (wVar 0) wNil)) wNil)) (i := 3) (tt := t_where_in_i1 spWth) (t := wVar 3) (k := .fz) (fun (k : Nat) => .int (k : Int)) (fun k => !wth seen (at' ws k)) (fun (k : Nat) => .int (k : Int)) (List.range ws.length)
    (ei_r1 (ea_cons (ev_lenT (ev_var rfl)) ea_nil) (by omega)) (by rw [List.length_range]; simp only [LIM]; omega)
    (fun k hk => by
      unfold t_where_in_i1
      exact et_not (et_test (ev_call (k := .fz) (ex_cons (ev_var rfl) (ex_cons (ev_bin (ev_var rfl) (ev_var rfl) (ix_natT (get_at (List.mem_range.mp hk)))) ex_nil)) fun q hq => ⟨_, _, by omega, rfl, hq⟩)))
    (fun k _ _ => ev_var rfl)
  refine sq_asgN e1 ?_
  refine (show wSeq _ _ _ [.fz (.tup (ws.map tI)), .fz (tI seen), .ow (.lst (nI ((List.range ws.length).filter fun k => !wth seen (at' ws k)))), .un, .un, .un, .un] from ?_)
  have e2 := ev_comp1 (ρ := [.fz (.tup (ws.map tI)), .fz (tI seen), .ow (.lst (nI ((List.range ws.length).filter fun k => !wth seen (at' ws k)))), .un, .un, .un, .un]) (wi := wiR1 (wCons (wCl cLen (wCons (wVar 0) wNil)) wNil)) (i := 3) (tt := t_where_in_i2 spWth) (t := wVar 3) (k := .fz) (fun (k : Nat) => .int (k : Int)) (fun k => !wth (at' ws k) seen) (fun (k : Nat) => .int (k : Int)) (List.range ws.length)
    (ei_r1 (ea_cons (ev_lenT (ev_var rfl)) ea_nil) (by omega)) (by rw [List.length_range]; simp only [LIM]; omega)
    (fun k hk => by
      unfold t_where_in_i2
      exact et_not (et_test (ev_call (k := .fz) (ex_cons (ev_bin (ev_var rfl) (ev_var rfl) (ix_natT (get_at (List.mem_range.mp hk)))) (ex_cons (ev_var rfl) ex_nil)) fun q hq => ⟨_, _, by have := at_len hw (i := k); omega, rfl, hq⟩)))
    (fun k _ _ => ev_var rfl)
  refine sq_asgN e2 ?_
  have len_le : ∀ (p : Nat → Bool), ((List.range ws.length).filter p).length ≤ 6 := fun p => by
    have := List.length_filter_le p (List.range ws.length)
    rw [List.length_range] at this
    omega
  have hA : ∀ k, k ∈ (List.range ws.length).filter (fun k => !wth seen (at' ws k)) ↔ k < ws.length ∧ wth seen (at' ws k) = false := fun k => by
    rw [List.mem_filter, List.mem_range]; simp
  have hB : ∀ k, k ∈ (List.range ws.length).filter (fun k => !wth (at' ws k) seen) ↔ k < ws.length ∧ wth (at' ws k) seen = false := fun k => by
    rw [List.mem_filter, List.mem_range]; simp
  have lA := len_le fun k => !wth seen (at' ws k)
  have lB := len_le fun k => !wth (at' ws k) seen
  generalize (List.range ws.length).filter (fun k => !wth seen (at' ws k)) = as' at *
  generalize hbs : (List.range ws.length).filter (fun k => !wth (at' ws k) seen) = bs at *
  have ebs : bs.map (fun (k : Nat) => D.int (k : Int)) = nI bs := rfl
  rw [ebs]
  refine (show wSeq _ _ _ [.fz (.tup (ws.map tI)), .fz (tI seen), .ow (.lst (nI as')), .un, .ow (.lst (nI bs)), .un, .un] from ?_)
  obtain ⟨f, hf1, hf2⟩ := max_ex as'
  obtain ⟨l, hl0, hl1, hl2⟩ := min_ex' ws.length bs fun x hx => ((hB x).mp hx).1
  have eA : nI as' = (as'.map fun (x : Nat) => (x : Int)).map D.int := by unfold nI; rw [List.map_map]; rfl
  have eB : nI bs = (bs.map fun (x : Nat) => (x : Int)).map D.int := by unfold nI; rw [List.map_map]; rfl
  have mx : cMax [.lst (.int (-1) :: nI as')] = some (.int ((f : Int) - 1), .fz) := by
    have e : (D.int (-1) :: nI as') = ((-1 : Int) :: (as'.map fun (x : Nat) => (x : Int))).map D.int := by rw [List.map_cons, eA]
    rw [e]
    refine cMax_ints ?_ fun x hx => ?_
    · rcases hf2 with rfl | ⟨k, hk, rfl⟩
      · simp
      · refine List.mem_cons_of_mem _ (List.mem_map.mpr ⟨k, hk, ?_⟩)
        omega
    · rcases List.mem_cons.mp hx with rfl | hx
      · omega
      · obtain ⟨k, hk, rfl⟩ := List.mem_map.mp hx
        have := hf1 k hk; omega
  have mn : cMin [.lst (.int (ws.length : Int) :: nI bs)] = some (.int (l : Int), .fz) := by
    have e : (D.int (ws.length : Int) :: nI bs) = ((ws.length : Int) :: (bs.map fun (x : Nat) => (x : Int))).map D.int := by rw [List.map_cons, eB]
    rw [e]
    refine cMin_ints ?_ fun x hx => ?_
    · rcases hl2 with h | h
      · rw [h]; simp
      · exact List.mem_cons_of_mem _ (List.mem_map.mpr ⟨l, h, rfl⟩)
    · rcases List.mem_cons.mp hx with rfl | hx
      · omega
      · obtain ⟨k, hk, rfl⟩ := List.mem_map.mp hx
        have := hl1 k hk; omega
  refine sq_asg (ev_bin (ev_cl (ea_cons (ev_bin (z := .lst (.int (-1) :: nI as')) (kz := .nw) (ev_lst (ea_consF (ev_un (ev_con (d := .int 1)) uNeg_i) ea_nil)) (ev_own (i := 2) rfl) (by rw [bAdd_l, if_pos (by unfold nI; rw [List.length_map]; simp only [LIM, List.length_cons, List.length_nil]; omega)]; rfl)) ea_nil) mx) ev_con bAdd_i) ?_
  refine sq_asg (ev_cl (ea_cons (ev_bin (z := .lst (.int (ws.length : Int) :: nI bs)) (kz := .nw) (ev_lst (ea_consF (ev_lenT (ev_var (i := 0) rfl)) ea_nil)) (ev_own (i := 4) rfl) (by rw [bAdd_l, if_pos (by unfold nI; rw [List.length_map]; simp only [LIM, List.length_cons, List.length_nil]; omega)]; rfl)) ea_nil) mn) ?_
  have ef : (f : Int) - 1 + 1 = (f : Int) := by omega
  rw [ef]
  refine (show wRet _ _ [.fz (.tup (ws.map tI)), .fz (tI seen), .ow (.lst (nI as')), .un, .ow (.lst (nI bs)), .fz (.int (f : Int)), .fz (.int (l : Int))] from ?_)
  have key := hq f l ⟨by
    rcases hf2 with rfl | ⟨k, hk, rfl⟩
    · omega
    · have := ((hA k).mp hk).1; omega, fun k h1 h2 => hf1 k ((hA k).mpr ⟨h1, h2⟩), by
    rcases hf2 with rfl | ⟨k, hk, rfl⟩
    · exact .inl rfl
    · exact .inr ⟨k, ((hA k).mp hk).1, rfl, ((hA k).mp hk).2⟩⟩ ⟨hl0, fun k h1 h2 => hl1 k ((hB k).mpr ⟨h1, h2⟩), by
    rcases hl2 with h | h
    · exact .inl h
    · exact .inr ⟨l, ((hB l).mp h).1, rfl, ((hB l).mp h).2⟩⟩
  by_cases c : f ≤ l
  · rw [if_pos c] at key
    exact go_ret (ev_ifT (et_test (b := true) (ev_bin (ev_var rfl) (ev_var rfl) (by rw [i_le, decide_eq_true (by omega)]))) (ev_tup (ea_consF (ev_var rfl) (ea_consF (ev_var rfl) ea_nil)))) key
  · rw [if_neg c] at key
    exact go_ret (ev_ifF (et_test (b := false) (ev_bin (ev_var rfl) (ev_var rfl) (by rw [i_le, decide_eq_false (by omega)]))) ev_con) key
/-! ### wear_between, steps_of_wear -/
def spBetween : FS := fun as q => ∃ a b : List Int, b.length ≤ 1000 ∧ as = [.d (tI a), .d (tI b)] ∧ q (.tup [tI a, tI (b.filter fun x => !decide (x ∈ a))]) .fz
theorem p_wear_between (as : List VL.A) (q : D → Kd → Prop) (h : spBetween as q) : as.length = 2 ∧ t_wear_between ⟨fun _ => q .non .fz, q, fun _ => False, fun _ => False⟩ (rho0 3 as) := by
  obtain ⟨a, b, hb, rfl, hq⟩ := h
  refine ⟨rfl, ?_⟩
  unfold t_wear_between
  refine (show wRet _ _ [.fz (tI a), .fz (tI b), .un] from ?_)
  have e := ev_comp1 (ρ := [.fz (tI a), .fz (tI b), .un]) (wi := wiO (wVar 1)) (i := 2) (tt := wTest (wBin bNotIn (wVar 2) (wVar 0))) (t := wVar 2) (k := .fz) D.int (fun x => !decide (x ∈ a)) D.int b (ei_tup (ev_var rfl)) (by simp only [LIM]; omega) (fun x _ => et_test (ev_bin (ev_var rfl) (ev_var rfl) (notin_tI x a))) (fun x _ _ => ev_var rfl)
  exact go_ret (ev_tup (ea_consF (ev_var rfl) (ea_consF (ev_cl (ea_cons e ea_nil) cTup_l) ea_nil))) hq
def lens (ws : List (List Int)) : List Int := ws.map fun w => (w.length : Int)
def diffs (ws : List (List Int)) : List Int := ((0 :: lens ws).zip (lens ws)).map fun p => p.2 - p.1
def spSteps : FS := fun as q => ∃ ws : List (List Int), WsOk ws ∧ as = [.d (.tup (ws.map tI))] ∧ q (tI (diffs ws)) .fz
theorem p_steps_of_wear (as : List VL.A) (q : D → Kd → Prop) (h : spSteps as q) : as.length = 1 ∧ t_steps_of_wear ⟨fun _ => q .non .fz, q, fun _ => False, fun _ => False⟩ (rho0 5 as) := by
  obtain ⟨ws, hw, rfl, hq⟩ := h
  refine ⟨rfl, ?_⟩
  unfold t_steps_of_wear
  have hn := hw.1
  refine (show wSeq _ _ _ [.fz (.tup (ws.map tI)), .un, .un, .un, .un] from ?_)
  have e := ev_comp1 (ρ := [.fz (.tup (ws.map tI)), .un, .un, .un, .un]) (wi := wiO (wVar 0)) (i := 2) (tt := wYes) (t := wCl cLen (wCons (wVar 2) wNil)) (k := .fz) tI (fun _ => true) (fun w => .int (w.length : Int)) ws (ei_tup (ev_var rfl)) (by simp only [LIM]; omega) (fun _ _ => et_yes) (fun w _ _ => by
    have := ev_cl (ρ := [.fz (.tup (ws.map tI)), .un, .fz (tI w), .un, .un]) (ea_cons (ev_var (i := 2) (d := .tup (w.map .int)) rfl) ea_nil) cLen_t
    rw [List.length_map] at this
    exact this)
  rw [List.filter_eq_self.mpr (by simp)] at e
  have el : ws.map (fun w => D.int (w.length : Int)) = (lens ws).map .int := by unfold lens; rw [List.map_map]; rfl
  rw [el] at e
  have hll : (lens ws).length ≤ 6 := by unfold lens; rw [List.length_map]; exact hn
  refine sq_asgN (ev_bin (z := .lst ((0 :: lens ws).map .int)) (kz := .nw) (ev_lst (ea_consF (ev_con (d := .int 0)) ea_nil)) e (by rw [bAdd_l, if_pos (by rw [List.length_map]; simp only [LIM, List.length_cons, List.length_nil]; omega)]; rfl)) ?_
  refine (show wRet _ _ [.fz (.tup (ws.map tI)), .ow (.lst ((0 :: lens ws).map .int)), .un, .un, .un] from ?_)
  have ez : Ei (wiZipO (wVar 1) (wSlice (wVar 1) (wPSome (wCon (.int 1))) wPNone)) [.fz (.tup (ws.map tI)), .ow (.lst ((0 :: lens ws).map .int)), .un, .un, .un] (((0 :: lens ws).zip (lens ws)).map fun p => .tup [.int p.1, .int p.2]) := fun Q q => by
    refine (ea_cons (ev_own (i := 1) rfl) (ea_cons (ev_sl1 (lo := none) (m := 0) (ev_own (i := 1) rfl) (slL_from (k := 1))) ea_nil)) _ ?_
    show Q (zipT ((0 :: lens ws).map .int) (((0 :: lens ws).map .int).drop 1)) _
    have : zipT ((0 :: lens ws).map .int) (((0 :: lens ws).map .int).drop 1) = ((0 :: lens ws).zip (lens ws)).map fun p => .tup [.int p.1, .int p.2] := by
      unfold zipT
      rw [List.map_cons, List.drop_succ_cons, List.drop_zero, ← List.map_cons, List.zip_map, List.map_map]
      rfl
    rw [this]; exact q
  have e2 := ev_comp2 (k := .fz) (i := 3) (j := 4) (tt := wYes) (t := wBin bSub (wVar 4) (wVar 3)) (fun p : Int × Int => .int p.1) (fun p => .int p.2) (fun _ => true) (fun p => .int (p.2 - p.1)) ((0 :: lens ws).zip (lens ws)) ez (by rw [List.length_zip]; simp only [LIM]; omega) (fun _ _ => et_yes) (fun p _ _ => ev_bin (ev_var rfl) (ev_var rfl) bSub_i)
  rw [List.filter_eq_self.mpr (by simp)] at e2
  have ed : ((0 :: lens ws).zip (lens ws)).map (fun p => D.int (p.2 - p.1)) = (diffs ws).map .int := by unfold diffs; rw [List.map_map]; rfl
  rw [ed] at e2
  exact go_ret (ev_cl (ea_cons e2 ea_nil) cTup_l) hq
end K15

namespace K15
open PySem PySem.Spec PyProof.Rows L2 VL
/-! ### first_gone -/
def IsFst (ws : List (List Int)) (p v : Int) : Prop := ∃ i : Nat, v = (i : Int) ∧ p ∈ at' ws i ∧ ∀ j, j < i → p ∉ at' ws j
structure FI (ws : List (List Int)) (k : Nat) (dn ps : List Int) (f : Int → Int) : Prop where
  nd : ps.Nodup
  ln : ps.length ≤ k * 100 + dn.length
  mm : ∀ p, p ∈ ps ↔ (∃ i, i < k ∧ p ∈ at' ws i) ∨ p ∈ dn
  fs : ∀ p ∈ ps, IsFst ws p (f p)
theorem fi_step {ws : List (List Int)} {k : Nat} {dn ps : List Int} {f : Int → Int} (h : FI ws k dn ps f) {x : Int} (hx : x ∈ at' ws k) : FI ws k (dn ++ [x]) (addI ps x) (fun m => if m = x then atI' ps f (k : Int) x else f m) := by
  refine ⟨addI_nodup h.nd x, ?_, fun p => ?_, fun p hp => ?_⟩
  · have := h.ln
    have h2 : (addI ps x).length ≤ ps.length + 1 := by unfold addI; split <;> simp
    rw [List.length_append, List.length_singleton]; omega
  · rw [addI_mem, h.mm, List.mem_append, List.mem_singleton]
    constructor
    · rintro ((h1 | h1) | h1)
      · exact .inl h1
      · exact .inr (.inl h1)
      · exact .inr (.inr h1)
    · rintro (h1 | h1 | h1)
      · exact .inl (.inl h1)
      · exact .inl (.inr h1)
      · exact .inr h1
  · by_cases e : p = x
    · subst e
      show IsFst ws p (if p = p then atI' ps f (k : Int) p else f p)
      rw [if_pos rfl]
      unfold atI'
      by_cases c : p ∈ ps
      · rw [if_pos c]; exact h.fs p c
      · rw [if_neg c]
        exact ⟨k, rfl, hx, fun j hj hm => c ((h.mm p).mpr (.inl ⟨j, hj, hm⟩))⟩
    · show IsFst ws p (if p = x then _ else f p)
      rw [if_neg e]
      exact h.fs p (((addI_mem ps x p).mp hp).resolve_right e)
theorem fi_next {ws : List (List Int)} {k : Nat} {ps : List Int} {f : Int → Int} (hl : (at' ws k).length ≤ 100) (h : FI ws k (at' ws k) ps f) : FI ws (k + 1) [] ps f := by
  refine ⟨h.nd, ?_, fun p => ?_, h.fs⟩
  · have := h.ln; rw [Nat.add_mul]; simp; omega
  · rw [h.mm]
    constructor
    · rintro (⟨i, h1, h2⟩ | h1)
      · exact .inl ⟨i, by omega, h2⟩
      · exact .inl ⟨k, by omega, h1⟩
    · rintro (⟨i, h1, h2⟩ | h1)
      · by_cases e : i = k
        · exact .inr (e ▸ h2)
        · exact .inl ⟨i, by omega, h2⟩
      · simp at h1
def spFirst : FS := fun as q => ∃ ws : List (List Int), WsOk ws ∧ as = [.d (.tup (ws.map tI))] ∧ ∀ ps f, FI ws ws.length [] ps f → q (.dk (dI ps f)) .nw
theorem fg_inner {ws : List (List Int)} {k : Nat} (hk : k ≤ 6) {P : PEnds} : ∀ (rest dn ps : List Int) (f : Int → Int) (x3 : Slot), dn ++ rest = at' ws k → (at' ws k).length ≤ 100 → FI ws k dn ps f → (∀ ps f x3, FI ws k (at' ws k) ps f → P.nx [.fz (.tup (ws.map tI)), .ow (.dk (dI ps f)), .fz (.int (k : Int)), x3]) →
    wLoop (wgName 3) t_first_gone_f1 P (rest.map .int) [.fz (.tup (ws.map tI)), .ow (.dk (dI ps f)), .fz (.int (k : Int)), x3]
  | [], dn, ps, f, x3, e, _, hi, h => by
    rw [List.append_nil] at e
    rw [e] at hi
    exact h ps f x3 hi
  | x :: rest, dn, ps, f, x3, e, hl, hi, h => by
    refine (show t_first_gone_f1 ⟨wLoop (wgName 3) t_first_gone_f1 P (rest.map .int), P.rt, P.nx, wLoop (wgName 3) t_first_gone_f1 P (rest.map .int)⟩ [.fz (.tup (ws.map tI)), .ow (.dk (dI ps f)), .fz (.int (k : Int)), .fz (.int x)] from ?_)
    unfold t_first_gone_f1
    have hx : x ∈ at' ws k := by rw [← e]; simp
    have hdl : dn.length ≤ (at' ws k).length := by rw [← e, List.length_append]; omega
    refine go_dputI rfl (ev_getI (ev_own rfl) (ev_var rfl) (ev_var rfl)) (ev_var rfl) (by have := hi.ln; simp only [LIM]; omega) ?_
    exact fg_inner hk rest (dn ++ [x]) _ _ _ (by rw [List.append_assoc]; exact e) hl (fi_step hi hx) h
theorem fg_outer {ws : List (List Int)} (hw : WsOk ws) {P : PEnds} : ∀ (m k : Nat) (ps : List Int) (f : Int → Int) (x2 x3 : Slot), k + m = ws.length → FI ws k [] ps f → (∀ ps f x2 x3, FI ws ws.length [] ps f → P.nx [.fz (.tup (ws.map tI)), .ow (.dk (dI ps f)), x2, x3]) →
    wLoop (wgName 2) t_first_gone_f2 P ((List.range m).map fun (j : Nat) => D.int ((k + j : Nat) : Int)) [.fz (.tup (ws.map tI)), .ow (.dk (dI ps f)), x2, x3]
  | 0, k, ps, f, x2, x3, e, hi, h => h ps f x2 x3 (by rw [← e]; exact hi)
  | m + 1, k, ps, f, x2, x3, e, hi, h => by
    have er : (List.range (m + 1)).map (fun (j : Nat) => D.int ((k + j : Nat) : Int)) = .int (k : Int) :: (List.range m).map fun (j : Nat) => D.int ((k + 1 + j : Nat) : Int) := by
      rw [List.range_succ_eq_map, List.map_cons, List.map_map]
      congr 1
      refine List.map_congr_left fun j _ => ?_
      show D.int ((k + (j + 1) : Nat) : Int) = .int ((k + 1 + j : Nat) : Int)
      congr 2; omega
    rw [er]
    have hn := hw.1
    refine (show t_first_gone_f2 ⟨wLoop (wgName 2) t_first_gone_f2 P ((List.range m).map fun (j : Nat) => D.int ((k + 1 + j : Nat) : Int)), P.rt, P.nx, wLoop (wgName 2) t_first_gone_f2 P ((List.range m).map fun (j : Nat) => D.int ((k + 1 + j : Nat) : Int))⟩ [.fz (.tup (ws.map tI)), .ow (.dk (dI ps f)), .fz (.int (k : Int)), x3] from ?_)
    unfold t_first_gone_f2
    refine go_for (ei_tupF (xs := (at' ws k).map .int) (ev_bin (ev_var rfl) (ev_var rfl) (ix_natT (get_at (by omega))))) ?_
    refine fg_inner (by omega) (at' ws k) [] ps f x3 rfl (at_len hw) hi fun ps' f' x3' h' => ?_
    exact fg_outer hw m (k + 1) ps' f' _ _ (by omega) (fi_next (at_len hw) h') h
theorem p_first_gone (as : List VL.A) (q : D → Kd → Prop) (h : spFirst as q) : as.length = 1 ∧ t_first_gone ⟨fun _ => q .non .fz, q, fun _ => False, fun _ => False⟩ (rho0 4 as) := by
  obtain ⟨ws, hw, rfl, hq⟩ := h
  refine ⟨rfl, ?_⟩
  unfold t_first_gone
  have hn := hw.1
  refine (show wSeq _ _ _ [.fz (.tup (ws.map tI)), .un, .un, .un] from ?_)
  refine sq_asgN ev_dk0 ?_
  refine (show wSeq _ _ _ [.fz (.tup (ws.map tI)), .ow (.dk (dI [] fun _ => 0)), .un, .un] from ?_)
  have ei := ei_r1 (ρ := [.fz (.tup (ws.map tI)), .ow (.dk (dI [] fun _ => 0)), .un, .un]) (n := ws.length) (ea_cons (ev_lenT (f := tI) (ws := ws) (ev_var (i := 0) rfl)) ea_nil) (by omega)
  have er : (List.range ws.length).map (fun (k : Nat) => D.int (k : Int)) = (List.range ws.length).map fun (j : Nat) => D.int ((0 + j : Nat) : Int) := List.map_congr_left fun j _ => by rw [Nat.zero_add]
  rw [er] at ei
  refine sq (go_for ei ?_)
  refine fg_outer hw ws.length 0 [] (fun _ => 0) .un .un (by omega) ⟨List.nodup_nil, by simp, by simp, by simp⟩ fun ps f x2 x3 h => ?_
  dsimp only
  exact go_ret (ev_own rfl) (hq ps f h)
theorem sq_asgDN {w : WE} {ρ : Rho} {R : D → Prop} {r : WS} {P : PEnds} {i : Nat} (h : DmN w ρ R) (q : ∀ d, R d → r P (ρ.set i (.ow d))) : wSeq (wAsg i w) r P ρ := h _ fun d hd => q d hd
/-! ### chains of wear -/
structure ChainOk (ws : List (List Int)) : Prop where
  nd : ∀ w ∈ ws, w.Nodup
  rg : ∀ w ∈ ws, ∀ x ∈ w, 0 ≤ x ∧ x < 6
  ch : ∀ i j, i ≤ j → j < ws.length → ∀ x ∈ at' ws i, x ∈ at' ws j
theorem six_len {w : List Int} (h : w.Nodup) (h2 : ∀ x ∈ w, 0 ≤ x ∧ x < 6) : w.length ≤ 6 := by
  have := len_sub (m := ([0, 1, 2, 3, 4, 5] : List Int)) h fun x hx => by
    have := h2 x hx
    simp; omega
  exact this
theorem chain_ok {ws : List (List Int)} (h : ChainOk ws) (hl : ws.length ≤ 6) : WsOk ws := ⟨hl, fun w hw => by have := six_len (h.nd w hw) (h.rg w hw); omega⟩
theorem at_snoc {ws : List (List Int)} {w : List Int} {i : Nat} : at' (ws ++ [w]) i = if i < ws.length then at' ws i else if i = ws.length then w else [] := by
  unfold at'
  rw [List.getD_eq_getElem?_getD, List.getD_eq_getElem?_getD]
  by_cases c : i < ws.length
  · rw [if_pos c, List.getElem?_append_left c]
  · rw [if_neg c, List.getElem?_append_right (by omega)]
    by_cases e : i = ws.length
    · rw [if_pos e, e]; simp
    · rw [if_neg e, List.getElem?_eq_none (by simp; omega)]; rfl
def spChain : FS := fun as q => ∃ n : Nat, n ≤ 5 ∧ as = [.w, .d (.int (n : Int))] ∧ ∀ ws, ws.length = n → ChainOk ws → q (.lst (ws.map tI)) .nw
theorem chain_loop {n : Nat} {P : PEnds} : ∀ (xs : List D) (ws : List (List Int)) (now : List Int) (x4 : Slot), ws.length + xs.length = n → n ≤ 5 → ChainOk ws → now.Nodup → (∀ x ∈ now, 0 ≤ x ∧ x < 6) → (∀ i, i < ws.length → ∀ x ∈ at' ws i, x ∈ now) →
    (∀ (ws : List (List Int)) (now : List Int) (x4 : Slot), ws.length = n → ChainOk ws → P.nx [.w, .fz (.int (n : Int)), .ow (.lst (ws.map tI)), .ow (.lst (now.map .int)), x4, .un]) →
    wLoop (wgName 4) (t__law_chain_f1 spNext) P xs [.w, .fz (.int (n : Int)), .ow (.lst (ws.map tI)), .ow (.lst (now.map .int)), x4, .un]
  | [], ws, now, x4, e, _, hc, _, _, _, h => h ws now x4 (by simpa using e) hc
  | x :: xs, ws, now, x4, e, hn, hc, hd, hr, hs, h => by
    refine (show t__law_chain_f1 spNext ⟨wLoop (wgName 4) (t__law_chain_f1 spNext) P xs, P.rt, P.nx, wLoop (wgName 4) (t__law_chain_f1 spNext) P xs⟩ [.w, .fz (.int (n : Int)), .ow (.lst (ws.map tI)), .ow (.lst (now.map .int)), .fz x, .un] from ?_)
    unfold t__law_chain_f1
    have hnl := six_len hd hr
    have dm : DmN (wSortSet (wBin bAdd (wVar 3) (wComp (wiR1 (wCons (wCall spNext (xW 0 (xCons (wCon (.int 3)) xNil))) wNil)) (wgName 5) wYes (t__law_chain_c1 spNext) [5]))) [.w, .fz (.int (n : Int)), .ow (.lst (ws.map tI)), .ow (.lst (now.map .int)), .fz x, .un] (fun d => ∃ zs : List Int, d = .lst (zs.map .int) ∧ zs.Nodup ∧ (∀ z ∈ zs, 0 ≤ z ∧ z < 6) ∧ ∀ z ∈ now, z ∈ zs) := fun Q q => by
      have cmp := dmN_comp (i := 5) (t := t__law_chain_c1 spNext) (R := fun d => ∃ r : Int, d = .int r ∧ 0 ≤ r ∧ r < 6) (B := 2) (wi := wiR1 (wCons (wCall spNext (xW 0 (xCons (wCon (.int 3)) xNil))) wNil)) (ρ := [.w, .fz (.int (n : Int)), .ow (.lst (ws.map tI)), .ow (.lst (now.map .int)), .fz x, .un]) (by simp [LIM]) (fun Q q => by
        rw [wiR1_e]
        simp only [wCons, wNil]
        refine (dm_next rfl ev_con (by decide) : Dm (wCall spNext (xW 0 (xCons (wCon (.int 3)) xNil))) [.w, .fz (.int (n : Int)), .ow (.lst (ws.map tI)), .ow (.lst (now.map .int)), .fz x, .un] _) _ fun d ⟨r, e, r0, r1⟩ => ?_
        subst e
        refine ⟨by unfold i62; omega, q _ ?_⟩
        rw [rng_ir, List.length_map, ir_len]
        omega) (fun y => by
        unfold t__law_chain_c1
        exact dm_next rfl ev_con (by decide))
      unfold wSortSet wBin
      refine (ev_own (i := 3) rfl : Ev (wVar 3) [.w, .fz (.int (n : Int)), .ow (.lst (ws.map tI)), .ow (.lst (now.map .int)), .fz x, .un] (.lst (now.map .int)) _) _ ?_
      refine cmp _ fun ds hl hds => ?_
      obtain ⟨rs, rfl, hrs⟩ := ints_of (p := fun r => 0 ≤ r ∧ r < 6) hds
      rw [List.length_map] at hl
      rw [bAdd_l, if_pos (by rw [List.length_map, List.length_map]; simp only [LIM]; omega), ← List.map_append]
      obtain ⟨zs, e1, e2, e3⟩ := sset_ints (now ++ rs)
      refine ⟨_, .int, rfl, flat_ints _, Nat.lt_of_le_of_lt (Nat.succ_le_succ (m := 1000) (by rw [List.length_map, List.length_append]; omega)) (by decide +kernel), ?_⟩
      rw [e1]
      refine q _ ⟨zs, rfl, e2, fun z hz => ?_, fun z hz => (e3 z).mpr (List.mem_append.mpr (.inl hz))⟩
      rcases List.mem_append.mp ((e3 z).mp hz) with h1 | h1
      · exact hr z h1
      · exact hrs z h1
    refine sq_asgDN dm fun d ⟨zs, e1, e2, e3, e4⟩ => ?_
    subst e1
    refine (show wMut 2 (wCl cTuple (wCons (wVar 3) wNil)) fAppend _ [.w, .fz (.int (n : Int)), .ow (.lst (ws.map tI)), .ow (.lst (zs.map .int)), .fz x, .un] from ?_)
    rw [List.length_cons] at e
    refine go_app (xs := ws.map tI) rfl (ev_cl (ea_cons (ev_own (i := 3) rfl) ea_nil) cTup_l) (by rw [List.length_map]; simp only [LIM]; omega) ?_
    have em : ws.map tI ++ [.tup (zs.map .int)] = (ws ++ [zs]).map tI := by rw [List.map_append]; rfl
    rw [em]
    refine chain_loop xs (ws ++ [zs]) zs _ (by rw [List.length_append, List.length_singleton]; omega) hn ⟨fun w hw => ?_, fun w hw => ?_, fun i j hij hj y hy => ?_⟩ e2 e3 (fun i hi y hy => ?_) h
    · rcases List.mem_append.mp hw with h1 | h1
      · exact hc.nd w h1
      · rw [List.mem_singleton.mp h1]; exact e2
    · rcases List.mem_append.mp hw with h1 | h1
      · exact hc.rg w h1
      · rw [List.mem_singleton.mp h1]; exact e3
    · rw [List.length_append, List.length_singleton] at hj
      rw [at_snoc] at hy ⊢
      by_cases c : j < ws.length
      · rw [if_pos (by omega)] at hy
        rw [if_pos c]
        exact hc.ch i j hij c y hy
      · have ej : j = ws.length := by omega
        rw [if_neg c, if_pos ej]
        by_cases c2 : i < ws.length
        · rw [if_pos c2] at hy
          exact e4 y (hs i c2 y hy)
        · rw [if_neg c2, if_pos (by omega)] at hy
          exact hy
    · rw [List.length_append, List.length_singleton] at hi
      rw [at_snoc] at hy
      by_cases c2 : i < ws.length
      · rw [if_pos c2] at hy
        exact e4 y (hs i c2 y hy)
      · rw [if_neg c2, if_pos (by omega)] at hy
        exact hy
theorem p__law_chain (as : List VL.A) (q : D → Kd → Prop) (h : spChain as q) : as.length = 2 ∧ t__law_chain spNext ⟨fun _ => q .non .fz, q, fun _ => False, fun _ => False⟩ (rho0 6 as) := by
  obtain ⟨n, hn, rfl, hq⟩ := h
  refine ⟨rfl, ?_⟩
  unfold t__law_chain
  refine (show wSeq _ _ _ [.w, .fz (.int (n : Int)), .un, .un, .un, .un] from ?_)
  refine sq_parNN (ev_lst ea_nil) (ev_lst ea_nil) ?_
  refine (show wSeq _ _ _ [.w, .fz (.int (n : Int)), .ow (.lst (([] : List (List Int)).map tI)), .ow (.lst (([] : List Int).map .int)), .un, .un] from ?_)
  refine sq (go_for (ei_r1 (n := n) (ea_cons (ev_var rfl) ea_nil) (by omega)) ?_)
  refine chain_loop _ [] [] .un (by simp) hn ⟨by simp, by simp, fun i j _ hj => by simp at hj⟩ List.nodup_nil (by simp) (by simp) fun ws now x4 h1 h2 => ?_
  dsimp only
  exact go_ret (ev_own rfl) (hq ws h1 h2)
end K15

namespace K15
open PySem PySem.Spec PyProof.Rows L2 VL
/-! ### the law: plain parts -/
theorem gd_nI (l : List Nat) : Gd 3 (.tup (nI l)) := .tup fun x hx => by
  obtain ⟨k, _, rfl⟩ := List.mem_map.mp hx
  exact .int
theorem gd_noD (p : Nat × Nat) : Gd 4 (noD p) := .tup fun x hx => by
  simp only [List.mem_cons, List.not_mem_nil, or_false] at hx
  rcases hx with rfl | rfl | rfl
  · exact .str (by decide +kernel)
  · exact .int
  · exact .int
theorem gd_told (R : Rl) (n : Nat) : Gd 4 (toldD R n) := by
  unfold toldD
  cases greedy R n (List.range n) with
  | none => exact gd_noD _
  | some o =>
    refine .tup fun x hx => ?_
    simp only [List.mem_cons, List.not_mem_nil, or_false] at hx
    rcases hx with rfl | rfl
    · exact .str (by decide +kernel)
    · exact gd_nI o
theorem isfst_uniq {ws : List (List Int)} {p v v' : Int} (h : IsFst ws p v) (h' : IsFst ws p v') : v = v' := by
  obtain ⟨i, rfl, hi, hm⟩ := h
  obtain ⟨j, rfl, hj, hm'⟩ := h'
  have h1 : ¬ i < j := fun z => hm' i z hi
  have h2 : ¬ j < i := fun z => hm j z hj
  have : i = j := by omega
  rw [this]
structure FJ (ws : List (List Int)) (dn ps : List Int) (f : Int → Int) : Prop where
  nd : ps.Nodup
  ln : ps.length ≤ dn.length
  mm : ∀ p, p ∈ ps ↔ p ∈ dn
  fs : ∀ p ∈ ps, IsFst ws p (f p)
theorem fj_step {ws : List (List Int)} {dn ps : List Int} {f : Int → Int} (h : FJ ws dn ps f) {x v : Int} (hx : IsFst ws x v) : FJ ws (dn ++ [x]) (addI ps x) (fun m => if m = x then v else f m) := by
  refine ⟨addI_nodup h.nd x, ?_, fun p => ?_, fun p hp => ?_⟩
  · have := h.ln
    have h2 : (addI ps x).length ≤ ps.length + 1 := by unfold addI; split <;> simp
    rw [List.length_append, List.length_singleton]; omega
  · rw [addI_mem, h.mm, List.mem_append, List.mem_singleton]
  · show IsFst ws p (if p = x then v else f p)
    by_cases e : p = x
    · rw [if_pos e, e]; exact hx
    · rw [if_neg e]; exact h.fs p (((addI_mem ps x p).mp hp).resolve_right e)
theorem fst_head {n : Nat} {tb : Nat → Bool} (h : ∃ k, k < n ∧ tb k = true) : ∃ r, ((List.range n).filter tb)[0]? = some r ∧ r < n ∧ tb r = true ∧ ∀ j, j < r → tb j = false := by
  obtain ⟨k, hk, hb⟩ := h
  have hm : k ∈ (List.range n).filter tb := List.mem_filter.mpr ⟨List.mem_range.mpr hk, hb⟩
  have hp : ((List.range n).filter tb).Pairwise (· < ·) := (List.pairwise_lt_range).filter _
  cases e : (List.range n).filter tb with
  | nil => rw [e] at hm; cases hm
  | cons r rest =>
    rw [e] at hp
    have hr : r ∈ (List.range n).filter tb := by rw [e]; simp
    obtain ⟨h1, h2⟩ := List.mem_filter.mp hr
    refine ⟨r, rfl, List.mem_range.mp h1, h2, fun j hj => ?_⟩
    cases c : tb j with
    | false => rfl
    | true =>
      have hjm : j ∈ (List.range n).filter tb := List.mem_filter.mpr ⟨List.mem_range.mpr (by have := List.mem_range.mp h1; omega), c⟩
      rw [e] at hjm
      rcases List.mem_cons.mp hjm with h3 | h3
      · omega
      · have := (List.pairwise_cons.mp hp).1 j h3; omega
def cnt (ps : List Int) (f : Int → Int) (k : Nat) : Nat := (ps.filter fun p => decide (f p = (k : Int))).length
def prev (ws : List (List Int)) (k : Nat) : List Int := if k = 0 then [] else at' ws (k - 1)
theorem at_nd {ws : List (List Int)} (hc : ChainOk ws) (k : Nat) : (at' ws k).Nodup := by
  by_cases h : k < ws.length
  · have : at' ws k ∈ ws := by
      unfold at'
      rw [List.getD_eq_getElem?_getD, List.getElem?_eq_getElem h]
      exact List.getElem_mem h
    exact hc.nd _ this
  · have : at' ws k = [] := by
      unfold at'
      rw [List.getD_eq_getElem?_getD, List.getElem?_eq_none (by omega)]; rfl
    rw [this]; exact List.nodup_nil
theorem cnt_eq {ws : List (List Int)} (hc : ChainOk ws) {ps : List Int} {f : Int → Int} (hn : ps.Nodup) (hm : ∀ p, p ∈ ps ↔ ∃ i, i < ws.length ∧ p ∈ at' ws i) (hf : ∀ p ∈ ps, IsFst ws p (f p)) {k : Nat} (hk : k < ws.length) : cnt ps f k + (prev ws k).length = (at' ws k).length := by
  have hprev : ∀ x ∈ prev ws k, 0 < k ∧ x ∈ at' ws (k - 1) := fun x hx => by
    unfold prev at hx
    by_cases e : k = 0
    · rw [if_pos e] at hx; cases hx
    · rw [if_neg e] at hx; exact ⟨by omega, hx⟩
  have hfil : ∀ x ∈ ps.filter (fun p => decide (f p = (k : Int))), x ∈ at' ws k ∧ ∀ j, j < k → x ∉ at' ws j := fun x hx => by
    obtain ⟨h1, h2⟩ := List.mem_filter.mp hx
    obtain ⟨i, e, h3, h4⟩ := hf x h1
    have := of_decide_eq_true h2
    have : i = k := by omega
    rw [← this]; exact ⟨h3, h4⟩
  unfold cnt
  rw [← List.length_append]
  apply Nat.le_antisymm
  · refine len_sub ?_ fun x hx => ?_
    · refine List.nodup_append.mpr ⟨hn.filter _, ?_, fun a ha b hb e => ?_⟩
      · unfold prev
        by_cases e : k = 0
        · rw [if_pos e]; exact List.nodup_nil
        · rw [if_neg e]; exact at_nd hc _
      · obtain ⟨h1, h2⟩ := hprev b hb
        subst e
        exact (hfil a ha).2 (k - 1) (by omega) h2
    · rcases List.mem_append.mp hx with h | h
      · exact (hfil x h).1
      · obtain ⟨h1, h2⟩ := hprev x h
        exact hc.ch (k - 1) k (by omega) hk x h2
  · refine len_sub (at_nd hc k) fun x hx => ?_
    have hp : x ∈ ps := (hm x).mpr ⟨k, hk, hx⟩
    obtain ⟨i, e, h3, h4⟩ := hf x hp
    have hik : ¬ k < i := fun z => h4 k z hx
    refine List.mem_append.mpr ?_
    by_cases c : i = k
    · exact .inl (List.mem_filter.mpr ⟨hp, decide_eq_true (by rw [e, c])⟩)
    · refine .inr ?_
      unfold prev
      rw [if_neg (by omega)]
      exact hc.ch i (k - 1) (by omega) (by omega) x h3
theorem diffs_eq {ws : List (List Int)} (g : Nat → Nat) (h : ∀ k, k < ws.length → g k + (prev ws k).length = (at' ws k).length) : diffs ws = (List.range ws.length).map fun k => ((g k : Nat) : Int) := by
  have hl : (lens ws).length = ws.length := by unfold lens; rw [List.length_map]
  refine List.ext_getElem ?_ fun k h1 h2 => ?_
  · unfold diffs
    rw [List.length_map, List.length_zip, List.length_cons, List.length_map, List.length_range, hl]; omega
  · rw [List.length_map, List.length_range] at h2
    have hk := h k h2
    have a1 : (lens ws)[k]'(by omega) = ((at' ws k).length : Int) := by
      unfold lens at'
      rw [List.getElem_map, List.getD_eq_getElem?_getD, List.getElem?_eq_getElem h2]; rfl
    have a0 : (diffs ws)[k] = (lens ws)[k]'(by omega) - (0 :: lens ws)[k]'(by rw [List.length_cons]; omega) := by
      simp only [diffs, List.getElem_map, List.getElem_zip]
    rw [a0, a1, List.getElem_map, List.getElem_range]
    cases k with
    | zero =>
      have : (prev ws 0).length = 0 := rfl
      rw [List.getElem_cons_zero]; omega
    | succ m =>
      have a2 : (lens ws)[m]'(by omega) = ((at' ws m).length : Int) := by
        unfold lens at'
        rw [List.getElem_map, List.getD_eq_getElem?_getD, List.getElem?_eq_getElem (by omega)]; rfl
      have : (prev ws (m + 1)).length = (at' ws m).length := rfl
      rw [List.getElem_cons_succ, a2]; omega
def ableL (n f l : Nat) : List Nat := (List.range (n + 1)).filter fun k => decide (f ≤ k) && decide (k ≤ l)
theorem ableL_some : ∀ n, n < 6 → ∀ f, f < 6 → ∀ l, l < 6 → l ≤ n → f ≤ l → (ableL n f l)[0]? = some f ∧ ∃ m, ableL n f l = m ++ [l] := by
  have h : ∀ n f l : Fin 6, l.1 ≤ n.1 → f.1 ≤ l.1 → (ableL n.1 f.1 l.1)[0]? = some f.1 ∧ (ableL n.1 f.1 l.1).getLast? = some l.1 := by decide +kernel
  intro n hn f hf l hl h1 h2
  obtain ⟨a, b⟩ := h ⟨n, hn⟩ ⟨f, hf⟩ ⟨l, hl⟩ h1 h2
  exact ⟨a, (List.getLast?_eq_some_iff.mp b)⟩
theorem ableL_none {n f l : Nat} (h : ¬ f ≤ l) : ableL n f l = [] := by
  unfold ableL
  refine List.filter_eq_nil_iff.mpr fun k _ => ?_
  simp only [Bool.and_eq_true, decide_eq_true_iff]
  omega
theorem able_eq {ws : List (List Int)} {seen : List Int} {f l : Nat} (hf : IsF ws.length (fun k => wth seen (at' ws k)) f) (hl : IsL ws.length (fun k => wth (at' ws k) seen) l) :
    ((List.range (ws.length + 1)).filter fun k => decide (((ws.take k).filter fun w => !wth w seen) = []) && decide (((ws.drop k).filter fun w => !wth seen w) = [])) = ableL ws.length f l := by
  unfold ableL
  have hat : ∀ {i : Nat} (h : i < ws.length), at' ws i = ws[i] := fun {i} h => by
    unfold at'
    rw [List.getD_eq_getElem?_getD, List.getElem?_eq_getElem h]; rfl
  refine List.filter_congr fun k hk => ?_
  have hk := List.mem_range.mp hk
  obtain ⟨f1, f2, f3⟩ := hf
  obtain ⟨l1, l2, l3⟩ := hl
  rw [Bool.eq_iff_iff]
  simp only [Bool.and_eq_true, decide_eq_true_iff, List.filter_eq_nil_iff, Bool.not_eq_true', Bool.not_eq_false]
  constructor
  · rintro ⟨h1, h2⟩
    constructor
    · rcases f3 with e | ⟨j, hj, e, hp⟩
      · omega
      · apply Nat.le_of_not_lt
        intro c
        have hmem : ws[j] ∈ ws.drop k := by
          have : (ws.drop k)[j - k]? = some ws[j] := by
            rw [List.getElem?_drop, show k + (j - k) = j by omega, List.getElem?_eq_getElem hj]
          exact List.mem_of_getElem? this
        have := h2 _ hmem
        have hp : wth seen (at' ws j) = false := hp
        rw [← hat hj, hp] at this
        cases this
    · rcases l3 with e | ⟨j, hj, e, hp⟩
      · omega
      · apply Nat.le_of_not_lt
        intro c
        have hmem : ws[j] ∈ ws.take k := by
          have : (ws.take k)[j]? = some ws[j] := by
            rw [List.getElem?_take, if_pos (by omega), List.getElem?_eq_getElem hj]
          exact List.mem_of_getElem? this
        have := h1 _ hmem
        have hp : wth (at' ws j) seen = false := hp
        rw [← hat hj, hp] at this
        cases this
  · rintro ⟨h1, h2⟩
    constructor
    · intro w hw
      obtain ⟨j, hj, e⟩ := List.getElem_of_mem hw
      rw [List.length_take] at hj
      rw [List.getElem_take] at e
      cases c : wth w seen with
      | true => rfl
      | false =>
        have hj2 : j < ws.length := by omega
        have := l2 j hj2 (by show wth (at' ws j) seen = false; rw [hat hj2, e, c])
        omega
    · intro w hw
      obtain ⟨j, hj, e⟩ := List.getElem_of_mem hw
      rw [List.length_drop] at hj
      rw [List.getElem_drop] at e
      cases c : wth seen w with
      | true => rfl
      | false =>
        have hj2 : k + j < ws.length := by omega
        have := f2 (k + j) hj2 (by show wth seen (at' ws (k + j)) = false; rw [hat hj2, e, c])
        omega
theorem sub_last {xs : List D} {x : D} : bSubs (.lst (xs ++ [x])) (.int (-1)) = some (x, .fz) := by
  show (atI (xs ++ [x]) (-1)).map (fun d => (d, Kd.fz)) = _
  rw [atI_end]; rfl
theorem last_at {ws : List (List Int)} (h : 0 < ws.length) : ∃ m, ws.map tI = m ++ [tI (at' ws (ws.length - 1))] := by
  rcases List.eq_nil_or_concat ws with e | ⟨m, x, e⟩
  · rw [e] at h; simp at h
  · rw [List.concat_eq_append] at e
    subst e
    refine ⟨m.map tI, ?_⟩
    rw [at_snoc, List.length_append, List.length_singleton, if_neg (by omega), if_pos (by omega), List.map_append]; rfl
theorem fm_get (ws : List (List Int)) : ∀ l : List Nat, l.filterMap ((ws.map tI)[·]?) = (l.filterMap (ws[·]?)).map tI
  | [] => rfl
  | i :: l => by
    have ih := fm_get ws l
    rw [List.filterMap_cons, List.filterMap_cons, List.getElem?_map]
    cases ws[i]? with
    | none => exact ih
    | some w => exact congrArg (tI w :: ·) ih
theorem pick_map (lo : Option Int) (ws : List (List Int)) : pickD lo 2 (ws.map tI) = (pickD lo 2 ws).map tI := by
  unfold pickD
  rw [List.length_map]
  exact fm_get ws _
theorem pick_mem {lo : Option Int} {ws : List (List Int)} {x : List Int} (h : x ∈ pickD lo 2 ws) : x ∈ ws := by
  unfold pickD at h
  obtain ⟨i, _, e⟩ := List.mem_filterMap.mp h
  exact List.mem_of_getElem? e
theorem pick_len {ws : List (List Int)} (h : ws.length ≤ 5) : (pickD (some 1) 2 ws ++ pickD none 2 ws).length = ws.length := by
  match ws, h with
  | [], _ =>
    have e1 : stepIx (some 1) 2 0 = [] := by decide +kernel
    have e2 : stepIx none 2 0 = [] := by decide +kernel
    show (((stepIx (some 1) 2 0).filterMap _) ++ ((stepIx none 2 0).filterMap _)).length = 0
    rw [e1, e2]; rfl
  | [a], _ =>
    have e1 : stepIx (some 1) 2 1 = [] := by decide +kernel
    have e2 : stepIx none 2 1 = [0] := by decide +kernel
    show (((stepIx (some 1) 2 1).filterMap _) ++ ((stepIx none 2 1).filterMap _)).length = 1
    rw [e1, e2]; rfl
  | [a, b], _ =>
    have e1 : stepIx (some 1) 2 2 = [1] := by decide +kernel
    have e2 : stepIx none 2 2 = [0] := by decide +kernel
    show (((stepIx (some 1) 2 2).filterMap _) ++ ((stepIx none 2 2).filterMap _)).length = 2
    rw [e1, e2]; rfl
  | [a, b, c], _ =>
    have e1 : stepIx (some 1) 2 3 = [1] := by decide +kernel
    have e2 : stepIx none 2 3 = [0, 2] := by decide +kernel
    show (((stepIx (some 1) 2 3).filterMap _) ++ ((stepIx none 2 3).filterMap _)).length = 3
    rw [e1, e2]; rfl
  | [a, b, c, d], _ =>
    have e1 : stepIx (some 1) 2 4 = [1, 3] := by decide +kernel
    have e2 : stepIx none 2 4 = [0, 2] := by decide +kernel
    show (((stepIx (some 1) 2 4).filterMap _) ++ ((stepIx none 2 4).filterMap _)).length = 4
    rw [e1, e2]; rfl
  | [a, b, c, d, e], _ =>
    have e1 : stepIx (some 1) 2 5 = [1, 3] := by decide +kernel
    have e2 : stepIx none 2 5 = [0, 2, 4] := by decide +kernel
    show (((stepIx (some 1) 2 5).filterMap _) ++ ((stepIx none 2 5).filterMap _)).length = 5
    rw [e1, e2]; rfl
def swp (p : Nat × Nat) : Nat × Nat := (p.2, p.1)
def csN (n : Nat) : List (Nat × Nat) := pairsN n ++ (pairsN n).map swp
theorem cs_lt {n : Nat} {p : Nat × Nat} (h : p ∈ csN n) : p.1 < n ∧ p.2 < n := by
  rcases List.mem_append.mp h with h | h
  · obtain ⟨i, j⟩ := p
    have := pairs_mem.mp h
    exact ⟨by show i < n; omega, by show j < n; omega⟩
  · obtain ⟨⟨i, j⟩, h1, rfl⟩ := List.mem_map.mp h
    have := pairs_mem.mp h1
    exact ⟨by show j < n; omega, by show i < n; omega⟩
theorem cs_all {n i j : Nat} (hi : i < n) (hj : j < n) (h : i ≠ j) : (i, j) ∈ csN n := by
  by_cases c : i < j
  · exact List.mem_append.mpr (.inl (pairs_mem.mpr ⟨c, hj⟩))
  · exact List.mem_append.mpr (.inr (List.mem_map.mpr ⟨(j, i), pairs_mem.mpr ⟨by omega, hi⟩, rfl⟩))
theorem cs_len {n : Nat} (h : n ≤ 5) : (csN n).length ≤ 72 := by
  have := pairs_len (n := n) (by omega)
  unfold csN
  rw [List.length_append, List.length_map]; omega
theorem at_range {n i : Nat} (h : i < n) (g : Nat → List Int) : at' ((List.range n).map g) i = g i := by
  unfold at'
  rw [List.getD_eq_getElem?_getD, List.getElem?_map, List.getElem?_range h]; rfl
def psN (n : Nat) (us bs : List (List Int)) : List (List Int × List Int) := (List.range n).map fun k => (at' us k, at' bs k)
theorem ps_ok {n : Nat} {us bs : List (List Int)} (hn : n ≤ 5) (hu : WsOk us) (hb : WsOk bs) : PsOk (psN n us bs) := by
  unfold psN PsOk
  rw [List.map_map, List.map_map]
  refine ⟨⟨by rw [List.length_map, List.length_range]; omega, fun w hw => ?_⟩, ⟨by rw [List.length_map, List.length_range]; omega, fun w hw => ?_⟩⟩
  · obtain ⟨k, _, rfl⟩ := List.mem_map.mp hw
    exact at_len hu
  · obtain ⟨k, _, rfl⟩ := List.mem_map.mp hw
    exact at_len hb
theorem R2_at {n : Nat} {us bs : List (List Int)} {i j : Nat} (hi : i < n) (hj : j < n) : R2 (psN n us bs) i j = (wth (at' us i) (at' us j) && wth (at' bs i) (at' bs j)) := by
  have e1 : ∀ k, k < n → p1 (psN n us bs) k = at' us k := fun k hk => by
    unfold p1 psN
    rw [List.map_map]
    exact at_range hk _
  have e2 : ∀ k, k < n → p2 (psN n us bs) k = at' bs k := fun k hk => by
    unfold p2 psN
    rw [List.map_map]
    exact at_range hk _
  unfold R2
  rw [e1 i hi, e1 j hj, e2 i hi, e2 j hj]
/-! ### the law: the walk -/
section
variable {t u : WE} {ρ ρ' : Rho} {c : WT} {R : D → Prop} {d : D} {k : Kd} {P : PEnds}
theorem dm_if (h : Dt c ρ) (a : Dm t ρ R) (b : Dm u ρ R) : Dm (wIfE c t u) ρ R := fun Q q => by
  rw [wIfE_e]
  refine h _ fun z => ?_
  cases z with
  | true => exact a _ q
  | false => exact b _ q
theorem or_call {A B : WT} {s : WS} (hA : ∀ Q : Bool → Rho → Prop, Q false ρ' → A ρ Q) (hB : Et B ρ' false) (h : P.nx ρ') : wIf (wOr A B) s wNext P ρ := hA _ (hB _ h)
theorem sq_due {s r : WS} {n : Nat} {cs : List (Nat × Nat)} {R : Rl} {i : Nat} (ht : Ev t ρ (toldD R n) .fz) (h3 : ρ[3]? = some (.fz (.int (n : Int)))) (ho : ρ[i]? = some (.ow (.lst (cs.map pD)))) (hR : Pre R) (hk : Knows cs n R) (h1 : 1 ≤ n) (h5 : n ≤ 5) (q : r P (ρ.set i (.fz (.lst (cs.map pD))))) : wSeq (wIf (wTest (wBin bNe t (wCall spDue (xCons (wVar 3) (xCons (wVar i) xNil))))) s wNext) r P ρ :=
  ht _ (ev_var h3 _ (own_go ho ⟨n, cs, R, h1, h5, hR, hk, rfl, by
    show oB (bNe (toldD R n) (toldD R n)) _
    rw [bNe_self (gd_told R n)]
    exact q⟩))
theorem sq_neD {s r : WS} (h : Dm t ρ R) (hu : ∀ d, R d → Ev u ρ d .fz ∧ bNe d d = some (.bl false, .fz)) (q : r P ρ) : wSeq (wIf (wTest (wBin bNe t u)) s wNext) r P ρ :=
  h _ fun d hd => (hu d hd).1 _ (by
    show oB (bNe d d) _
    rw [(hu d hd).2]
    exact q)
theorem dmE_comp {wi : WI} {i : Nat} {xs : List D} (hl : xs.length ≤ LIM) (hi : Ei wi ρ xs) (he : ∀ x ∈ xs, Dm t ((wipeR ρ [i]).set i (.fz x)) R) (hr : restR ρ (wipeR ρ [i]) [i] = ρ := by rfl) (hw : ∀ d, wipeR ((wipeR ρ [i]).set i (.fz d)) [i] = wipeR ρ [i] := by intro; rfl) :
    ∀ Q : D → Kd → Rho → Prop, (∀ ds, ds.length = xs.length → (∀ d ∈ ds, R d) → Q (.lst ds) .nw ρ) → wComp wi (wgName i) wYes t [i] ρ Q := fun Q q => by
  unfold wComp
  refine hi _ ?_
  refine comp_rel (fun _ o => ∃ d, o = some d ∧ R d) xs [] (by simpa using hl) (fun x hx K hK => ?_) fun ds hd => ?_
  · simp only [wgName, wYes]
    show (if true = true then t ((wipeR ρ [i]).set i (.fz x)) (toF fun d ρ3 => K (some d) (wipeR ρ3 [i])) else K none (wipeR ((wipeR ρ [i]).set i (.fz x)) [i]))
    rw [if_pos rfl]
    refine he x hx _ fun d hd => ?_
    show K (some d) (wipeR ((wipeR ρ [i]).set i (.fz x)) [i])
    rw [hw]
    exact hK _ ⟨d, rfl, hd⟩
  · obtain ⟨a, b⟩ := PF.all (p := R) (fun x o ⟨d, h1, h2⟩ => ⟨d, h1, h2⟩) hd
    rw [List.nil_append, hr]
    exact q ds a b
theorem dm_tupIf {T : List D → Prop} (h : Dt c ρ) (a : ∀ Q : D → Kd → Rho → Prop, (∀ xs k, T xs → Q (.lst xs) k ρ) → t ρ Q) (b : ∀ Q : D → Kd → Rho → Prop, (∀ xs k, T xs → Q (.lst xs) k ρ) → u ρ Q) : Dm (wCl cTuple (wCons (wIfE c t u) wNil)) ρ (fun d => ∃ xs, d = .tup xs ∧ T xs) := fun Q q => h _ fun z => by
  cases z with
  | true => exact a _ fun xs k hx => q _ ⟨xs, rfl, hx⟩
  | false => exact b _ fun xs k hx => q _ ⟨xs, rfl, hx⟩
def SetD (d : D) : Prop := ∃ zs : List Int, d = tI zs ∧ zs.length ≤ 100
theorem sets_of : ∀ {ds : List D}, (∀ d ∈ ds, SetD d) → ∃ us : List (List Int), ds = us.map tI ∧ ∀ u ∈ us, u.length ≤ 100
  | [], _ => ⟨[], rfl, by simp⟩
  | d :: ds, h => by
    obtain ⟨u, rfl, h1⟩ := h d (List.mem_cons_self ..)
    obtain ⟨us, rfl, h2⟩ := sets_of fun e he => h e (List.mem_cons_of_mem _ he)
    exact ⟨u :: us, rfl, fun y hy => by
      rcases List.mem_cons.mp hy with rfl | hy
      · exact h1
      · exact h2 y hy⟩
theorem dm_set {i : Nat} {m M : Int} {c : WE} (hw1 : ρ[1]? = some .w) (hm : 0 < m) (hm1 : m ≤ 10) (hc : ∀ x, Dm c ((wipeR ρ [i]).set i (.fz x)) (fun d => ∃ r, d = .int r ∧ 0 ≤ r ∧ r < M)) (hr : restR ρ (wipeR ρ [i]) [i] = ρ := by rfl) (hw : ∀ d, wipeR ((wipeR ρ [i]).set i (.fz d)) [i] = wipeR ρ [i] := by intro; rfl) :
    Dm (wCl cTuple (wCons (wSortSet (wComp (wiR1 (wCons (wCall spNext (xW 1 (xCons (wCon (.int m)) xNil))) wNil)) (wgName i) wYes c [i])) wNil)) ρ SetD := fun Q q => by
  have cmp := dmN_comp (i := i) (t := c) (R := fun d => ∃ r : Int, d = .int r ∧ 0 ≤ r ∧ r < M) (B := 10) (wi := wiR1 (wCons (wCall spNext (xW 1 (xCons (wCon (.int m)) xNil))) wNil)) (ρ := ρ) (by simp [LIM]) (fun Q q => by
    rw [wiR1_e]
    simp only [wCons, wNil]
    refine (dm_next hw1 ev_con hm : Dm (wCall spNext (xW 1 (xCons (wCon (.int m)) xNil))) ρ _) _ fun d ⟨r, e, r0, r1⟩ => ?_
    subst e
    refine ⟨by unfold i62; omega, q _ ?_⟩
    rw [rng_ir, List.length_map, ir_len]
    omega) hc hr hw
  unfold wCl wCons wSortSet
  dsimp only
  refine cmp _ fun ds hl hds => ?_
  obtain ⟨rs, rfl, hrs⟩ := ints_of (p := fun r => 0 ≤ r ∧ r < M) hds
  rw [List.length_map] at hl
  obtain ⟨zs, e1, e2, e3⟩ := sset_ints rs
  refine ⟨_, .int, rfl, flat_ints _, Nat.lt_of_le_of_lt (Nat.succ_le_succ (m := 1000) (by rw [List.length_map]; omega)) (by decide +kernel), ?_⟩
  rw [e1]
  refine q _ ⟨zs, rfl, ?_⟩
  have := len_sub e2 fun z hz => (e3 z).mp hz
  omega
end
section
variable {P : PEnds} {x0 x2 x3 x4 x5 x6 x7 x8 x9 x10 x11 x12 x13 x14 x15 x16 x17 x18 x19 x20 : Slot} {n : Nat} {ws : List (List Int)}
theorem s1_ok {ps : List Int} {f : Int → Int} (hn : ws.length = n) (h5 : n ≤ 5) (hc : ChainOk ws) (hnd : ps.Nodup) (hl : ps.length ≤ 50) (hm : ∀ p, p ∈ ps ↔ ∃ i, i < ws.length ∧ p ∈ at' ws i) (hf : ∀ p ∈ ps, IsFst ws p (f p)) (h : ∀ x2 x3 x4 x5 x6 x7 x8 x9 x10 x11 x12 x13 x14 x15 x16 x17 x18 x19 x20, P.nx [x0, .w, x2, x3, x4, x5, x6, x7, x8, x9, x10, x11, x12, x13, x14, x15, x16, x17, x18, x19, x20]) :
    t_law_s1 spSameI spFirst spSteps P [x0, .w, x2, .fz (.int (n : Int)), .ow (.lst (ws.map tI)), x5, x6, x7, x8, x9, x10, x11, x12, x13, x14, x15, x16, x17, x18, x19, .ow (.dk (dI ps f))] := by
  have hw := chain_ok hc (by omega)
  unfold t_law_s1
  refine or_call (ρ' := [x0, .w, x2, .fz (.int (n : Int)), .ow (.lst (ws.map tI)), x5, x6, x7, x8, x9, x10, x11, x12, x13, x14, x15, x16, x17, x18, x19, .fz (.dk (dI ps f))]) (fun Q q => ?_) (et_test (b := false) (ev_bin (d := tI (diffs ws)) (k := .fz) (ev_call (ex_cons (ev_cl (ea_cons (ev_own rfl) ea_nil) cTup_l) ex_nil) fun q hq => ⟨ws, hw, rfl, hq⟩) (e := tI (diffs ws)) (k' := .fz) ?_ (bNe_self (n := 2) Gd.tI))) (h _ _ _ _ _ _ _ _ _ _ _ _ _ _ _ _ _ _ _)
  · refine (show wCall spFirst _ _ _ from ?_)
    refine (ex_cons (ρ := [x0, .w, x2, .fz (.int (n : Int)), .ow (.lst (ws.map tI)), x5, x6, x7, x8, x9, x10, x11, x12, x13, x14, x15, x16, x17, x18, x19, .ow (.dk (dI ps f))]) (ev_cl (ea_cons (ev_own (i := 4) rfl) ea_nil) cTup_l) ex_nil) _ ?_
    refine ⟨ws, hw, rfl, fun ps' f' hfi => ?_⟩
    dsimp only [toF]
    refine (show wVar 20 _ (toF _) from ?_)
    refine own_go (ρ := [x0, .w, x2, .fz (.int (n : Int)), .ow (.lst (ws.map tI)), x5, x6, x7, x8, x9, x10, x11, x12, x13, x14, x15, x16, x17, x18, x19, .ow (.dk (dI ps f))]) (i := 20) rfl ?_
    have hmm : ∀ m, m ∈ ps' ↔ m ∈ ps := fun m => by
      rw [hfi.mm, hm]; simp
    exact ⟨ps', ps, f', f, rfl, hfi.nd, hnd, hl, hmm, fun m hm' => isfst_uniq (hfi.fs m ((hmm m).mpr hm')) (hf m hm'), q⟩
  · have inner : ∀ k : Nat, Ev t_law_c10 ((wipeR [x0, .w, x2, .fz (.int (n : Int)), .ow (.lst (ws.map tI)), x5, x6, x7, x8, x9, x10, x11, x12, x13, x14, x15, x16, x17, x18, x19, .fz (.dk (dI ps f))] [8]).set 8 (.fz (.int (k : Int)))) (.int ((cnt ps f k : Nat) : Int)) .fz := fun k => by
      unfold t_law_c10
      have e := ev_comp1 (ρ := (wipeR [x0, .w, x2, .fz (.int (n : Int)), .ow (.lst (ws.map tI)), x5, x6, x7, x8, x9, x10, x11, x12, x13, x14, x15, x16, x17, x18, x19, .fz (.dk (dI ps f))] [8]).set 8 (.fz (.int (k : Int)))) (wi := wiK 20) (i := 19) (tt := t_law_i8) (t := wVar 19) (k := .fz) D.int (fun p => decide (f p = (k : Int))) D.int ps (by
        rw [← keys_dI f ps]; exact ei_k rfl) (by simp only [LIM]; omega) (fun p hp => by
        unfold t_law_i8
        exact et_test (ev_bin (ev_bin (ev_var rfl) (ev_var rfl) (sub_dI hp)) (ev_var rfl) (bEq_ints ..))) (fun p _ _ => ev_var rfl)
      exact ev_lenL e
    have e := ev_comp1 (ρ := [x0, .w, x2, .fz (.int (n : Int)), .ow (.lst (ws.map tI)), x5, x6, x7, x8, x9, x10, x11, x12, x13, x14, x15, x16, x17, x18, x19, .fz (.dk (dI ps f))]) (wi := wiR1 (wCons (wVar 3) wNil)) (i := 8) (tt := wYes) (t := t_law_c10) (k := .fz) (fun k : Nat => D.int (k : Int)) (fun _ => true) (fun k => .int ((cnt ps f k : Nat) : Int)) (List.range n) (ei_r1 (ea_cons (ev_var rfl) ea_nil) (by omega)) (by rw [List.length_range]; simp only [LIM]; omega) (fun _ _ => et_yes) (fun k _ _ => inner k)
    rw [List.filter_eq_self.mpr (by simp)] at e
    have ed : tI (diffs ws) = .tup ((List.range n).map fun k => D.int ((cnt ps f k : Nat) : Int)) := by
      unfold tI
      rw [diffs_eq (cnt ps f) fun k hk => cnt_eq hc hnd hm hf hk, List.map_map, hn]; rfl
    rw [ed]
    exact ev_cl (ea_cons e ea_nil) cTup_l
theorem s2_loop (hn : ws.length = n) (h5 : n ≤ 5) (hc : ChainOk ws) : ∀ (rest dn ps : List Int) (f : Int → Int) (x2 x3 x4 x5 x6 x7 x8 x9 x10 x11 x12 x13 x14 x15 x16 x17 x18 x19 x20 : Slot), dn ++ rest = at' ws (n - 1) → 1 ≤ n → FJ ws dn ps f →
    (∀ (ps : List Int) (f : Int → Int) (x2 x3 x4 x5 x6 x7 x8 x9 x10 x11 x12 x13 x14 x15 x16 x17 x18 x19 x20 : Slot), FJ ws (at' ws (n - 1)) ps f → P.nx [x0, .w, x2, .fz (.int (n : Int)), .ow (.lst (ws.map tI)), x5, x6, x7, x8, x9, x10, x11, x12, x13, x14, x15, x16, x17, x18, x19, .ow (.dk (dI ps f))]) →
    wLoop (wgName 19) t_law_f1 P (rest.map .int) [x0, .w, x2, .fz (.int (n : Int)), .ow (.lst (ws.map tI)), x5, x6, x7, x8, x9, x10, x11, x12, x13, x14, x15, x16, x17, x18, x19, .ow (.dk (dI ps f))]
  | [], dn, ps, f, x2, x3, x4, x5, x6, x7, x8, x9, x10, x11, x12, x13, x14, x15, x16, x17, x18, x19, x20, e, _, hi, h => by
    rw [List.append_nil] at e
    rw [e] at hi
    exact h ps f x2 x3 x4 x5 x6 x7 x8 x9 x10 x11 x12 x13 x14 x15 x16 x17 x18 x19 x20 hi
  | x :: rest, dn, ps, f, x2, x3, x4, x5, x6, x7, x8, x9, x10, x11, x12, x13, x14, x15, x16, x17, x18, x19, x20, e, h1, hi, h => by
    have hw := chain_ok hc (by omega)
    refine (show t_law_f1 ⟨wLoop (wgName 19) t_law_f1 P (rest.map .int), P.rt, P.nx, wLoop (wgName 19) t_law_f1 P (rest.map .int)⟩ [x0, .w, x2, .fz (.int (n : Int)), .ow (.lst (ws.map tI)), x5, x6, x7, x8, x9, x10, x11, x12, x13, x14, x15, x16, x17, x18, .fz (.int x), .ow (.dk (dI ps f))] from ?_)
    unfold t_law_f1
    have hx : x ∈ at' ws (n - 1) := by rw [← e]; simp
    obtain ⟨r, g0, g1, g2, g3⟩ := fst_head (n := n) (tb := fun k => decide (x ∈ at' ws k)) ⟨n - 1, by omega, decide_eq_true hx⟩
    have cmp := ev_comp1 (ρ := [x0, .w, x2, .fz (.int (n : Int)), .ow (.lst (ws.map tI)), x5, x6, x7, x8, x9, x10, x11, x12, x13, x14, x15, x16, x17, x18, .fz (.int x), .ow (.dk (dI ps f))]) (wi := wiR1 (wCons (wVar 3) wNil)) (i := 8) (tt := t_law_i7) (t := wVar 8) (k := .fz) (fun k : Nat => D.int (k : Int)) (fun k => decide (x ∈ at' ws k)) (fun k => .int (k : Int)) (List.range n) (ei_r1 (ea_cons (ev_var rfl) ea_nil) (by omega)) (by rw [List.length_range]; simp only [LIM]; omega) (fun k hk => by
      unfold t_law_i7
      exact et_test (ev_bin (ev_var rfl) (ev_bin (ev_own rfl) (ev_var rfl) (ix_natL (get_at (by rw [hn]; exact List.mem_range.mp hk)))) (in_tI x _))) (fun k _ _ => ev_var rfl)
    have hd : dn.length ≤ 100 := by
      have := at_len hw (i := n - 1)
      rw [← e, List.length_append] at this; omega
    refine go_dputI (v := (r : Int)) rfl (ev_bin cmp ev_con (ix_natL (k := 0) (by rw [List.getElem?_map, g0]; rfl))) (ev_var rfl) (by have := hi.ln; simp only [LIM]; omega) ?_
    have hfst : IsFst ws x (r : Int) := ⟨r, rfl, of_decide_eq_true g2, fun j hj => of_decide_eq_false (g3 j hj)⟩
    exact s2_loop hn h5 hc rest (dn ++ [x]) _ _ x2 .un .un x5 x6 x7 x8 x9 x10 x11 x12 x13 x14 x15 x16 x17 x18 _ .un (by rw [List.append_assoc]; exact e) h1 (fj_step hi hfst) h
theorem s2_ok (hn : ws.length = n) (h1 : 1 ≤ n) (h5 : n ≤ 5) (hc : ChainOk ws) (h : ∀ x2 x3 x4 x5 x6 x7 x8 x9 x10 x11 x12 x13 x14 x15 x16 x17 x18 x19 x20, P.nx [x0, .w, x2, x3, x4, x5, x6, x7, x8, x9, x10, x11, x12, x13, x14, x15, x16, x17, x18, x19, x20]) :
    t_law_s2 spSameI spFirst spSteps P [x0, .w, x2, .fz (.int (n : Int)), .ow (.lst (ws.map tI)), x5, x6, x7, x8, x9, x10, x11, x12, x13, x14, x15, x16, x17, x18, x19, x20] := by
  have hw := chain_ok hc (by omega)
  unfold t_law_s2
  refine sq_asgN ev_dk0 ?_
  refine (show wSeq _ _ _ [x0, .w, x2, .fz (.int (n : Int)), .ow (.lst (ws.map tI)), x5, x6, x7, x8, x9, x10, x11, x12, x13, x14, x15, x16, x17, x18, x19, .ow (.dk (dI [] fun _ => 0))] from ?_)
  obtain ⟨m, em⟩ := last_at (ws := ws) (by omega)
  refine sq (go_for (ei_tupF (xs := (at' ws (n - 1)).map .int) (ev_bin (d := .lst (ws.map tI)) (ev_own rfl) (ev_un ev_con uNeg_i) (by rw [em, hn]; exact sub_last))) ?_)
  refine s2_loop hn h5 hc (at' ws (n - 1)) [] [] (fun _ => 0) x2 .un .un x5 x6 x7 x8 x9 x10 x11 x12 x13 x14 x15 x16 x17 x18 x19 .un rfl h1 ⟨List.nodup_nil, by simp, by simp, by simp⟩ fun ps f x2 x3 x4 x5 x6 x7 x8 x9 x10 x11 x12 x13 x14 x15 x16 x17 x18 x19 x20 hj => ?_
  refine s1_ok hn h5 hc hj.nd ?_ (fun p => ?_) hj.fs h
  · have := hj.ln
    have h6 : (at' ws (n - 1)).length ≤ 6 := by
      have hm : at' ws (n - 1) ∈ ws := by
        unfold at'
        rw [List.getD_eq_getElem?_getD, List.getElem?_eq_getElem (by omega)]
        exact List.getElem_mem _
      exact six_len (hc.nd _ hm) (hc.rg _ hm)
    omega
  · rw [hj.mm]
    exact ⟨fun hp => ⟨n - 1, by omega, hp⟩, fun ⟨i, hi, hp⟩ => hc.ch i (n - 1) (by omega) (by omega) p hp⟩
theorem nat_of {r : Int} (h : 0 ≤ r) : ∃ i : Nat, r = (i : Int) := ⟨r.toNat, by omega⟩
theorem s3_ok (hn : ws.length = n) (h1 : 1 ≤ n) (h5 : n ≤ 5) (hc : ChainOk ws) (h : ∀ x2 x3 x4 x5 x6 x7 x8 x9 x10 x11 x12 x13 x14 x15 x16 x17 x18 x19 x20, P.nx [x0, .w, x2, x3, x4, x5, x6, x7, x8, x9, x10, x11, x12, x13, x14, x15, x16, x17, x18, x19, x20]) :
    t_law_s3 spNext spBetween spSameI spFirst spSteps P [x0, .w, x2, .fz (.int (n : Int)), .ow (.lst (ws.map tI)), x5, x6, x7, x8, x9, x10, x11, x12, x13, x14, x15, x16, x17, x18, x19, x20] := by
  have hw := chain_ok hc (by omega)
  unfold t_law_s3
  refine sq_asgD (dm_next rfl (ev_var (d := .int (n : Int)) rfl) (by omega)) fun d ⟨r, e, r0, r1⟩ => ?_
  subst e
  obtain ⟨i, rfl⟩ := nat_of r0
  refine (show wSeq _ _ _ [x0, .w, x2, .fz (.int (n : Int)), .ow (.lst (ws.map tI)), x5, x6, x7, x8, x9, .fz (.int (i : Int)), x11, x12, x13, x14, x15, x16, x17, x18, x19, x20] from ?_)
  refine sq_asgD (dm_addE (x := (i : Int)) (W := fun r => 0 ≤ r ∧ r < (n : Int) - (i : Int)) (ev_var rfl) (dm_next rfl (ev_bin (ev_var (d := .int (n : Int)) rfl) (ev_var rfl) bSub_i) (by omega))) fun d ⟨r, e, r0, r2⟩ => ?_
  subst e
  obtain ⟨j, ej⟩ := nat_of (r := (i : Int) + r) (by omega)
  rw [ej]
  have hi : i < ws.length := by omega
  have hj : j < ws.length := by omega
  refine (show wSeq _ _ _ [x0, .w, x2, .fz (.int (n : Int)), .ow (.lst (ws.map tI)), x5, x6, x7, x8, x9, .fz (.int (i : Int)), .fz (.int (j : Int)), x12, x13, x14, x15, x16, x17, x18, x19, x20] from ?_)
  have ei : Ev (wBin bSubs (wVar 4) (wVar 10)) [x0, .w, x2, .fz (.int (n : Int)), .ow (.lst (ws.map tI)), x5, x6, x7, x8, x9, .fz (.int (i : Int)), .fz (.int (j : Int)), x12, x13, x14, x15, x16, x17, x18, x19, x20] (tI (at' ws i)) .fz := ev_bin (ev_own rfl) (ev_var rfl) (ix_natL (get_at hi))
  have ej : Ev (wBin bSubs (wVar 4) (wVar 11)) [x0, .w, x2, .fz (.int (n : Int)), .ow (.lst (ws.map tI)), x5, x6, x7, x8, x9, .fz (.int (i : Int)), .fz (.int (j : Int)), x12, x13, x14, x15, x16, x17, x18, x19, x20] (tI (at' ws j)) .fz := ev_bin (ev_own rfl) (ev_var rfl) (ix_natL (get_at hj))
  have hlj := at_len hw (i := j)
  have cmp := ev_comp1 (ρ := [x0, .w, x2, .fz (.int (n : Int)), .ow (.lst (ws.map tI)), x5, x6, x7, x8, x9, .fz (.int (i : Int)), .fz (.int (j : Int)), x12, x13, x14, x15, x16, x17, x18, x19, x20]) (wi := wiO (wBin bSubs (wVar 4) (wVar 11))) (i := 19) (tt := t_law_i6) (t := wVar 19) (k := .fz) D.int (fun x => !decide (x ∈ at' ws i)) D.int (at' ws j) (ei_tup ej) (by simp only [LIM]; omega) (fun x _ => by
    unfold t_law_i6
    exact et_test (ev_bin (ev_var rfl) (ev_bin (ev_own rfl) (ev_var rfl) (ix_natL (get_at hi))) (notin_tI x _))) (fun x _ _ => ev_var rfl)
  refine sq_skip (et_test (b := false) (ev_bin (d := .tup [tI (at' ws i), tI ((at' ws j).filter fun x => !decide (x ∈ at' ws i))]) (k := .fz) (ev_call (ex_cons ei (ex_cons ej ex_nil)) fun q hq => ⟨_, _, by omega, rfl, hq⟩) (ev_tup (ea_consF ei (ea_consF (ev_cl (ea_cons cmp ea_nil) cTup_l) ea_nil))) (bNe_self (n := 3) (.tup fun x hx => ?_)))) ?_
  · simp only [List.mem_cons, List.not_mem_nil, or_false] at hx
    rcases hx with rfl | rfl
    · exact Gd.tI
    · exact Gd.tI
  · exact s2_ok hn h1 h5 hc h
theorem s4_ok {seen : List Int} (hn : ws.length = n) (h1 : 1 ≤ n) (h5 : n ≤ 5) (hc : ChainOk ws) (hs : seen.length ≤ 100) (h : ∀ x2 x3 x4 x5 x6 x7 x8 x9 x10 x11 x12 x13 x14 x15 x16 x17 x18 x19 x20, P.nx [x0, .w, x2, x3, x4, x5, x6, x7, x8, x9, x10, x11, x12, x13, x14, x15, x16, x17, x18, x19, x20]) :
    t_law_s4 spWth spWhere spNext spBetween spSameI spFirst spSteps P [x0, .w, x2, .fz (.int (n : Int)), .ow (.lst (ws.map tI)), x5, x6, x7, x8, x9, x10, x11, x12, x13, x14, x15, .fz (tI seen), x17, x18, x19, x20] := by
  have hw := chain_ok hc (by omega)
  unfold t_law_s4
  have okT : ∀ l : List (List Int), okE 20 (.lst (l.map tI)) = true := fun l => okL fun x hx => by
    obtain ⟨w, _, rfl⟩ := List.mem_map.mp hx
    exact (Gd.tI (n := 18)).1
  have test : ∀ k : Nat, Et (t_law_i5 spWth) ((wipeR [x0, .w, x2, .fz (.int (n : Int)), .ow (.lst (ws.map tI)), x5, x6, x7, x8, x9, x10, x11, x12, x13, x14, x15, .fz (tI seen), x17, x18, x19, x20] [8]).set 8 (.fz (.int (k : Int)))) (decide (((ws.take k).filter fun w => !wth w seen) = []) && decide (((ws.drop k).filter fun w => !wth seen w) = [])) := fun k => by
    unfold t_law_i5
    have c1 := ev_comp1 (ρ := (wipeR [x0, .w, x2, .fz (.int (n : Int)), .ow (.lst (ws.map tI)), x5, x6, x7, x8, x9, x10, x11, x12, x13, x14, x15, .fz (tI seen), x17, x18, x19, x20] [8]).set 8 (.fz (.int (k : Int)))) (wi := wiO (wSlice (wVar 4) wPNone (wPSome (wVar 8)))) (i := 18) (tt := t_law_i4 spWth) (t := wVar 18) (k := .fz) tI (fun w => !wth w seen) tI (ws.take k) (by
      rw [List.map_take]; exact ei_lst (ev_slE (ev_own rfl) (ev_var rfl) slL_to)) (by rw [List.length_take]; simp only [LIM]; omega) (fun w hm => by
      unfold t_law_i4
      exact et_not (et_test (ev_call (k := .fz) (ex_cons (ev_var rfl) (ex_cons (ev_var rfl) ex_nil)) fun q hq => ⟨w, seen, by have := hw.2 w (List.mem_of_mem_take hm); omega, rfl, hq⟩))) (fun w _ _ => ev_var rfl)
    have c2 := ev_comp1 (ρ := (wipeR [x0, .w, x2, .fz (.int (n : Int)), .ow (.lst (ws.map tI)), x5, x6, x7, x8, x9, x10, x11, x12, x13, x14, x15, .fz (tI seen), x17, x18, x19, x20] [8]).set 8 (.fz (.int (k : Int)))) (wi := wiO (wSlice (wVar 4) (wPSome (wVar 8)) wPNone)) (i := 18) (tt := t_law_i3 spWth) (t := wVar 18) (k := .fz) tI (fun w => !wth seen w) tI (ws.drop k) (by
      rw [List.map_drop]; exact ei_lst (ev_slB (ev_own rfl) (ev_var rfl) slL_from)) (by rw [List.length_drop]; simp only [LIM]; omega) (fun w hm => by
      unfold t_law_i3
      exact et_not (et_test (ev_call (k := .fz) (ex_cons (ev_var rfl) (ex_cons (ev_var rfl) ex_nil)) fun q hq => ⟨seen, w, by omega, rfl, hq⟩))) (fun w _ _ => ev_var rfl)
    refine et_and (et_test (k := .fz) (ev_bin c1 (ev_lst ea_nil) ?_)) fun _ => et_test (k := .fz) (ev_bin c2 (ev_lst ea_nil) ?_)
    · rw [bEq_nil (okT _)]
      show some (D.bl (decide (_ = [])), Kd.fz) = some (D.bl (decide (_ = [])), Kd.fz)
      congr 4
      exact propext List.map_eq_nil_iff
    · rw [bEq_nil (okT _)]
      show some (D.bl (decide (_ = [])), Kd.fz) = some (D.bl (decide (_ = [])), Kd.fz)
      congr 4
      exact propext List.map_eq_nil_iff
  have cmp := ev_comp1 (ρ := [x0, .w, x2, .fz (.int (n : Int)), .ow (.lst (ws.map tI)), x5, x6, x7, x8, x9, x10, x11, x12, x13, x14, x15, .fz (tI seen), x17, x18, x19, x20]) (wi := wiR1 (wCons (wBin bAdd (wVar 3) (wCon (.int 1))) wNil)) (i := 8) (tt := t_law_i5 spWth) (t := wVar 8) (k := .fz) (fun k : Nat => D.int (k : Int)) _ (fun k => .int (k : Int)) (List.range (n + 1)) (ei_r1 (ea_cons (ev_bin (ev_var rfl) ev_con bAdd_i) ea_nil) (by omega)) (by rw [List.length_range]; simp only [LIM]; omega) (fun k _ => test k) (fun k _ _ => ev_var rfl)
  refine sq_asgN cmp ?_
  generalize hA : ((List.range (n + 1)).filter fun k => decide (((ws.take k).filter fun w => !wth w seen) = []) && decide (((ws.drop k).filter fun w => !wth seen w) = [])) = A
  refine (show wSeq _ _ _ [x0, .w, x2, .fz (.int (n : Int)), .ow (.lst (ws.map tI)), x5, x6, x7, x8, x9, x10, x11, x12, x13, x14, x15, .fz (tI seen), .ow (.lst (nI A)), x18, x19, x20] from ?_)
  have raw : Dm (wCall spWhere (xCons (wCl cTuple (wCons (wVar 4) wNil)) (xCons (wVar 16) xNil))) [x0, .w, x2, .fz (.int (n : Int)), .ow (.lst (ws.map tI)), x5, x6, x7, x8, x9, x10, x11, x12, x13, x14, x15, .fz (tI seen), .ow (.lst (nI A)), x18, x19, x20] (fun d => ∃ f l : Nat, f ≤ n ∧ l ≤ n ∧ A = ableL n f l ∧ d = if f ≤ l then .tup [.int (f : Int), .int (l : Int)] else .non) := fun Q q => by
    refine (ex_cons (ρ := [x0, .w, x2, .fz (.int (n : Int)), .ow (.lst (ws.map tI)), x5, x6, x7, x8, x9, x10, x11, x12, x13, x14, x15, .fz (tI seen), .ow (.lst (nI A)), x18, x19, x20]) (ev_cl (ea_cons (ev_own (i := 4) rfl) ea_nil) cTup_l) (ex_cons (ev_var (i := 16) rfl) ex_nil)) _ ?_
    refine ⟨ws, seen, hw, hs, rfl, fun f l hf hl => q _ ⟨f, l, by have := hf.1; omega, by have := hl.1; omega, ?_, rfl⟩⟩
    rw [← hA, ← hn]
    exact able_eq hf hl
  have okA : okE 20 (.lst (nI A)) = true := okL_nI A
  refine sq_neD raw (fun d ⟨f, l, hf, hl, eA, e⟩ => ?_) (s3_ok hn h1 h5 hc h)
  subst e
  have eIf : Ev (wIfE (wTest (wBin bNe (wVar 17) (wLst wNil))) (wTup (wConsF (wBin bSubs (wVar 17) (wCon (.int 0))) (wConsF (wBin bSubs (wVar 17) (wUn uNeg (wCon (.int 1)))) wNil))) (wCon .non)) [x0, .w, x2, .fz (.int (n : Int)), .ow (.lst (ws.map tI)), x5, x6, x7, x8, x9, x10, x11, x12, x13, x14, x15, .fz (tI seen), .ow (.lst (nI A)), x18, x19, x20] (if f ≤ l then .tup [.int (f : Int), .int (l : Int)] else .non) .fz := by
    by_cases c : f ≤ l
    · obtain ⟨a1, m, a2⟩ := ableL_some n (by omega) f (by omega) l (by omega) hl c
      rw [← eA] at a1 a2
      rw [if_pos c]
      refine ev_ifT (et_test (k := .fz) (ev_bin (ev_own rfl) (ev_lst ea_nil) ?_)) (ev_tup (ea_consF (ev_bin (z := .int (f : Int)) (kz := .fz) (ev_own rfl) ev_con (ix_natL (k := 0) ?_)) (ea_consF (ev_bin (z := .int (l : Int)) (kz := .fz) (ev_own rfl) (ev_un ev_con uNeg_i) ?_) ea_nil)))
      · rw [bNe_nilL okA]
        have : ¬ nI A = [] := by rw [a2]; unfold nI; simp
        rw [decide_eq_false this]; rfl
      · unfold nI; rw [List.getElem?_map, a1]; rfl
      · have : nI A = nI m ++ [.int (l : Int)] := by rw [a2]; unfold nI; rw [List.map_append]; rfl
        rw [this]; exact sub_last
    · rw [if_neg c]
      rw [ableL_none c] at eA
      refine ev_ifF (et_test (k := .fz) (ev_bin (ev_own rfl) (ev_lst ea_nil) ?_)) ev_con
      rw [bNe_nilL okA, eA]; rfl
  have gd : Gd 2 (if f ≤ l then D.tup [.int (f : Int), .int (l : Int)] else .non) := by
    split
    · exact .tup fun x hx => by
        simp only [List.mem_cons, List.not_mem_nil, or_false] at hx
        rcases hx with rfl | rfl <;> exact .int
    · exact .non
  exact ⟨eIf, bNe_self gd⟩
theorem s5_ok (hn : ws.length = n) (h1 : 1 ≤ n) (h5 : n ≤ 5) (hc : ChainOk ws) (h : ∀ x2 x3 x4 x5 x6 x7 x8 x9 x10 x11 x12 x13 x14 x15 x16 x17 x18 x19 x20, P.nx [x0, .w, x2, x3, x4, x5, x6, x7, x8, x9, x10, x11, x12, x13, x14, x15, x16, x17, x18, x19, x20]) :
    t_law_s5 spNext spWth spWhere spBetween spSameI spFirst spSteps P [x0, .w, x2, .fz (.int (n : Int)), .ow (.lst (ws.map tI)), x5, x6, x7, x8, x9, x10, x11, x12, x13, x14, x15, x16, x17, x18, x19, x20] := by
  have hw := chain_ok hc (by omega)
  unfold t_law_s5
  refine sq_asgD (dm_set (i := 7) (M := 6) rfl (by decide) (by decide) (fun x => by
    unfold t_law_c9
    exact dm_next rfl ev_con (by decide))) fun d ⟨seen, e, hs⟩ => ?_
  subst e
  refine (show wSeq _ _ _ [x0, .w, x2, .fz (.int (n : Int)), .ow (.lst (ws.map tI)), x5, x6, x7, x8, x9, x10, x11, x12, x13, x14, x15, .fz (tI seen), x17, x18, x19, x20] from ?_)
  refine (dt_eq (V := fun r => 0 ≤ r ∧ r < 2) (dm_next rfl ev_con (by decide)) ev_con : Dt _ [x0, .w, x2, .fz (.int (n : Int)), .ow (.lst (ws.map tI)), x5, x6, x7, x8, x9, x10, x11, x12, x13, x14, x15, .fz (tI seen), x17, x18, x19, x20]) _ fun b => ?_
  cases b with
  | false => exact s4_ok hn h1 h5 hc hs h
  | true =>
    rw [if_pos rfl]
    refine (show wAsg 16 _ ⟨_, _, _, _⟩ [x0, .w, x2, .fz (.int (n : Int)), .ow (.lst (ws.map tI)), x5, x6, x7, x8, x9, x10, x11, x12, x13, x14, x15, .fz (tI seen), x17, x18, x19, x20] from ?_)
    refine go_asgD (R := fun d => ∃ i, d = tI (at' ws i)) (fun Q q => ?_) fun d ⟨i, e⟩ => ?_
    · refine (ev_own rfl : Ev (wVar 4) [x0, .w, x2, .fz (.int (n : Int)), .ow (.lst (ws.map tI)), x5, x6, x7, x8, x9, x10, x11, x12, x13, x14, x15, .fz (tI seen), x17, x18, x19, x20] (.lst (ws.map tI)) _) _ ?_
      refine (dm_next rfl (ev_var (d := .int (n : Int)) rfl) (by omega) : Dm (wCall spNext (xW 1 (xCons (wVar 3) xNil))) [x0, .w, x2, .fz (.int (n : Int)), .ow (.lst (ws.map tI)), x5, x6, x7, x8, x9, x10, x11, x12, x13, x14, x15, .fz (tI seen), x17, x18, x19, x20] _) _ fun d ⟨r, e, r0, r1⟩ => ?_
      subst e
      obtain ⟨i, rfl⟩ := nat_of r0
      rw [ix_natL (get_at (ws := ws) (i := i) (by omega))]
      exact q _ ⟨i, rfl⟩
    · subst e
      exact s4_ok hn h1 h5 hc (at_len hw) h
theorem s6_ok {us : List (List Int)} {cs : List (Nat × Nat)} (hn : ws.length = n) (h1 : 1 ≤ n) (h5 : n ≤ 5) (hc : ChainOk ws) (hu : WsOk us) (hul : us.length = n) (hcs : ∀ p ∈ cs, p.1 < n ∧ p.2 < n) (hcl : cs.length ≤ 72) (hk : Knows cs n (Rw us)) (h : ∀ x2 x3 x4 x5 x6 x7 x8 x9 x10 x11 x12 x13 x14 x15 x16 x17 x18 x19 x20, P.nx [x0, .w, x2, x3, x4, x5, x6, x7, x8, x9, x10, x11, x12, x13, x14, x15, x16, x17, x18, x19, x20]) :
    t_law_s6 spNext spWth spTwo spDue spWhere spBetween spSameI spFirst spSteps P [x0, .w, x2, .fz (.int (n : Int)), .ow (.lst (ws.map tI)), x5, .fz (.tup (us.map tI)), x7, x8, .fz (.lst (cs.map pD)), x10, x11, x12, x13, x14, x15, x16, x17, x18, x19, x20] := by
  unfold t_law_s6
  refine sq_asgD (R := fun d => ∃ bs : List (List Int), d = .tup (bs.map tI) ∧ bs.length = n ∧ WsOk bs) (fun Q q => ?_) fun d ⟨bs, e, hbl, hb⟩ => ?_
  · unfold wCl
    refine dmE_comp (R := SetD) (xs := (List.range n).map fun (k : Nat) => D.int (k : Int)) (i := 8) (by rw [List.length_map, List.length_range]; simp only [LIM]; omega) (ei_r1 (ea_cons (ev_var rfl) ea_nil) (by omega)) (fun x hx => ?_) rfl (fun _ => rfl) _ fun ds e1 e2 => ?_
    · obtain ⟨k, hk, rfl⟩ := List.mem_map.mp hx
      have hk := List.mem_range.mp hk
      unfold t_law_c6
      refine dm_if (dt_gt (V := fun r => 0 ≤ r ∧ r < 3) (dm_next rfl ev_con (by decide)) ev_con) (dm_ev (ev_bin (ev_var rfl) (ev_var rfl) (ix_natT (get_at (by omega)))) ⟨_, rfl, at_len hu⟩) (dm_ev (ev_tup ea_nil) ⟨[], rfl, by simp⟩)
    · obtain ⟨bs, rfl, h2⟩ := sets_of e2
      rw [List.length_map, List.length_map, List.length_range] at e1
      exact q _ ⟨bs, rfl, e1, ⟨by omega, h2⟩⟩
  · subst e
    refine (show wSeq _ _ _ [x0, .w, x2, .fz (.int (n : Int)), .ow (.lst (ws.map tI)), x5, .fz (.tup (us.map tI)), x7, x8, .fz (.lst (cs.map pD)), x10, x11, x12, x13, .fz (.tup (bs.map tI)), x15, x16, x17, x18, x19, x20] from ?_)
    have cmp := ev_comp2 (ρ := [x0, .w, x2, .fz (.int (n : Int)), .ow (.lst (ws.map tI)), x5, .fz (.tup (us.map tI)), x7, x8, .fz (.lst (cs.map pD)), x10, x11, x12, x13, .fz (.tup (bs.map tI)), x15, x16, x17, x18, x19, x20]) (wi := wiO (wVar 9)) (i := 10) (j := 11) (tt := t_law_i2 spWth) (t := t_law_c7) (k := .fz) (fun p : Nat × Nat => D.int (p.1 : Int)) (fun p => .int (p.2 : Int)) (fun p => wth (at' bs p.1) (at' bs p.2)) pD cs (ei_lst (ev_var rfl)) (by simp only [LIM]; omega) (fun p hp => by
      obtain ⟨g1, g2⟩ := hcs p hp
      unfold t_law_i2
      exact et_test (ev_call (k := .fz) (ex_cons (ev_bin (ev_var rfl) (ev_var rfl) (ix_natT (get_at (by omega)))) (ex_cons (ev_bin (ev_var rfl) (ev_var rfl) (ix_natT (get_at (by omega)))) ex_nil)) fun q hq => ⟨_, _, by have := at_len hb (i := p.1); omega, rfl, hq⟩)) (fun p _ _ => by
      unfold t_law_c7
      exact ev_tup (ea_consF (ev_var rfl) (ea_consF (ev_var rfl) ea_nil)))
    refine sq_asgN cmp ?_
    refine (show wSeq _ _ _ [x0, .w, x2, .fz (.int (n : Int)), .ow (.lst (ws.map tI)), x5, .fz (.tup (us.map tI)), x7, x8, .fz (.lst (cs.map pD)), x10, x11, x12, x13, .fz (.tup (bs.map tI)), .ow (.lst ((cs.filter fun p => wth (at' bs p.1) (at' bs p.2)).map pD)), x16, x17, x18, x19, x20] from ?_)
    have cmp2 := ev_comp1 (ρ := [x0, .w, x2, .fz (.int (n : Int)), .ow (.lst (ws.map tI)), x5, .fz (.tup (us.map tI)), x7, x8, .fz (.lst (cs.map pD)), x10, x11, x12, x13, .fz (.tup (bs.map tI)), .ow (.lst ((cs.filter fun p => wth (at' bs p.1) (at' bs p.2)).map pD)), x16, x17, x18, x19, x20]) (wi := wiR1 (wCons (wVar 3) wNil)) (i := 8) (tt := wYes) (t := t_law_c8) (k := .fz) (fun k : Nat => D.int (k : Int)) (fun _ => true) (fun k => pD2 (at' us k, at' bs k)) (List.range n) (ei_r1 (ea_cons (ev_var rfl) ea_nil) (by omega)) (by rw [List.length_range]; simp only [LIM]; omega) (fun _ _ => et_yes) (fun k hk _ => by
      have hk := List.mem_range.mp hk
      unfold t_law_c8
      exact ev_tup (ea_consF (ev_bin (ev_var rfl) (ev_var rfl) (ix_natT (get_at (by omega)))) (ea_consF (ev_bin (ev_var rfl) (ev_var rfl) (ix_natT (get_at (by omega)))) ea_nil)))
    have ef : (List.range n).filter (fun _ => true) = List.range n := List.filter_eq_self.mpr (by simp)
    rw [ef] at cmp2
    have eps : (List.range n).map (fun k => pD2 (at' us k, at' bs k)) = (psN n us bs).map pD2 := by unfold psN; rw [List.map_map]; rfl
    rw [eps] at cmp2
    have pl : (psN n us bs).length = n := by unfold psN; rw [List.length_map, List.length_range]
    refine sq_due (R := R2 (psN n us bs)) (n := n) (i := 15) (ev_call (ex_cons (ev_cl (ea_cons cmp2 ea_nil) cTup_l) ex_nil) fun q hq => ⟨psN n us bs, ps_ok h5 hu hb, rfl, by rw [pl]; exact hq⟩) rfl rfl (R2_pre _) (fun i j hi hj hij => ?_) h1 h5 ?_
    · rw [R2_at hi hj, Bool.and_eq_true, List.mem_filter]
      have := hk i j hi hj hij
      exact and_congr this Iff.rfl
    · exact s5_ok hn h1 h5 hc h
theorem f2_ok (h : ∀ x2 x3 x4 x5 x6 x7 x8 x9 x10 x11 x12 x13 x14 x15 x16 x17 x18 x19 x20, P.nx [x0, .w, x2, x3, x4, x5, x6, x7, x8, x9, x10, x11, x12, x13, x14, x15, x16, x17, x18, x19, x20]) : t_law_f2 spNext spChain spPairs spWth spOrder spDue spTwo spWhere spBetween spSameI spFirst spSteps P [x0, .w, x2, x3, x4, x5, x6, x7, x8, x9, x10, x11, x12, x13, x14, x15, x16, x17, x18, x19, x20] := by
  unfold t_law_f2
  refine sq_asgD (dm_addE (x := 1) (W := fun r => 0 ≤ r ∧ r < 5) ev_con (dm_next rfl ev_con (by decide))) fun d ⟨r, e, r0, r1⟩ => ?_
  subst e
  obtain ⟨n, en⟩ := nat_of (r := 1 + r) (by omega)
  rw [en]
  have h1 : 1 ≤ n := by omega
  have h5 : n ≤ 5 := by omega
  refine (show wSeq _ _ _ [x0, .w, x2, .fz (.int (n : Int)), x4, x5, x6, x7, x8, x9, x10, x11, x12, x13, x14, x15, x16, x17, x18, x19, x20] from ?_)
  refine sq_asgDN (R := fun d => ∃ ws : List (List Int), d = .lst (ws.map tI) ∧ ws.length = n ∧ ChainOk ws) (fun Q q => ⟨rfl, ?_⟩) fun d ⟨ws, e, hn, hc⟩ => ?_
  · refine (ex_cons (ev_var rfl) ex_nil : Exs (xCons (wVar 3) xNil) [x0, .w, x2, .fz (.int (n : Int)), x4, x5, x6, x7, x8, x9, x10, x11, x12, x13, x14, x15, x16, x17, x18, x19, x20] _) _ ?_
    exact ⟨n, h5, rfl, fun ws g1 g2 => q _ ⟨ws, rfl, g1, g2⟩⟩
  subst e
  have hw := chain_ok hc (by omega)
  refine (show wSeq _ _ _ [x0, .w, x2, .fz (.int (n : Int)), .ow (.lst (ws.map tI)), x5, x6, x7, x8, x9, x10, x11, x12, x13, x14, x15, x16, x17, x18, x19, x20] from ?_)
  have hpl := pick_len (ws := ws) (by omega)
  have e1 : Ev (wStep (some 1) 2 (wVar 4)) [x0, .w, x2, .fz (.int (n : Int)), .ow (.lst (ws.map tI)), x5, x6, x7, x8, x9, x10, x11, x12, x13, x14, x15, x16, x17, x18, x19, x20] (.lst ((pickD (some 1) 2 ws).map tI)) .nw := fun Q q => (ev_own rfl : Ev (wVar 4) [x0, .w, x2, .fz (.int (n : Int)), .ow (.lst (ws.map tI)), x5, x6, x7, x8, x9, x10, x11, x12, x13, x14, x15, x16, x17, x18, x19, x20] (.lst (ws.map tI)) _) _ (by
    rw [← pick_map] at q
    exact ⟨by rw [pick_map, List.length_map]; rw [List.length_append] at hpl; simp only [LIM]; omega, q⟩)
  have e2 : Ev (wStep none 2 (wVar 4)) [x0, .w, x2, .fz (.int (n : Int)), .ow (.lst (ws.map tI)), x5, x6, x7, x8, x9, x10, x11, x12, x13, x14, x15, x16, x17, x18, x19, x20] (.lst ((pickD none 2 ws).map tI)) .nw := fun Q q => (ev_own rfl : Ev (wVar 4) [x0, .w, x2, .fz (.int (n : Int)), .ow (.lst (ws.map tI)), x5, x6, x7, x8, x9, x10, x11, x12, x13, x14, x15, x16, x17, x18, x19, x20] (.lst (ws.map tI)) _) _ (by
    rw [← pick_map] at q
    exact ⟨by rw [pick_map, List.length_map]; rw [List.length_append] at hpl; simp only [LIM]; omega, q⟩)
  refine sq_asgN (ev_bin e1 e2 (by rw [bAdd_l, if_pos (by rw [List.length_map, List.length_map]; rw [List.length_append] at hpl; simp only [LIM]; omega), ← List.map_append])) ?_
  generalize hmx : pickD (some 1) 2 ws ++ pickD none 2 ws = mx at hpl
  have hmm : ∀ w ∈ mx, w.length ≤ 100 := fun w hw2 => by
    rw [← hmx] at hw2
    rcases List.mem_append.mp hw2 with h | h <;> exact hw.2 w (pick_mem h)
  refine (show wSeq _ _ _ [x0, .w, x2, .fz (.int (n : Int)), .ow (.lst (ws.map tI)), .ow (.lst (mx.map tI)), x6, x7, x8, x9, x10, x11, x12, x13, x14, x15, x16, x17, x18, x19, x20] from ?_)
  refine sq_asgD (dm_tupIf (T := fun xs => ∃ us : List (List Int), xs = us.map tI ∧ us.length = n ∧ WsOk us) (dt_eq (V := fun r => 0 ≤ r ∧ r < 2) (dm_next rfl ev_con (by decide)) ev_con) (fun Q q => ?_) (fun Q q => ?_)) fun d ⟨xs, e, us, e', hul, hu⟩ => ?_
  · refine (ev_own rfl : Ev (wVar 5) [x0, .w, x2, .fz (.int (n : Int)), .ow (.lst (ws.map tI)), .ow (.lst (mx.map tI)), x6, x7, x8, x9, x10, x11, x12, x13, x14, x15, x16, x17, x18, x19, x20] (.lst (mx.map tI)) _) _ ?_
    exact q _ _ ⟨mx, rfl, by omega, ⟨by omega, hmm⟩⟩
  · refine dmE_comp (wi := wiR1 (wCons (wVar 3) wNil)) (t := t_law_c2 spNext) (R := SetD) (xs := (List.range n).map fun (k : Nat) => D.int (k : Int)) (i := 8) (ρ := [x0, .w, x2, .fz (.int (n : Int)), .ow (.lst (ws.map tI)), .ow (.lst (mx.map tI)), x6, x7, x8, x9, x10, x11, x12, x13, x14, x15, x16, x17, x18, x19, x20]) (by rw [List.length_map, List.length_range]; simp only [LIM]; omega) (ei_r1 (ea_cons (ev_var rfl) ea_nil) (by omega)) (fun x hx => ?_) rfl (fun _ => rfl) _ fun ds e1 e2 => ?_
    · unfold t_law_c2
      exact dm_set (i := 7) (M := 4) rfl (by decide) (by decide) (fun x => by
        unfold t_law_c1
        exact dm_next rfl ev_con (by decide))
    · obtain ⟨bs, rfl, h2⟩ := sets_of e2
      rw [List.length_map, List.length_map, List.length_range] at e1
      exact q _ _ ⟨bs, rfl, e1, ⟨by omega, h2⟩⟩
  subst e'
  subst e
  refine (show wSeq _ _ _ [x0, .w, x2, .fz (.int (n : Int)), .ow (.lst (ws.map tI)), .ow (.lst (mx.map tI)), .fz (.tup (us.map tI)), x7, x8, x9, x10, x11, x12, x13, x14, x15, x16, x17, x18, x19, x20] from ?_)
  have pl := pairs_len (n := n) (by omega)
  have ei := ei_call (ρ := [x0, .w, x2, .fz (.int (n : Int)), .ow (.lst (ws.map tI)), .ow (.lst (mx.map tI)), .fz (.tup (us.map tI)), x7, x8, x9, x10, x11, x12, x13, x14, x15, x16, x17, x18, x19, x20]) (sp := spPairs) (tx := xCons (wVar 3) xNil) (xs := (pairsN n).map pD) (ex_cons (ev_var rfl) ex_nil) fun q hq => ⟨n, by omega, rfl, hq _⟩
  have c1 := ev_comp2 (ρ := [x0, .w, x2, .fz (.int (n : Int)), .ow (.lst (ws.map tI)), .ow (.lst (mx.map tI)), .fz (.tup (us.map tI)), x7, x8, x9, x10, x11, x12, x13, x14, x15, x16, x17, x18, x19, x20]) (wi := wiO (wCall spPairs (xCons (wVar 3) xNil))) (i := 12) (j := 13) (tt := wYes) (t := t_law_c3) (k := .fz) (fun p : Nat × Nat => D.int (p.1 : Int)) (fun p => .int (p.2 : Int)) (fun _ => true) pD (pairsN n) ei (by simp only [LIM]; omega) (fun _ _ => et_yes) (fun p _ _ => by
    unfold t_law_c3
    exact ev_tup (ea_consF (ev_var rfl) (ea_consF (ev_var rfl) ea_nil)))
  have c2 := ev_comp2 (ρ := [x0, .w, x2, .fz (.int (n : Int)), .ow (.lst (ws.map tI)), .ow (.lst (mx.map tI)), .fz (.tup (us.map tI)), x7, x8, x9, x10, x11, x12, x13, x14, x15, x16, x17, x18, x19, x20]) (wi := wiO (wCall spPairs (xCons (wVar 3) xNil))) (i := 12) (j := 13) (tt := wYes) (t := t_law_c4) (k := .fz) (fun p : Nat × Nat => D.int (p.1 : Int)) (fun p => .int (p.2 : Int)) (fun _ => true) (fun p => pD (swp p)) (pairsN n) ei (by simp only [LIM]; omega) (fun _ _ => et_yes) (fun p _ _ => by
    unfold t_law_c4
    exact ev_tup (ea_consF (ev_var rfl) (ea_consF (ev_var rfl) ea_nil)))
  rw [List.filter_eq_self.mpr (by simp)] at c1 c2
  have ecs : (pairsN n).map pD ++ (pairsN n).map (fun p => pD (swp p)) = (csN n).map pD := by unfold csN; rw [List.map_append, List.map_map]; rfl
  have c12 := ev_bin (f := bAdd) (z := .lst ((csN n).map pD)) (kz := .nw) c1 c2 (by rw [bAdd_l, if_pos (by rw [List.length_map, List.length_map]; simp only [LIM]; omega), ecs])
  have cl := cs_len (n := n) h5
  have cmp := ev_comp2 (ρ := [x0, .w, x2, .fz (.int (n : Int)), .ow (.lst (ws.map tI)), .ow (.lst (mx.map tI)), .fz (.tup (us.map tI)), x7, x8, x9, x10, x11, x12, x13, x14, x15, x16, x17, x18, x19, x20]) (i := 10) (j := 11) (tt := t_law_i1 spWth) (t := t_law_c5) (k := .fz) (fun p : Nat × Nat => D.int (p.1 : Int)) (fun p => .int (p.2 : Int)) (fun p => wth (at' us p.1) (at' us p.2)) pD (csN n) (ei_lst c12) (by simp only [LIM]; omega) (fun p hp => by
    obtain ⟨g1, g2⟩ := cs_lt hp
    unfold t_law_i1
    exact et_test (ev_call (k := .fz) (ex_cons (ev_bin (ev_var rfl) (ev_var rfl) (ix_natT (get_at (by omega)))) (ex_cons (ev_bin (ev_var rfl) (ev_var rfl) (ix_natT (get_at (by omega)))) ex_nil)) fun q hq => ⟨_, _, by have := at_len hu (i := p.1); omega, rfl, hq⟩)) (fun p _ _ => by
    unfold t_law_c5
    exact ev_tup (ea_consF (ev_var rfl) (ea_consF (ev_var rfl) ea_nil)))
  refine sq_asgN cmp ?_
  refine (show wSeq _ _ _ [x0, .w, x2, .fz (.int (n : Int)), .ow (.lst (ws.map tI)), .ow (.lst (mx.map tI)), .fz (.tup (us.map tI)), x7, x8, .ow (.lst (((csN n).filter fun p => wth (at' us p.1) (at' us p.2)).map pD)), x10, x11, x12, x13, x14, x15, x16, x17, x18, x19, x20] from ?_)
  have kn : Knows ((csN n).filter fun p => wth (at' us p.1) (at' us p.2)) n (Rw us) := fun i j hi hj hij => by
    rw [List.mem_filter]
    exact ⟨fun z => ⟨cs_all hi hj hij, z⟩, fun z => z.2⟩
  refine sq_due (R := Rw us) (n := n) (i := 9) (ev_call (ex_cons (ev_var rfl) ex_nil) fun q hq => ⟨us, hu, rfl, by rw [hul]; exact hq⟩) rfl rfl (Rw_pre us) kn h1 h5 ?_
  exact s6_ok hn h1 h5 hc hu hul (fun p hp => cs_lt (List.mem_filter.mp hp).1) (Nat.le_trans (List.length_filter_le ..) cl) kn h
end
theorem p_law (ns : List Int) (hn : ns.length ≤ 63) : t_law spNext spChain spPairs spWth spOrder spDue spTwo spWhere spBetween spSteps spSameI spFirst ⟨fun _ => False, fun d _ => d = .bl true, fun _ => False, fun _ => False⟩ (.fz (.fl (ns.map .int)) :: .w :: List.replicate 19 .un) := by
  unfold t_law
  refine sq (go_for (ei_r1 (n := 4) (ea_cons ev_con ea_nil) (by decide)) ?_)
  generalize (List.range 4).map (fun k : Nat => D.int (k : Int)) = xs
  refine loop_inv (fun _ ρ => ∃ x2 x3 x4 x5 x6 x7 x8 x9 x10 x11 x12 x13 x14 x15 x16 x17 x18 x19 x20 : Slot, ρ = [.fz (.fl (ns.map .int)), .w, x2, x3, x4, x5, x6, x7, x8, x9, x10, x11, x12, x13, x14, x15, x16, x17, x18, x19, x20]) (fun x r ρ hI J hJ => ?_) (fun ρ hI => ?_) _ _ ⟨_, _, _, _, _, _, _, _, _, _, _, _, _, _, _, _, _, _, _, rfl⟩
  · obtain ⟨x2, x3, x4, x5, x6, x7, x8, x9, x10, x11, x12, x13, x14, x15, x16, x17, x18, x19, x20, rfl⟩ := hI
    refine (show t_law_f2 spNext spChain spPairs spWth spOrder spDue spTwo spWhere spBetween spSameI spFirst spSteps _ [.fz (.fl (ns.map .int)), .w, .fz x, x3, x4, x5, x6, x7, x8, x9, x10, x11, x12, x13, x14, x15, x16, x17, x18, x19, x20] from ?_)
    refine f2_ok ?_
    intros
    exact hJ _ ⟨_, _, _, _, _, _, _, _, _, _, _, _, _, _, _, _, _, _, _, rfl⟩
  · obtain ⟨x2, x3, x4, x5, x6, x7, x8, x9, x10, x11, x12, x13, x14, x15, x16, x17, x18, x19, x20, rfl⟩ := hI
    rfl
end K15

namespace K15
open PySem PySem.Spec PyProof.Rows L2 VL
/-! ### what the top has written; the law's own head -/
theorem all_mk {l : PySem.W.OpenLaw} {w : World} {K : PySem.W.Frag} {h : Heap} {mg : Str → Option Value} {fa f1 f2 f3 f4 f5 f6 f7 f8 f9 f10 f11 f12 f13 f14 f15 f16 f17 f18 f19 : Addr} (X : K.In h) (G : h.Ns mainGlobals mg) (hfa : mg "law" = some (.ref fa)) {od1 an1 : Option Addr} {sl1 : Array (Option Value)} {oc1 kV1 dc1 pm1 cd1 ct1 : Value} {od2 an2 : Option Addr} {sl2 : Array (Option Value)} {oc2 kV2 dc2 pm2 cd2 ct2 : Value} {od3 an3 : Option Addr} {sl3 : Array (Option Value)} {oc3 kV3 dc3 pm3 cd3 ct3 : Value} {od4 an4 : Option Addr} {sl4 : Array (Option Value)} {oc4 kV4 dc4 pm4 cd4 ct4 : Value} {od5 an5 : Option Addr} {sl5 : Array (Option Value)} {oc5 kV5 dc5 pm5 cd5 ct5 : Value} {od6 an6 : Option Addr} {sl6 : Array (Option Value)} {oc6 kV6 dc6 pm6 cd6 ct6 : Value} {od7 an7 : Option Addr} {sl7 : Array (Option Value)} {oc7 kV7 dc7 pm7 cd7 ct7 : Value} {od8 an8 : Option Addr} {sl8 : Array (Option Value)} {oc8 kV8 dc8 pm8 cd8 ct8 : Value} {od9 an9 : Option Addr} {sl9 : Array (Option Value)} {oc9 kV9 dc9 pm9 cd9 ct9 : Value} {od10 an10 : Option Addr} {sl10 : Array (Option Value)} {oc10 kV10 dc10 pm10 cd10 ct10 : Value} {od11 an11 : Option Addr} {sl11 : Array (Option Value)} {oc11 kV11 dc11 pm11 cd11 ct11 : Value} {od12 an12 : Option Addr} {sl12 : Array (Option Value)} {oc12 kV12 dc12 pm12 cd12 ct12 : Value} {od13 an13 : Option Addr} {sl13 : Array (Option Value)} {oc13 kV13 dc13 pm13 cd13 ct13 : Value} {od14 an14 : Option Addr} {sl14 : Array (Option Value)} {oc14 kV14 dc14 pm14 cd14 ct14 : Value} {od15 an15 : Option Addr} {sl15 : Array (Option Value)} {oc15 kV15 dc15 pm15 cd15 ct15 : Value} {od16 an16 : Option Addr} {sl16 : Array (Option Value)} {oc16 kV16 dc16 pm16 cd16 ct16 : Value} {od17 an17 : Option Addr} {sl17 : Array (Option Value)} {oc17 kV17 dc17 pm17 cd17 ct17 : Value} {od18 an18 : Option Addr} {sl18 : Array (Option Value)} {oc18 kV18 dc18 pm18 cd18 ct18 : Value} {od19 an19 : Option Addr} {sl19 : Array (Option Value)} {oc19 kV19 dc19 pm19 cd19 ct19 : Value}
    (a1 : PySem.W.nsIn K mainGlobals "is_within" = some (some (.ref f1))) (l1 : K.lookup f1 = some ⟨oc1, od1, .func (PySem.W.fnOf "is_within" "is_within" (defArgs s_is_within) (defBody s_is_within) (defScope s_is_within) .none kV1 dc1 pm1 an1 cd1 ct1), sl1⟩) (c1 : PySem.W.codeIn K cd1 "is_within" = true) (k1 : PySem.W.keepIn K (.ref f1) = true)
    (a2 : PySem.W.nsIn K mainGlobals "sorted_by" = some (some (.ref f2))) (l2 : K.lookup f2 = some ⟨oc2, od2, .func (PySem.W.fnOf "sorted_by" "sorted_by" (defArgs s_sorted_by) (defBody s_sorted_by) (defScope s_sorted_by) .none kV2 dc2 pm2 an2 cd2 ct2), sl2⟩) (c2 : PySem.W.codeIn K cd2 "sorted_by" = true) (k2 : PySem.W.keepIn K (.ref f2) = true)
    (a3 : PySem.W.nsIn K mainGlobals "first_unlike" = some (some (.ref f3))) (l3 : K.lookup f3 = some ⟨oc3, od3, .func (PySem.W.fnOf "first_unlike" "first_unlike" (defArgs s_first_unlike) (defBody s_first_unlike) (defScope s_first_unlike) .none kV3 dc3 pm3 an3 cd3 ct3), sl3⟩) (c3 : PySem.W.codeIn K cd3 "first_unlike" = true) (k3 : PySem.W.keepIn K (.ref f3) = true)
    (a4 : PySem.W.nsIn K mainGlobals "told_order" = some (some (.ref f4))) (l4 : K.lookup f4 = some ⟨oc4, od4, .func (PySem.W.fnOf "told_order" "told_order" (defArgs s_told_order) (defBody s_told_order) (defScope s_told_order) .none kV4 dc4 pm4 an4 cd4 ct4), sl4⟩) (c4 : PySem.W.codeIn K cd4 "told_order" = true) (k4 : PySem.W.keepIn K (.ref f4) = true)
    (a5 : PySem.W.nsIn K mainGlobals "order_of_wear" = some (some (.ref f5))) (l5 : K.lookup f5 = some ⟨oc5, od5, .func (PySem.W.fnOf "order_of_wear" "order_of_wear" (defArgs s_order_of_wear) (defBody s_order_of_wear) (defScope s_order_of_wear) .none kV5 dc5 pm5 an5 cd5 ct5), sl5⟩) (c5 : PySem.W.codeIn K cd5 "order_of_wear" = true) (k5 : PySem.W.keepIn K (.ref f5) = true)
    (a6 : PySem.W.nsIn K mainGlobals "two_sides" = some (some (.ref f6))) (l6 : K.lookup f6 = some ⟨oc6, od6, .func (PySem.W.fnOf "two_sides" "two_sides" (defArgs s_two_sides) (defBody s_two_sides) (defScope s_two_sides) .none kV6 dc6 pm6 an6 cd6 ct6), sl6⟩) (c6 : PySem.W.codeIn K cd6 "two_sides" = true) (k6 : PySem.W.keepIn K (.ref f6) = true)
    (a7 : PySem.W.nsIn K mainGlobals "where_in" = some (some (.ref f7))) (l7 : K.lookup f7 = some ⟨oc7, od7, .func (PySem.W.fnOf "where_in" "where_in" (defArgs s_where_in) (defBody s_where_in) (defScope s_where_in) .none kV7 dc7 pm7 an7 cd7 ct7), sl7⟩) (c7 : PySem.W.codeIn K cd7 "where_in" = true) (k7 : PySem.W.keepIn K (.ref f7) = true)
    (a8 : PySem.W.nsIn K mainGlobals "wear_between" = some (some (.ref f8))) (l8 : K.lookup f8 = some ⟨oc8, od8, .func (PySem.W.fnOf "wear_between" "wear_between" (defArgs s_wear_between) (defBody s_wear_between) (defScope s_wear_between) .none kV8 dc8 pm8 an8 cd8 ct8), sl8⟩) (c8 : PySem.W.codeIn K cd8 "wear_between" = true) (k8 : PySem.W.keepIn K (.ref f8) = true)
    (a9 : PySem.W.nsIn K mainGlobals "first_gone" = some (some (.ref f9))) (l9 : K.lookup f9 = some ⟨oc9, od9, .func (PySem.W.fnOf "first_gone" "first_gone" (defArgs s_first_gone) (defBody s_first_gone) (defScope s_first_gone) .none kV9 dc9 pm9 an9 cd9 ct9), sl9⟩) (c9 : PySem.W.codeIn K cd9 "first_gone" = true) (k9 : PySem.W.keepIn K (.ref f9) = true)
    (a10 : PySem.W.nsIn K mainGlobals "steps_of_wear" = some (some (.ref f10))) (l10 : K.lookup f10 = some ⟨oc10, od10, .func (PySem.W.fnOf "steps_of_wear" "steps_of_wear" (defArgs s_steps_of_wear) (defBody s_steps_of_wear) (defScope s_steps_of_wear) .none kV10 dc10 pm10 an10 cd10 ct10), sl10⟩) (c10 : PySem.W.codeIn K cd10 "steps_of_wear" = true) (k10 : PySem.W.keepIn K (.ref f10) = true)
    (a11 : PySem.W.nsIn K mainGlobals "_law_draws" = some (some (.ref f11))) (l11 : K.lookup f11 = some ⟨oc11, od11, .func (PySem.W.fnOf "_law_draws" "_law_draws" (defArgs s__law_draws) (defBody s__law_draws) (defScope s__law_draws) .none kV11 dc11 pm11 an11 cd11 ct11), sl11⟩) (c11 : PySem.W.codeIn K cd11 "_law_draws" = true) (k11 : PySem.W.keepIn K (.ref f11) = true)
    (a12 : PySem.W.nsIn K mainGlobals "_law_next" = some (some (.ref f12))) (l12 : K.lookup f12 = some ⟨oc12, od12, .func (PySem.W.fnOf "_law_next" "_law_next" (defArgs s__law_next) (defBody s__law_next) (defScope s__law_next) .none kV12 dc12 pm12 an12 cd12 ct12), sl12⟩) (c12 : PySem.W.codeIn K cd12 "_law_next" = true) (k12 : PySem.W.keepIn K (.ref f12) = true)
    (a13 : PySem.W.nsIn K mainGlobals "_law_same" = some (some (.ref f13))) (l13 : K.lookup f13 = some ⟨oc13, od13, .func (PySem.W.fnOf "_law_same" "_law_same" (defArgs s__law_same) (defBody s__law_same) (defScope s__law_same) .none kV13 dc13 pm13 an13 cd13 ct13), sl13⟩) (c13 : PySem.W.codeIn K cd13 "_law_same" = true) (k13 : PySem.W.keepIn K (.ref f13) = true)
    (a14 : PySem.W.nsIn K mainGlobals "_law_in" = some (some (.ref f14))) (l14 : K.lookup f14 = some ⟨oc14, od14, .func (PySem.W.fnOf "_law_in" "_law_in" (defArgs s__law_in) (defBody s__law_in) (defScope s__law_in) .none kV14 dc14 pm14 an14 cd14 ct14), sl14⟩) (c14 : PySem.W.codeIn K cd14 "_law_in" = true) (k14 : PySem.W.keepIn K (.ref f14) = true)
    (a15 : PySem.W.nsIn K mainGlobals "_law_orders" = some (some (.ref f15))) (l15 : K.lookup f15 = some ⟨oc15, od15, .func (PySem.W.fnOf "_law_orders" "_law_orders" (defArgs s__law_orders) (defBody s__law_orders) (defScope s__law_orders) .none kV15 dc15 pm15 an15 cd15 ct15), sl15⟩) (c15 : PySem.W.codeIn K cd15 "_law_orders" = true) (k15 : PySem.W.keepIn K (.ref f15) = true)
    (a16 : PySem.W.nsIn K mainGlobals "_law_due" = some (some (.ref f16))) (l16 : K.lookup f16 = some ⟨oc16, od16, .func (PySem.W.fnOf "_law_due" "_law_due" (defArgs s__law_due) (defBody s__law_due) (defScope s__law_due) .none kV16 dc16 pm16 an16 cd16 ct16), sl16⟩) (c16 : PySem.W.codeIn K cd16 "_law_due" = true) (k16 : PySem.W.keepIn K (.ref f16) = true)
    (a17 : PySem.W.nsIn K mainGlobals "_law_pairs" = some (some (.ref f17))) (l17 : K.lookup f17 = some ⟨oc17, od17, .func (PySem.W.fnOf "_law_pairs" "_law_pairs" (defArgs s__law_pairs) (defBody s__law_pairs) (defScope s__law_pairs) .none kV17 dc17 pm17 an17 cd17 ct17), sl17⟩) (c17 : PySem.W.codeIn K cd17 "_law_pairs" = true) (k17 : PySem.W.keepIn K (.ref f17) = true)
    (a18 : PySem.W.nsIn K mainGlobals "_law_chain" = some (some (.ref f18))) (l18 : K.lookup f18 = some ⟨oc18, od18, .func (PySem.W.fnOf "_law_chain" "_law_chain" (defArgs s__law_chain) (defBody s__law_chain) (defScope s__law_chain) .none kV18 dc18 pm18 an18 cd18 ct18), sl18⟩) (c18 : PySem.W.codeIn K cd18 "_law_chain" = true) (k18 : PySem.W.keepIn K (.ref f18) = true)
    (a19 : PySem.W.nsIn K mainGlobals "law" = some (some (.ref f19))) (l19 : K.lookup f19 = some ⟨oc19, od19, .func (PySem.W.fnOf "law" "law" (defArgs s_law) (defBody s_law) (defScope s_law) .none kV19 dc19 pm19 an19 cd19 ct19), sl19⟩) (c19 : PySem.W.codeIn K cd19 "law" = true) (k19 : PySem.W.keepIn K (.ref f19) = true)
    (z_all : PySem.W.nsIn K mainGlobals "all" = some none)
    (z_list : PySem.W.nsIn K mainGlobals "list" = some none)
    (z_range : PySem.W.nsIn K mainGlobals "range" = some none)
    (z_tuple : PySem.W.nsIn K mainGlobals "tuple" = some none)
    (z_len : PySem.W.nsIn K mainGlobals "len" = some none)
    (z_dict : PySem.W.nsIn K mainGlobals "dict" = some none)
    (z_max : PySem.W.nsIn K mainGlobals "max" = some none)
    (z_min : PySem.W.nsIn K mainGlobals "min" = some none)
    (z_zip : PySem.W.nsIn K mainGlobals "zip" = some none)
    (z_abs : PySem.W.nsIn K mainGlobals "abs" = some none)
    (z_int : PySem.W.nsIn K mainGlobals "int" = some none)
    (z_sorted : PySem.W.nsIn K mainGlobals "sorted" = some none)
    (z_isinstance : PySem.W.nsIn K mainGlobals "isinstance" = some none)
    (z_set : PySem.W.nsIn K mainGlobals "set" = some none)
    : ∃ fd : FuncData, (∀ (s : Shared) (v : Value), BindsTo s fd ⟨[v], []⟩ [("script", v)]) ∧ ∀ base : Heap, K.In base → base.Ns mainGlobals mg → FnOk l.prog w K mg base CX0 4 fa fd ["script"] (spLaw K) := by
  have e := hfa.symm.trans (PySem.W.mg_of X G a19)
  cases e
  have F1 := fun_mk (st := s_is_within) l1 c1 k1
  have b1 := F1.binds (ps := ["one", "other"]) fun _ _ _ _ _ _ us hl => match us, hl with | [_, _], _ => rfl
  let D1 : Df K mg "is_within" ["one", "other"] s_is_within := ⟨f1, _, F1, PySem.W.mg_of X G a1, b1⟩
  have F2 := fun_mk (st := s_sorted_by) l2 c2 k2
  have b2 := F2.binds (ps := ["many", "comes"]) fun _ _ _ _ _ _ us hl => match us, hl with | [_, _], _ => rfl
  let D2 : Df K mg "sorted_by" ["many", "comes"] s_sorted_by := ⟨f2, _, F2, PySem.W.mg_of X G a2, b2⟩
  have F3 := fun_mk (st := s_first_unlike) l3 c3 k3
  have b3 := F3.binds (ps := ["many", "comes"]) fun _ _ _ _ _ _ us hl => match us, hl with | [_, _], _ => rfl
  let D3 : Df K mg "first_unlike" ["many", "comes"] s_first_unlike := ⟨f3, _, F3, PySem.W.mg_of X G a3, b3⟩
  have F4 := fun_mk (st := s_told_order) l4 c4 k4
  have b4 := F4.binds (ps := ["many", "comes"]) fun _ _ _ _ _ _ us hl => match us, hl with | [_, _], _ => rfl
  let D4 : Df K mg "told_order" ["many", "comes"] s_told_order := ⟨f4, _, F4, PySem.W.mg_of X G a4, b4⟩
  have F5 := fun_mk (st := s_order_of_wear) l5 c5 k5
  have b5 := F5.binds (ps := ["wears"]) fun _ _ _ _ _ _ us hl => match us, hl with | [_], _ => rfl
  let D5 : Df K mg "order_of_wear" ["wears"] s_order_of_wear := ⟨f5, _, F5, PySem.W.mg_of X G a5, b5⟩
  have F6 := fun_mk (st := s_two_sides) l6 c6 k6
  have b6 := F6.binds (ps := ["pairs"]) fun _ _ _ _ _ _ us hl => match us, hl with | [_], _ => rfl
  let D6 : Df K mg "two_sides" ["pairs"] s_two_sides := ⟨f6, _, F6, PySem.W.mg_of X G a6, b6⟩
  have F7 := fun_mk (st := s_where_in) l7 c7 k7
  have b7 := F7.binds (ps := ["wears", "seen"]) fun _ _ _ _ _ _ us hl => match us, hl with | [_, _], _ => rfl
  let D7 : Df K mg "where_in" ["wears", "seen"] s_where_in := ⟨f7, _, F7, PySem.W.mg_of X G a7, b7⟩
  have F8 := fun_mk (st := s_wear_between) l8 c8 k8
  have b8 := F8.binds (ps := ["one", "other"]) fun _ _ _ _ _ _ us hl => match us, hl with | [_, _], _ => rfl
  let D8 : Df K mg "wear_between" ["one", "other"] s_wear_between := ⟨f8, _, F8, PySem.W.mg_of X G a8, b8⟩
  have F9 := fun_mk (st := s_first_gone) l9 c9 k9
  have b9 := F9.binds (ps := ["wears"]) fun _ _ _ _ _ _ us hl => match us, hl with | [_], _ => rfl
  let D9 : Df K mg "first_gone" ["wears"] s_first_gone := ⟨f9, _, F9, PySem.W.mg_of X G a9, b9⟩
  have F10 := fun_mk (st := s_steps_of_wear) l10 c10 k10
  have b10 := F10.binds (ps := ["wears"]) fun _ _ _ _ _ _ us hl => match us, hl with | [_], _ => rfl
  let D10 : Df K mg "steps_of_wear" ["wears"] s_steps_of_wear := ⟨f10, _, F10, PySem.W.mg_of X G a10, b10⟩
  have F11 := fun_mk (st := s__law_draws) l11 c11 k11
  have b11 := F11.binds (ps := ["script", "many"]) fun _ _ _ _ _ _ us hl => match us, hl with | [_, _], _ => rfl
  let D11 : Df K mg "_law_draws" ["script", "many"] s__law_draws := ⟨f11, _, F11, PySem.W.mg_of X G a11, b11⟩
  have F12 := fun_mk (st := s__law_next) l12 c12 k12
  have b12 := F12.binds (ps := ["w", "many"]) fun _ _ _ _ _ _ us hl => match us, hl with | [_, _], _ => rfl
  let D12 : Df K mg "_law_next" ["w", "many"] s__law_next := ⟨f12, _, F12, PySem.W.mg_of X G a12, b12⟩
  have F13 := fun_mk (st := s__law_same) l13 c13 k13
  have b13 := F13.binds (ps := ["seen", "due"]) fun _ _ _ _ _ _ us hl => match us, hl with | [_, _], _ => rfl
  let D13 : Df K mg "_law_same" ["seen", "due"] s__law_same := ⟨f13, _, F13, PySem.W.mg_of X G a13, b13⟩
  have F14 := fun_mk (st := s__law_in) l14 c14 k14
  have b14 := F14.binds (ps := ["one", "other"]) fun _ _ _ _ _ _ us hl => match us, hl with | [_, _], _ => rfl
  let D14 : Df K mg "_law_in" ["one", "other"] s__law_in := ⟨f14, _, F14, PySem.W.mg_of X G a14, b14⟩
  have F15 := fun_mk (st := s__law_orders) l15 c15 k15
  have b15 := F15.binds (ps := ["n"]) fun _ _ _ _ _ _ us hl => match us, hl with | [_], _ => rfl
  let D15 : Df K mg "_law_orders" ["n"] s__law_orders := ⟨f15, _, F15, PySem.W.mg_of X G a15, b15⟩
  have F16 := fun_mk (st := s__law_due) l16 c16 k16
  have b16 := F16.binds (ps := ["many", "comes"]) fun _ _ _ _ _ _ us hl => match us, hl with | [_, _], _ => rfl
  let D16 : Df K mg "_law_due" ["many", "comes"] s__law_due := ⟨f16, _, F16, PySem.W.mg_of X G a16, b16⟩
  have F17 := fun_mk (st := s__law_pairs) l17 c17 k17
  have b17 := F17.binds (ps := ["many"]) fun _ _ _ _ _ _ us hl => match us, hl with | [_], _ => rfl
  let D17 : Df K mg "_law_pairs" ["many"] s__law_pairs := ⟨f17, _, F17, PySem.W.mg_of X G a17, b17⟩
  have F18 := fun_mk (st := s__law_chain) l18 c18 k18
  have b18 := F18.binds (ps := ["w", "many"]) fun _ _ _ _ _ _ us hl => match us, hl with | [_, _], _ => rfl
  let D18 : Df K mg "_law_chain" ["w", "many"] s__law_chain := ⟨f18, _, F18, PySem.W.mg_of X G a18, b18⟩
  have F19 := fun_mk (st := s_law) l19 c19 k19
  have m_all := PySem.W.mg_none_of X G z_all
  have m_list := PySem.W.mg_none_of X G z_list
  have m_range := PySem.W.mg_none_of X G z_range
  have m_tuple := PySem.W.mg_none_of X G z_tuple
  have m_len := PySem.W.mg_none_of X G z_len
  have m_dict := PySem.W.mg_none_of X G z_dict
  have m_max := PySem.W.mg_none_of X G z_max
  have m_min := PySem.W.mg_none_of X G z_min
  have m_zip := PySem.W.mg_none_of X G z_zip
  have m_abs := PySem.W.mg_none_of X G z_abs
  have m_int := PySem.W.mg_none_of X G z_int
  have m_sorted := PySem.W.mg_none_of X G z_sorted
  have m_isinstance := PySem.W.mg_none_of X G z_isinstance
  have m_set := PySem.W.mg_none_of X G z_set
  refine ⟨PySem.W.fnOf "law" "law" (defArgs s_law) (defBody s_law) (defScope s_law) .none kV19 dc19 pm19 an19 cd19 ct19, fun s v => .of_eq rfl, fun base _ _ => ?_⟩
  have O1 : OkF l.prog w base D1 1 spWth := ok_is_within m_all p_is_within
  have O2 : OkF l.prog w base D2 1 spSorted := ok_sorted_by m_list m_range m_all m_tuple p_sorted_by
  have O3 : OkF l.prog w base D3 1 spUnlike := ok_first_unlike m_range p_first_unlike
  have O4 : OkF l.prog w base D4 2 spTold := ok_told_order O2 O3 p_told_order
  have O5 : OkF l.prog w base D5 3 spOrder := ok_order_of_wear O1 O4 m_len m_dict m_range p_order_of_wear
  have O6 : OkF l.prog w base D6 3 spTwo := ok_two_sides O1 O4 m_len m_range p_two_sides
  have O7 : OkF l.prog w base D7 2 spWhere := ok_where_in O1 m_range m_len m_max m_min p_where_in
  have O8 : OkF l.prog w base D8 1 spBetween := ok_wear_between m_tuple p_wear_between
  have O9 : OkF l.prog w base D9 1 spFirst := ok_first_gone m_range m_len p_first_gone
  have O10 : OkF l.prog w base D10 1 spSteps := ok_steps_of_wear m_len m_tuple m_zip p_steps_of_wear
  have O11 : OkF l.prog w base D11 1 spDraws := ok__law_draws m_range m_len m_abs m_int draws_pure
  have O12 : OkF l.prog w base D12 1 spNext := ok__law_next m_len m_int
  have O13 : OkF l.prog w base D13 1 spSameI := ok__law_same m_sorted m_isinstance m_dict p__law_same
  have O14 : OkF l.prog w base D14 1 spWth := ok__law_in p__law_in
  have O15 : OkF l.prog w base D15 1 spOrders := ok__law_orders m_range p__law_orders
  have O17 : OkF l.prog w base D17 1 spPairs := ok__law_pairs m_range p__law_pairs
  have O16 : OkF l.prog w base D16 2 spDue := ok__law_due O15 O17 m_range p__law_due
  have O18 : OkF l.prog w base D18 2 spChain := ok__law_chain O12 m_range m_sorted m_set m_tuple p__law_chain
  exact ok_law F19 O11 O12 O18 O17 O14 O5 O16 O6 O7 O8 O10 O13 O9 m_range m_tuple m_sorted m_set m_len p_law
end K15
open PySem PySem.W PyProof.Rows
set_option maxHeartbeats 0 in
theorem PySem.Challenge.cw_chartertold_k15_seals_that_wear_holds : PySem.Challenge.rw_chartertold_k15_seals_that_wear.Holds := by
  w_on; o_law; k_head; (case hw => w_witness2)
  k_fill
  refine L2.walk_of (l := PySem.Challenge.rw_chartertold_k15_seals_that_wear) (n := 63) (k := 4) (x := "script") (CX := fun _ => L2.CX0) (sp := fun w => VL.spLaw _) rfl (by decide) rfl ⟨rfl, by decide, by decide⟩ (fun w h Y => PySem.W.kIn_of Y) ?F (fun _ _ a ns hl _ hS => ⟨a, ns, rfl, hS, hl, fun _ => rfl⟩) (fun _ _ _ _ _ h => h)
  case F =>
    intro w mg fa h KX G hmg
    refine' K15.all_mk KX G hmg ?a1 ?l1 ?c1 ?k1 ?a2 ?l2 ?c2 ?k2 ?a3 ?l3 ?c3 ?k3 ?a4 ?l4 ?c4 ?k4 ?a5 ?l5 ?c5 ?k5 ?a6 ?l6 ?c6 ?k6 ?a7 ?l7 ?c7 ?k7 ?a8 ?l8 ?c8 ?k8 ?a9 ?l9 ?c9 ?k9 ?a10 ?l10 ?c10 ?k10 ?a11 ?l11 ?c11 ?k11 ?a12 ?l12 ?c12 ?k12 ?a13 ?l13 ?c13 ?k13 ?a14 ?l14 ?c14 ?k14 ?a15 ?l15 ?c15 ?k15 ?a16 ?l16 ?c16 ?k16 ?a17 ?l17 ?c17 ?k17 ?a18 ?l18 ?c18 ?k18 ?a19 ?l19 ?c19 ?k19 ?z_all ?z_list ?z_range ?z_tuple ?z_len ?z_dict ?z_max ?z_min ?z_zip ?z_abs ?z_int ?z_sorted ?z_isinstance ?z_set
    (case a1 => k_is)
    (case l1 => k_is)
    (case c1 => k_is)
    (case k1 => k_is)
    (case a2 => k_is)
    (case l2 => k_is)
    (case c2 => k_is)
    (case k2 => k_is)
    (case a3 => k_is)
    (case l3 => k_is)
    (case c3 => k_is)
    (case k3 => k_is)
    (case a4 => k_is)
    (case l4 => k_is)
    (case c4 => k_is)
    (case k4 => k_is)
    (case a5 => k_is)
    (case l5 => k_is)
    (case c5 => k_is)
    (case k5 => k_is)
    (case a6 => k_is)
    (case l6 => k_is)
    (case c6 => k_is)
    (case k6 => k_is)
    (case a7 => k_is)
    (case l7 => k_is)
    (case c7 => k_is)
    (case k7 => k_is)
    (case a8 => k_is)
    (case l8 => k_is)
    (case c8 => k_is)
    (case k8 => k_is)
    (case a9 => k_is)
    (case l9 => k_is)
    (case c9 => k_is)
    (case k9 => k_is)
    (case a10 => k_is)
    (case l10 => k_is)
    (case c10 => k_is)
    (case k10 => k_is)
    (case a11 => k_is)
    (case l11 => k_is)
    (case c11 => k_is)
    (case k11 => k_is)
    (case a12 => k_is)
    (case l12 => k_is)
    (case c12 => k_is)
    (case k12 => k_is)
    (case a13 => k_is)
    (case l13 => k_is)
    (case c13 => k_is)
    (case k13 => k_is)
    (case a14 => k_is)
    (case l14 => k_is)
    (case c14 => k_is)
    (case k14 => k_is)
    (case a15 => k_is)
    (case l15 => k_is)
    (case c15 => k_is)
    (case k15 => k_is)
    (case a16 => k_is)
    (case l16 => k_is)
    (case c16 => k_is)
    (case k16 => k_is)
    (case a17 => k_is)
    (case l17 => k_is)
    (case c17 => k_is)
    (case k17 => k_is)
    (case a18 => k_is)
    (case l18 => k_is)
    (case c18 => k_is)
    (case k18 => k_is)
    (case a19 => k_is)
    (case l19 => k_is)
    (case c19 => k_is)
    (case k19 => k_is)
    (case z_all => k_is)
    (case z_list => k_is)
    (case z_range => k_is)
    (case z_tuple => k_is)
    (case z_len => k_is)
    (case z_dict => k_is)
    (case z_max => k_is)
    (case z_min => k_is)
    (case z_zip => k_is)
    (case z_abs => k_is)
    (case z_int => k_is)
    (case z_sorted => k_is)
    (case z_isinstance => k_is)
    (case z_set => k_is)

