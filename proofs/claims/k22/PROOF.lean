import PyProof.Rows.All
import Wide.All
import OpenK.AllK
import Wide.FinOn
import HandS.ForMost
import HandS.Evl
import HandS.TupAny
import HandS.Style
import HandS.Deep
import HandS.SortOrd
import HandS.SortRule
import KE.DataMinMax
import KE.SortData
import KE.DataCmp
import HandS.Conv
import HandS.IsInst
import PyProof.DictUpdate
import HandS.SetKeys
import HandS.Strs
import HandS.More
import HandS.Iter
import HandS.Text
import KE.KIsAll
import KE.KExcIs
import HandS.Exc
import HandS.ExcOwn
import HandS.ExcInit
import HandS.ExcIs
import HandS.WordsExc
import HandS.TryOnly
import HandS.Codes
import PySem.Challenge.RW_chartertold_k22_sums_of_three_coins
set_option Elab.async false
set_option linter.all false
set_option maxRecDepth 100000
set_option maxHeartbeats 4000000

namespace VL
open PySem PySem.Spec PyProof.Rows L2
open Evl (Ex)

/-! ### plain data -/
inductive D where
  | non | bl (b : Bool) | int (i : Int) | str (s : Str)
  | tup (xs : List D) | lst (xs : List D) | fl (xs : List D) | ft (xs : List D)
  | dk (es : List (Key × D)) | dt (es : List (List Key × D))
  deriving Inhabited

variable {K : PySem.W.Frag}
mutual
inductive Rp (K : PySem.W.Frag) (G : Hp) : V → D → Prop
  | non : Rp K G .non .non
  | bl (b : Bool) : Rp K G (.bl b) (.bl b)
  | int (i : Int) : Rp K G (.int i) (.int i)
  | str (x : Str) : Rp K G (.str x) (.str x)
  | lst {a : Addr} {vs : List V} {ds : List D} : G a = some (.lst vs) → RpL K G vs ds → Rp K G (.ref a) (.lst ds)
  | fl {a : Addr} {vs : List V} {ds : List D} : SqL K G a vs → RpL K G vs ds → Rp K G (.ref a) (.fl ds)
  | tup {a : Addr} {vs : List V} {ds : List D} : G a = some (.tup vs) → RpL K G vs ds → Rp K G (.ref a) (.tup ds)
  | ft {a : Addr} {vs : List V} {ds : List D} : SqT K G a vs → RpL K G vs ds → Rp K G (.ref a) (.ft ds)
  | dk {a : Addr} {kvs : List (Key × V)} {es : List (Key × D)} : Rd G a (.dK kvs) → RpK K G kvs es → Rp K G (.ref a) (.dk es)
  | dt {a : Addr} {kvs : List (List Key × V)} {es : List (List Key × D)} : G a = some (.dT kvs) → RpT K G kvs es → Rp K G (.ref a) (.dt es)
inductive RpL (K : PySem.W.Frag) (G : Hp) : List V → List D → Prop
  | nil : RpL K G [] []
  | cons {v : V} {d : D} {vs : List V} {ds : List D} : Rp K G v d → RpL K G vs ds → RpL K G (v :: vs) (d :: ds)
inductive RpK (K : PySem.W.Frag) (G : Hp) : List (Key × V) → List (Key × D) → Prop
  | nil : RpK K G [] []
  | cons {k : Key} {v : V} {d : D} {vs : List (Key × V)} {ds : List (Key × D)} : Rp K G v d → RpK K G vs ds → RpK K G ((k, v) :: vs) ((k, d) :: ds)
inductive RpT (K : PySem.W.Frag) (G : Hp) : List (List Key × V) → List (List Key × D) → Prop
  | nil : RpT K G [] []
  | cons {k : List Key} {v : V} {d : D} {vs : List (List Key × V)} {ds : List (List Key × D)} : Rp K G v d → RpT K G vs ds → RpT K G ((k, v) :: vs) ((k, d) :: ds)
end

theorem rd_mono {G H : Hp} (e : Ex G H) {a : Addr} {u : HO} (h : Rd G a u) : Rd H a u := by
  rcases h with h | ⟨o, h⟩
  · exact .inl (e _ _ h)
  · exact .inr ⟨o, e _ _ h⟩
mutual
theorem Rp.mono {G G' : Hp} (e : Ex G G') : ∀ {v : V} {d : D}, Rp K G v d → Rp K G' v d
  | _, _, .non => .non
  | _, _, .bl b => .bl b
  | _, _, .int i => .int i
  | _, _, .str x => .str x
  | _, _, .lst h r => .lst (e _ _ h) (RpL.mono e r)
  | _, _, .fl h r => .fl (Evl.ex_l e h) (RpL.mono e r)
  | _, _, .tup h r => .tup (e _ _ h) (RpL.mono e r)
  | _, _, .ft h r => .ft (Evl.ex_t e h) (RpL.mono e r)
  | _, _, .dk h r => .dk (rd_mono e h) (RpK.mono e r)
  | _, _, .dt h r => .dt (e _ _ h) (RpT.mono e r)
theorem RpL.mono {G G' : Hp} (e : Ex G G') : ∀ {v : List V} {d : List D}, RpL K G v d → RpL K G' v d
  | _, _, .nil => .nil
  | _, _, .cons h r => .cons (Rp.mono e h) (RpL.mono e r)
theorem RpK.mono {G G' : Hp} (e : Ex G G') : ∀ {v : List (Key × V)} {d : List (Key × D)}, RpK K G v d → RpK K G' v d
  | _, _, .nil => .nil
  | _, _, .cons h r => .cons (Rp.mono e h) (RpK.mono e r)
theorem RpT.mono {G G' : Hp} (e : Ex G G') : ∀ {v : List (List Key × V)} {d : List (List Key × D)}, RpT K G v d → RpT K G' v d
  | _, _, .nil => .nil
  | _, _, .cons h r => .cons (Rp.mono e h) (RpT.mono e r)
end
theorem RpL.length {G : Hp} : ∀ {vs : List V} {ds : List D}, RpL K G vs ds → vs.length = ds.length
  | _, _, .nil => rfl
  | _, _, .cons _ r => by rw [List.length_cons, List.length_cons, RpL.length r]
theorem RpL.append {G : Hp} : ∀ {vs us : List V} {ds es : List D}, RpL K G vs ds → RpL K G us es → RpL K G (vs ++ us) (ds ++ es)
  | _, _, _, _, .nil, h => h
  | _, _, _, _, .cons a r, h => .cons a (RpL.append r h)
theorem RpL.get {G : Hp} : ∀ {vs : List V} {ds : List D} {i : Nat} {d : D}, RpL K G vs ds → ds[i]? = some d → ∃ v, vs[i]? = some v ∧ Rp K G v d
  | _, _, _, _, .nil, h => by simp at h
  | _, _, 0, _, .cons a r, h => by simp at h; subst h; exact ⟨_, rfl, a⟩
  | _, _, i + 1, _, .cons a r, h => by
    obtain ⟨v, h1, h2⟩ := RpL.get r (by simpa using h)
    exact ⟨v, by simpa using h1, h2⟩
theorem RpL.set {G : Hp} {v : V} {d : D} (h : Rp K G v d) : ∀ {vs : List V} {ds : List D} (i : Nat), RpL K G vs ds → RpL K G (vs.set i v) (ds.set i d)
  | _, _, _, .nil => .nil
  | _, _, 0, .cons _ r => .cons h r
  | _, _, i + 1, .cons a r => .cons a (RpL.set h i r)
theorem RpL.drop {G : Hp} : ∀ {vs : List V} {ds : List D} (n : Nat), RpL K G vs ds → RpL K G (vs.drop n) (ds.drop n)
  | _, _, 0, h => h
  | _, _, _ + 1, .nil => .nil
  | _, _, n + 1, .cons _ r => RpL.drop n r
theorem RpL.take {G : Hp} : ∀ {vs : List V} {ds : List D} (n : Nat), RpL K G vs ds → RpL K G (vs.take n) (ds.take n)
  | _, _, 0, _ => .nil
  | _, _, _ + 1, .nil => .nil
  | _, _, n + 1, .cons a r => .cons a (RpL.take n r)
theorem RpL.getV {G : Hp} : ∀ {vs : List V} {ds : List D} {i : Nat} {v : V}, RpL K G vs ds → vs[i]? = some v → ∃ d, ds[i]? = some d ∧ Rp K G v d
  | _, _, _, _, .nil, h => by simp at h
  | _, _, 0, _, .cons a r, h => by simp at h; subst h; exact ⟨_, rfl, a⟩
  | _, _, i + 1, _, .cons a r, h => by
    obtain ⟨v, h1, h2⟩ := RpL.getV r (by simpa using h)
    exact ⟨v, by simpa using h1, h2⟩

theorem exT {G H : Hp} {a : Addr} {vs : List V} (e : Ex G H) (h : G a = some (.tup vs)) : SqT K H a vs := .inl (.inl (e _ _ h))

/-! ### the draws' dict hidden -/
def hd (aw : Option Addr) (H : Hp) : Hp := fun a => if aw = some a then none else H a
theorem hd_ne {aw : Option Addr} {H : Hp} {a : Addr} (h : aw ≠ some a) : hd aw H a = H a := if_neg h
theorem hd_some {aw : Option Addr} {H : Hp} {a : Addr} {o : HO} (h : hd aw H a = some o) : aw ≠ some a ∧ H a = some o := by
  unfold hd at h
  split at h
  · cases h
  · exact ⟨by assumption, h⟩
theorem hd_le {aw : Option Addr} {H : Hp} : Ex (hd aw H) H := fun _ _ h => (hd_some h).2
theorem hd_new {aw : Option Addr} {H : Hp} {p : Addr} {o : HO} (h : H p = none) : Ex (hd aw H) (hd aw (upd H p o)) := fun a u e => by
  obtain ⟨h1, h2⟩ := hd_some e
  rw [hd_ne h1, upd_ne (ne_of_none h2 h)]
  exact h2

structure Bs where
  aw : Option Addr
  G0 : Hp
  B0 : Hp

inductive Slot where
  | un | fz (d : D) | ow (d : D) | w
  deriving Inhabited
abbrev Rho := List Slot

/-- the object at a is d (a changeable one) -/
def Ob (K : PySem.W.Frag) (G H : Hp) (a : Addr) : D → Prop
  | .lst ds => ∃ vs, H a = some (.lst vs) ∧ RpL K G vs ds
  | .dk es => ∃ kvs, H a = some (.dK kvs) ∧ RpK K G kvs es
  | .dt es => ∃ kvs, H a = some (.dT kvs) ∧ RpT K G kvs es
  | _ => False
theorem Ob.there {G H : Hp} {a : Addr} {d : D} (h : Ob K G H a d) : ∃ o, H a = some o ∧ ∀ G', Ex G G' → G' a = some o → Rp K G' (.ref a) d := by
  cases d with
  | lst ds => obtain ⟨vs, e, r⟩ := h; exact ⟨_, e, fun G' x y => .lst y (r.mono x)⟩
  | dk es => obtain ⟨vs, e, r⟩ := h; exact ⟨_, e, fun G' x y => .dk (.inl y) (r.mono x)⟩
  | dt es => obtain ⟨vs, e, r⟩ := h; exact ⟨_, e, fun G' x y => .dt y (r.mono x)⟩
  | _ => exact h.elim
theorem Ob.mono {G H G' H' : Hp} {a : Addr} {d : D} (h : Ob K G H a d) (e : Ex G G') (k : ∀ o, H a = some o → H' a = some o) : Ob K G' H' a d := by
  cases d with
  | lst ds => obtain ⟨vs, e1, r⟩ := h; exact ⟨_, k _ e1, r.mono e⟩
  | dk es => obtain ⟨vs, e1, r⟩ := h; exact ⟨_, k _ e1, r.mono e⟩
  | dt es => obtain ⟨vs, e1, r⟩ := h; exact ⟨_, k _ e1, r.mono e⟩
  | _ => exact h.elim
/-- an operand: its top object in B, what lies in it in G -/
def Ov (K : PySem.W.Frag) (G B : Hp) (v : V) : D → Prop
  | .lst ds => ∃ a vs, v = .ref a ∧ B a = some (.lst vs) ∧ RpL K G vs ds
  | .dk es => ∃ a kvs, v = .ref a ∧ Rd B a (.dK kvs) ∧ RpK K G kvs es
  | .dt es => ∃ a kvs, v = .ref a ∧ B a = some (.dT kvs) ∧ RpT K G kvs es
  | d => Rp K G v d
theorem Ov.mono {G B G' B' : Hp} {v : V} {d : D} (h : Ov K G B v d) (e : Ex G G') (k : Ex B B') : Ov K G' B' v d := by
  cases d with
  | lst ds => obtain ⟨a, vs, r1, r2, r3⟩ := h; exact ⟨a, vs, r1, k _ _ r2, r3.mono e⟩
  | dk ds => obtain ⟨a, vs, r1, r2, r3⟩ := h; exact ⟨a, vs, r1, rd_mono k r2, r3.mono e⟩
  | dt ds => obtain ⟨a, vs, r1, r2, r3⟩ := h; exact ⟨a, vs, r1, k _ _ r2, r3.mono e⟩
  | _ => exact Rp.mono e h
theorem Ov.rp {G B : Hp} {v : V} {d : D} (h : Ov K G B v d) (e : Ex G B) : Rp K B v d := by
  cases d with
  | lst ds => obtain ⟨a, vs, rfl, r2, r3⟩ := h; exact .lst r2 (r3.mono e)
  | dk ds => obtain ⟨a, vs, rfl, r2, r3⟩ := h; exact .dk r2 (r3.mono e)
  | dt ds => obtain ⟨a, vs, rfl, r2, r3⟩ := h; exact .dt r2 (r3.mono e)
  | _ => exact Rp.mono e h
theorem Rp.ov {G B : Hp} {v : V} {d : D} (h : Rp K G v d) (e : Ex G B) : Ov K G B v d := by
  cases h with
  | lst a r => exact ⟨_, _, rfl, e _ _ a, r⟩
  | fl a r => exact .fl a r
  | dk a r => exact ⟨_, _, rfl, rd_mono e a, r⟩
  | dt a r => exact ⟨_, _, rfl, e _ _ a, r⟩
  | tup a r => exact .tup a r
  | ft a r => exact .ft a r
  | non => exact .non
  | bl b => exact .bl b
  | int b => exact .int b
  | str b => exact .str b
theorem Ob.ov {G H B : Hp} {a : Addr} {d : D} (h : Ob K G H a d) (e : ∀ o, H a = some o → B a = some o) : Ov K G B (.ref a) d := by
  cases d with
  | lst ds => obtain ⟨vs, e1, r⟩ := h; exact ⟨a, vs, rfl, e _ e1, r⟩
  | dk es => obtain ⟨vs, e1, r⟩ := h; exact ⟨a, vs, rfl, .inl (e _ e1), r⟩
  | dt es => obtain ⟨vs, e1, r⟩ := h; exact ⟨a, vs, rfl, e _ e1, r⟩
  | _ => exact h.elim

/-- the dict that the draws stand in -/
def WOk (K : PySem.W.Frag) (G H : Hp) (a : Addr) : Prop :=
  ∃ (ad : Addr) (at_ : Int) (ns : List Int), H a = some (.dK [(.inr "draws", .ref ad), (.inr "at", .int at_)]) ∧ 0 ≤ at_ ∧ SqL K G ad (ns.map V.int) ∧ ∀ x ∈ ns, 0 ≤ x
theorem WOk.mono {G G' H H' : Hp} {a : Addr} (h : WOk K G H a) (e : Ex G G') (k : H' a = H a) : WOk K G' H' a := by
  obtain ⟨ad, t, ns, h1, h2, h3, h4⟩ := h
  exact ⟨ad, t, ns, by rw [k]; exact h1, h2, Evl.ex_l e h3, h4⟩

structure Sim (K : PySem.W.Frag) (b : Bs) (G : Hp) (ρ : Rho) (σ : L2.St) (H : Hp) : Prop where
  len : ρ.length = σ.length
  sub : Ex G (hd b.aw H)
  g0 : Ex b.G0 G
  b0 : Ex b.B0 (hd b.aw H)
  new : ∀ a o, b.B0 a = some o → b.G0 a = none → G a = none
  fz : ∀ (i : Nat) (d : D), ρ[i]? = some (.fz d) → ∃ v, σ[i]? = some (some v) ∧ Rp K G v d
  ow : ∀ (i : Nat) (d : D), ρ[i]? = some (.ow d) → ∃ a, σ[i]? = some (some (.ref a)) ∧ b.aw ≠ some a ∧ b.B0 a = none ∧ G a = none ∧ Ob K G H a d
  dj : ∀ (i j : Nat) (d e : D) (v : Option V), i ≠ j → ρ[i]? = some (.ow d) → ρ[j]? = some (.ow e) → σ[i]? = some v → σ[j]? = some v → False
  ws : ∀ (i : Nat), ρ[i]? = some .w → ∃ a, b.aw = some a ∧ σ[i]? = some (some (.ref a))
  wk : ∀ a, b.aw = some a → WOk K G H a
section
variable {b : Bs} {G H : Hp} {ρ : Rho} {σ : L2.St}
theorem Sim.le (s : Sim K b G ρ σ H) : Ex G H := s.sub.trans hd_le
theorem Sim.aw_ne (s : Sim K b G ρ σ H) {p : Addr} (h : H p = none) : b.aw ≠ some p := fun e => by
  obtain ⟨_, _, _, h1, _⟩ := s.wk p e
  rw [h] at h1; cases h1
theorem Sim.fresh (s : Sim K b G ρ σ H) {p : Addr} (h : H p = none) : G p = none := Evl.fresh_back s.le h
theorem Sim.fresh0 (s : Sim K b G ρ σ H) {p : Addr} (h : H p = none) : b.B0 p = none := Evl.fresh_back (s.b0.trans hd_le) h
/-- a new object, not (yet) frozen -/
theorem Sim.laid (s : Sim K b G ρ σ H) {p : Addr} {o : HO} (h : H p = none) : Sim K b G ρ σ (upd H p o) where
  len := s.len
  sub := s.sub.trans (hd_new h)
  g0 := s.g0
  b0 := s.b0.trans (hd_new h)
  new := s.new
  fz := s.fz
  ow := fun i d e => by
    obtain ⟨a, h1, h2, h3, h4, h5⟩ := s.ow i d e
    exact ⟨a, h1, h2, h3, h4, h5.mono (Ex.refl _) fun u hu => by rw [upd_ne (ne_of_none hu h)]; exact hu⟩
  dj := s.dj
  ws := s.ws
  wk := fun a e => (s.wk a e).mono (Ex.refl _) (upd_ne fun z => s.aw_ne h (z ▸ e))
theorem ex_upd {G : Hp} {p : Addr} {o : HO} (h : G p = none) : Ex G (upd G p o) := Ex.new h
/-- an object that is not frozen, no slot owns it, is frozen -/
theorem Sim.freeze (s : Sim K b G ρ σ H) {p : Addr} {o : HO} (ho : H p = some o) (hw : b.aw ≠ some p) (h0 : b.B0 p = none) (hg : G p = none) (no : ∀ (i : Nat) (d : D), ρ[i]? = some (.ow d) → σ[i]? ≠ some (some (.ref p))) : Sim K b (upd G p o) ρ σ H where
  len := s.len
  sub := fun a u e => by
    by_cases ha : a = p
    · subst ha; rw [upd_same] at e; cases e; rw [hd_ne hw]; exact ho
    · rw [upd_ne ha] at e; exact s.sub a u e
  g0 := s.g0.trans (ex_upd hg)
  b0 := s.b0
  new := fun a u e1 e2 => by
    have : a ≠ p := fun z => by subst z; rw [h0] at e1; cases e1
    rw [upd_ne this]; exact s.new a u e1 e2
  fz := fun i d e => by
    obtain ⟨v, h1, h2⟩ := s.fz i d e
    exact ⟨v, h1, h2.mono (ex_upd hg)⟩
  ow := fun i d e => by
    obtain ⟨a, h1, h2, h3, h4, h5⟩ := s.ow i d e
    have : a ≠ p := fun z => by subst z; exact no i d e h1
    exact ⟨a, h1, h2, h3, by rw [upd_ne this]; exact h4, h5.mono (ex_upd hg) fun u hu => hu⟩
  dj := s.dj
  ws := s.ws
  wk := fun a e => (s.wk a e).mono (ex_upd hg) rfl
/-- a slot is set to frozen data -/
theorem Sim.setF (s : Sim K b G ρ σ H) (i : Nat) {v : V} {d : D} (r : Rp K G v d) : Sim K b G (ρ.set i (.fz d)) (σ.set i (some v)) H := by
  have key : ∀ (j : Nat) (x : Slot), (ρ.set i (.fz d))[j]? = some x → (j = i ∧ x = .fz d ∧ i < ρ.length) ∨ (j ≠ i ∧ ρ[j]? = some x) := fun j x e => by
    by_cases hj : j = i
    · subst hj
      by_cases hl : j < ρ.length
      · rw [List.getElem?_set_self hl] at e; cases e; exact .inl ⟨rfl, rfl, hl⟩
      · rw [List.getElem?_eq_none (by simpa using hl)] at e; cases e
    · rw [List.getElem?_set_ne (Ne.symm hj)] at e; exact .inr ⟨hj, e⟩
  refine ⟨by simp [s.len], s.sub, s.g0, s.b0, s.new, fun j x e => ?_, fun j x e => ?_, fun j k x y v' hne e1 e2 e3 e4 => ?_, fun j e => ?_, s.wk⟩
  · rcases key j _ e with ⟨rfl, h, hl⟩ | ⟨hj, h⟩
    · cases h
      exact ⟨v, by rw [List.getElem?_set_self (by rw [← s.len]; exact hl)], r⟩
    · obtain ⟨v', h1, h2⟩ := s.fz j x h
      exact ⟨v', by rw [List.getElem?_set_ne (Ne.symm hj)]; exact h1, h2⟩
  · rcases key j _ e with ⟨rfl, h, hl⟩ | ⟨hj, h⟩
    · cases h
    · obtain ⟨a, h1, h2⟩ := s.ow j x h
      exact ⟨a, by rw [List.getElem?_set_ne (Ne.symm hj)]; exact h1, h2⟩
  · rcases key j _ e1 with ⟨rfl, h, hl⟩ | ⟨hj, h⟩
    · cases h
    · rcases key k _ e2 with ⟨rfl, h', hl⟩ | ⟨hk, h'⟩
      · cases h'
      · rw [List.getElem?_set_ne (Ne.symm hj)] at e3
        rw [List.getElem?_set_ne (Ne.symm hk)] at e4
        exact s.dj j k x y v' hne h h' e3 e4
  · rcases key j _ e with ⟨rfl, h, hl⟩ | ⟨hj, h⟩
    · cases h
    · obtain ⟨a, h1, h2⟩ := s.ws j h
      exact ⟨a, h1, by rw [List.getElem?_set_ne (Ne.symm hj)]; exact h2⟩
/-- a slot is set to an owned object that no slot has -/
theorem Sim.setO (s : Sim K b G ρ σ H) (i : Nat) {p : Addr} {d : D} (hw : b.aw ≠ some p) (h0 : b.B0 p = none) (hg : G p = none) (o : Ob K G H p d) (no : ∀ (j : Nat) (d : D), ρ[j]? = some (.ow d) → σ[j]? ≠ some (some (.ref p))) :
    Sim K b G (ρ.set i (.ow d)) (σ.set i (some (.ref p))) H := by
  have key : ∀ (j : Nat) (x : Slot), (ρ.set i (.ow d))[j]? = some x → (j = i ∧ x = .ow d ∧ i < ρ.length) ∨ (j ≠ i ∧ ρ[j]? = some x) := fun j x e => by
    by_cases hj : j = i
    · subst hj
      by_cases hl : j < ρ.length
      · rw [List.getElem?_set_self hl] at e; cases e; exact .inl ⟨rfl, rfl, hl⟩
      · rw [List.getElem?_eq_none (by simpa using hl)] at e; cases e
    · rw [List.getElem?_set_ne (Ne.symm hj)] at e; exact .inr ⟨hj, e⟩
  refine ⟨by simp [s.len], s.sub, s.g0, s.b0, s.new, fun j x e => ?_, fun j x e => ?_, fun j k x y v' hne e1 e2 e3 e4 => ?_, fun j e => ?_, s.wk⟩
  · rcases key j _ e with ⟨rfl, h, hl⟩ | ⟨hj, h⟩
    · cases h
    · obtain ⟨v', h1, h2⟩ := s.fz j x h
      exact ⟨v', by rw [List.getElem?_set_ne (Ne.symm hj)]; exact h1, h2⟩
  · rcases key j _ e with ⟨rfl, h, hl⟩ | ⟨hj, h⟩
    · cases h
      exact ⟨p, by rw [List.getElem?_set_self (by rw [← s.len]; exact hl)], hw, h0, hg, o⟩
    · obtain ⟨a, h1, h2⟩ := s.ow j x h
      exact ⟨a, by rw [List.getElem?_set_ne (Ne.symm hj)]; exact h1, h2⟩
  · rcases key j _ e1 with ⟨rfl, h, hl⟩ | ⟨hj, h⟩
    · rcases key k _ e2 with ⟨rfl, h', hl'⟩ | ⟨hk, h'⟩
      · exact hne rfl
      · rw [List.getElem?_set_self (by rw [← s.len]; exact hl)] at e3
        cases e3
        rw [List.getElem?_set_ne (Ne.symm hk)] at e4
        exact no k y h' e4
    · rcases key k _ e2 with ⟨rfl, h', hl'⟩ | ⟨hk, h'⟩
      · rw [List.getElem?_set_self (by rw [← s.len]; exact hl')] at e4
        cases e4
        rw [List.getElem?_set_ne (Ne.symm hj)] at e3
        exact no j x h e3
      · rw [List.getElem?_set_ne (Ne.symm hj)] at e3
        rw [List.getElem?_set_ne (Ne.symm hk)] at e4
        exact s.dj j k x y v' hne h h' e3 e4
  · rcases key j _ e with ⟨rfl, h, hl⟩ | ⟨hj, h⟩
    · cases h
    · obtain ⟨a, h1, h2⟩ := s.ws j h
      exact ⟨a, h1, by rw [List.getElem?_set_ne (Ne.symm hj)]; exact h2⟩
/-- the owned object of slot i freezes, where it stands -/
theorem Sim.frz (s : Sim K b G ρ σ H) {i : Nat} {d : D} {v : V} (e : ρ[i]? = some (.ow d)) (ev : σ[i]? = some (some v)) :
    ∃ p o, v = .ref p ∧ H p = some o ∧ G p = none ∧ b.aw ≠ some p ∧ b.B0 p = none ∧ Rp K (upd G p o) v d ∧ Sim K b (upd G p o) (ρ.set i (.fz d)) σ H := by
  obtain ⟨p, h1, h2, h3, h4, h5⟩ := s.ow i d e
  rw [ev] at h1; cases h1
  obtain ⟨o, ho, hr⟩ := h5.there
  have rr : Rp K (upd G p o) (.ref p) d := hr _ (ex_upd h4) upd_same
  refine ⟨p, o, rfl, ho, h4, h2, h3, rr, ?_⟩
  have hl : i < σ.length := (List.getElem?_eq_some_iff.mp ev).1
  have es : σ.set i (some (.ref p)) = σ := by
    apply List.ext_getElem?
    intro j
    by_cases hj : j = i
    · subst hj; rw [List.getElem?_set_self hl, ev]
    · rw [List.getElem?_set_ne (Ne.symm hj)]
  have s0 : Sim K b G (ρ.set i .un) σ H := by
    have key : ∀ (j : Nat) (x : Slot), (ρ.set i .un)[j]? = some x → x ≠ .un → (j ≠ i ∧ ρ[j]? = some x) := fun j x e' ne => by
      by_cases hj : j = i
      · subst hj
        rw [List.getElem?_set_self (by rw [s.len]; exact hl)] at e'; cases e'; exact absurd rfl ne
      · rw [List.getElem?_set_ne (Ne.symm hj)] at e'; exact ⟨hj, e'⟩
    exact ⟨by simp [s.len], s.sub, s.g0, s.b0, s.new, fun j x e' => s.fz j x (key j _ e' (by simp)).2, fun j x e' => s.ow j x (key j _ e' (by simp)).2,
      fun j k x y v' hne e1 e2 => s.dj j k x y v' hne (key j _ e1 (by simp)).2 (key k _ e2 (by simp)).2, fun j e' => s.ws j (key j _ e' (by simp)).2, s.wk⟩
  have s1 := s0.freeze ho h2 h3 h4 (fun j x e' z => by
    by_cases hj : j = i
    · subst hj
      rw [List.getElem?_set_self (by rw [s.len]; exact hl)] at e'; cases e'
    · rw [List.getElem?_set_ne (Ne.symm hj)] at e'
      exact s.dj j i x d _ hj e' e z ev)
  have s2 := s1.setF i rr
  rw [List.set_set, es] at s2
  exact s2
end

inductive Kd where
  | fz | nw | br (i : Nat)

def Own (ρ : Rho) (σ : L2.St) (a : Addr) : Prop := ∃ (i : Nat) (d : D), ρ[i]? = some (.ow d) ∧ σ[i]? = some (some (.ref a))
/-- what an expression leaves as it was -/
structure Xt (b : Bs) (ρ : Rho) (σ : L2.St) (G H : Hp) (ρ' : Rho) (G' H' : Hp) : Prop where
  g : Ex G G'
  h : Ex (hd b.aw H) (hd b.aw H')
  new : ∀ a o, hd b.aw H a = some o → G a = none → ¬ Own ρ σ a → G' a = none
  own : ∀ (i : Nat) (d : D), ρ'[i]? = some (.ow d) → ρ[i]? = some (.ow d)
section
variable {b : Bs} {ρ ρ' ρ2 : Rho} {σ : L2.St} {G H G' H' G2 H2 : Hp}
theorem Xt.refl : Xt b ρ σ G H ρ G H := ⟨Ex.refl _, Ex.refl _, fun _ _ _ h _ => h, fun _ _ h => h⟩
theorem Xt.trans (x : Xt b ρ σ G H ρ' G' H') (y : Xt b ρ' σ G' H' ρ2 G2 H2) : Xt b ρ σ G H ρ2 G2 H2 :=
  ⟨x.g.trans y.g, x.h.trans y.h, fun a o e n no => y.new a o (x.h a o e) (x.new a o e n no) fun ⟨i, d, e1, e2⟩ => no ⟨i, d, x.own i d e1, e2⟩, fun i d e => x.own i d (y.own i d e)⟩
theorem Xt.laid {p : Addr} {o : HO} (h : H p = none) : Xt b ρ σ G H ρ G (upd H p o) := ⟨Ex.refl _, hd_new h, fun _ _ _ h _ => h, fun _ _ h => h⟩
theorem Xt.laidF {p : Addr} {o : HO} (h : H p = none) (hg : G p = none) : Xt b ρ σ G H ρ (upd G p o) (upd H p o) :=
  ⟨ex_upd hg, hd_new h, fun a u e n _ => by
    rw [upd_ne fun z => by subst z; rw [(hd_some e).2] at h; cases h]
    exact n, fun _ _ h => h⟩
end
/-- an expression's value -/
def Rv (K : PySem.W.Frag) (b : Bs) (H G' H' : Hp) (ρ' : Rho) (σ : L2.St) : Kd → V → D → Prop
  | .fz, v, d => Rp K G' v d
  | .nw, v, d => ∃ a, v = .ref a ∧ hd b.aw H a = none ∧ b.aw ≠ some a ∧ G' a = none ∧ Ob K G' H' a d
  | .br i, v, d => ρ'[i]? = some (.ow d) ∧ σ[i]? = some (some v)
section
variable {b : Bs} {ρ ρ' ρ2 : Rho} {σ : L2.St} {G H G' H' G2 H2 : Hp} {k : Kd} {v : V} {d : D}
theorem Rv.ov (r : Rv K b H G' H' ρ' σ k v d) (s : Sim K b G' ρ' σ H') : Ov K G' (hd b.aw H') v d := by
  cases k with
  | fz => exact Rp.ov r s.sub
  | nw =>
    obtain ⟨a, rfl, h1, h2, h3, h4⟩ := r
    exact h4.ov fun o e => by rw [hd_ne h2]; exact e
  | br i =>
    obtain ⟨h1, h2⟩ := r
    obtain ⟨a, e1, e2, e3, e4, e5⟩ := s.ow i d h1
    rw [h2] at e1; cases e1
    exact e5.ov fun o e => by rw [hd_ne e2]; exact e
theorem Rv.back (r : Rv K b H G2 H2 ρ2 σ k v d) (e : Ex (hd b.aw G) (hd b.aw H)) : Rv K b G G2 H2 ρ2 σ k v d := by
  cases k with
  | fz => exact r
  | nw => obtain ⟨a, h0, h1, h2⟩ := r; exact ⟨a, h0, Evl.fresh_back e h1, h2⟩
  | br i => exact r
end

abbrev WE := Rho → (D → Kd → Rho → Prop) → Prop
abbrev WT := Rho → (Bool → Rho → Prop) → Prop
abbrev WA := Rho → (List D → Rho → Prop) → Prop
def SndE (K : PySem.W.Frag) (te : TE) (t : WE) : Prop := ∀ (b : Bs) (G : Hp) (ρ : Rho) (σ : L2.St) (H : Hp) (Q : D → Kd → Rho → Prop) (R : VK), Sim K b G ρ σ H → t ρ Q →
  (∀ d k ρ' v G' H', Q d k ρ' → Xt b ρ σ G H ρ' G' H' → Sim K b G' ρ' σ H' → Rv K b H G' H' ρ' σ k v d → R v H') → te σ H R
def SndT (K : PySem.W.Frag) (tt : TT) (t : WT) : Prop := ∀ (b : Bs) (G : Hp) (ρ : Rho) (σ : L2.St) (H : Hp) (Q : Bool → Rho → Prop) (R : Bool → Hp → Prop), Sim K b G ρ σ H → t ρ Q →
  (∀ c ρ' G' H', Q c ρ' → Xt b ρ σ G H ρ' G' H' → Sim K b G' ρ' σ H' → R c H') → tt σ H R
/-- arguments as operands -/
def SndO (K : PySem.W.Frag) (ta : TA) (t : WA) : Prop := ∀ (b : Bs) (G : Hp) (ρ : Rho) (σ : L2.St) (H : Hp) (Q : List D → Rho → Prop) (R : List V → Hp → Prop), Sim K b G ρ σ H → t ρ Q →
  (∀ ds ρ' vs G' H', Q ds ρ' → Xt b ρ σ G H ρ' G' H' → Sim K b G' ρ' σ H' → Paired (Ov K G' (hd b.aw H')) vs ds → R vs H') → ta σ H R
/-- arguments as frozen values -/
def SndA (K : PySem.W.Frag) (ta : TA) (t : WA) : Prop := ∀ (b : Bs) (G : Hp) (ρ : Rho) (σ : L2.St) (H : Hp) (Q : List D → Rho → Prop) (R : List V → Hp → Prop), Sim K b G ρ σ H → t ρ Q →
  (∀ ds ρ' vs G' H', Q ds ρ' → Xt b ρ σ G H ρ' G' H' → Sim K b G' ρ' σ H' → RpL K G' vs ds → R vs H') → ta σ H R
structure SE (X : Cx) (e : Expr) (te : TE) (t : WE) : Prop where
  pe : PE X e te
  snd : SndE X.K te t
structure ST (X : Cx) (e : Expr) (te : TT) (t : WT) : Prop where
  pt : PT X e te
  snd : SndT X.K te t
structure SO (X : Cx) (es : List Expr) (ta : TA) (t : WA) : Prop where
  pa : PA X es ta
  snd : SndO X.K ta t
structure SA (X : Cx) (es : List Expr) (ta : TA) (t : WA) : Prop where
  pa : PA X es ta
  snd : SndA X.K ta t

/-! ### the value as frozen data -/
def toF (Q : D → Rho → Prop) : D → Kd → Rho → Prop := fun d k ρ' => match k with
  | .br i => Q d (ρ'.set i (.fz d))
  | _ => Q d ρ'
/-- from what an expression hands on to frozen data -/
theorem frozen1 {b : Bs} {ρ ρ' : Rho} {σ : L2.St} {G H G' H' : Hp} {k : Kd} {v : V} {d : D} {Q : D → Rho → Prop} {R : V → Hp → Prop} (q : toF Q d k ρ') (x : Xt b ρ σ G H ρ' G' H') (s0 : Sim K b G ρ σ H) (s : Sim K b G' ρ' σ H') (r : Rv K b H G' H' ρ' σ k v d)
    (h : ∀ ρ2 G2, Q d ρ2 → Xt b ρ σ G H ρ2 G2 H' → Sim K b G2 ρ2 σ H' → Rp K G2 v d → R v H') : R v H' := by
  cases k with
  | fz => exact h ρ' G' q x s r
  | nw =>
    obtain ⟨a, rfl, h1, h2, h3, h4⟩ := r
    obtain ⟨o, ho, hr⟩ := h4.there
    have no : ∀ (i : Nat) (d : D), ρ'[i]? = some (.ow d) → σ[i]? ≠ some (some (.ref a)) := fun i d' e z => by
      obtain ⟨a', e1, e2, e3, e4, e5⟩ := s0.ow i d' (x.own i d' e)
      rw [z] at e1; cases e1
      obtain ⟨o', ho', _⟩ := e5.there
      rw [hd_ne e2, ho'] at h1; cases h1
    have h0 : b.B0 a = none := Evl.fresh_back s0.b0 h1
    refine h ρ' (upd G' a o) q ⟨x.g.trans (ex_upd h3), x.h, fun c u e n no' => ?_, x.own⟩ (s.freeze ho h2 h0 h3 no) (hr _ (ex_upd h3) upd_same)
    rw [upd_ne fun z => by subst z; rw [h1] at e; cases e]
    exact x.new c u e n no'
  | br i =>
    obtain ⟨h1, h2⟩ := r
    obtain ⟨p, o, rfl, ho, hg, hw, h0, rr, s2⟩ := s.frz h1 h2
    refine h _ (upd G' p o) q (x.trans ⟨ex_upd hg, Ex.refl _, fun c u e n no => ?_, fun j d' e => ?_⟩) s2 rr
    · by_cases hc : c = p
      · subst hc; exact absurd ⟨i, d, h1, h2⟩ no
      · rw [upd_ne hc]; exact n
    · by_cases hj : j = i
      · subst hj
        by_cases hl : j < ρ'.length
        · rw [List.getElem?_set_self hl] at e; cases e
        · rw [List.getElem?_eq_none (by simpa using hl)] at e; cases e
      · rw [List.getElem?_set_ne (Ne.symm hj)] at e; exact e
theorem frozen {b : Bs} {ρ ρ' : Rho} {σ : L2.St} {G H G' H' : Hp} {k : Kd} {v : V} {d : D} {Q : D → Rho → Prop} {R : V → Hp → Prop} (q : toF Q d k ρ') (x : Xt b ρ σ G H ρ' G' H') (s0 : Sim K b G ρ σ H) (s : Sim K b G' ρ' σ H') (r : Rv K b H G' H' ρ' σ k v d)
    (h : ∀ d ρ2 v G2, Q d ρ2 → Xt b ρ σ G H ρ2 G2 H' → Sim K b G2 ρ2 σ H' → Rp K G2 v d → R v H') : R v H' := frozen1 q x s0 s r fun ρ2 G2 => h d ρ2 v G2
end VL

namespace VL
open PySem PySem.Spec PyProof.Rows L2
open Evl (Ex)
variable {K : PySem.W.Frag}

def LIM : Nat := 100000
theorem lim_le {n : Nat} (h : n ≤ LIM) : n ≤ sizeLine := Evl.sz_of h
theorem lim_lt {n : Nat} (h : n < LIM) : n < sizeLine := Evl.sz_lt h
theorem lim_lt' {n : Nat} (h : n < LIM) : n < 100000 := h

/-! ### results of operations -/
structure Res (K : PySem.W.Frag) (G H : Hp) (z : D) (k : Kd) (R : VK) : Prop where
  val : ∀ v, k = .fz → Rp K G v z → R v H
  tup : ∀ p vs ds, k = .fz → z = .tup ds → H p = none → RpL K G vs ds → R (.ref p) (upd H p (.tup vs))
  new : ∀ p o, k = .nw → H p = none → Ob K G (upd H p o) p z → R (.ref p) (upd H p o)
section
variable {b : Bs} {G H : Hp} {ρ : Rho} {σ : L2.St}
theorem Ob.known {G H : Hp} {a : Addr} {d : D} (h : Ob K G H a d) : H a ≠ none := by
  obtain ⟨o, e, _⟩ := h.there
  rw [e]; simp
theorem Sim.noown (s : Sim K b G ρ σ H) {p : Addr} (h : H p = none) : ∀ (i : Nat) (d : D), ρ[i]? = some (.ow d) → σ[i]? ≠ some (some (.ref p)) := fun i d e z => by
  obtain ⟨a, h1, _, _, _, h5⟩ := s.ow i d e
  rw [z] at h1; cases h1
  exact h5.known h
theorem Sim.laidF (s : Sim K b G ρ σ H) {p : Addr} {o : HO} (h : H p = none) : Sim K b (upd G p o) ρ σ (upd H p o) :=
  (s.laid (o := o) h).freeze upd_same (s.aw_ne h) (s.fresh0 h) (s.fresh h) (s.noown h)
theorem hd_none {aw : Option Addr} {H : Hp} {p : Addr} (h : H p = none) : hd aw H p = none := by
  unfold hd; split <;> first | rfl | exact h
theorem res_of {Q : D → Kd → Rho → Prop} {R : VK} {z : D} {k : Kd} (s : Sim K b G ρ σ H) (hk : ∀ d k ρ' v G' H', Q d k ρ' → Xt b ρ σ G H ρ' G' H' → Sim K b G' ρ' σ H' → Rv K b H G' H' ρ' σ k v d → R v H') (q : Q z k ρ) : Res K G H z k R where
  val := fun v e r => hk z k ρ v G H q .refl s (by rw [e]; exact r)
  tup := fun p vs ds e ez hp r => hk z k ρ (.ref p) (upd G p (.tup vs)) (upd H p (.tup vs)) q (.laidF hp (s.fresh hp)) (s.laidF hp) (by
    rw [e, ez]
    exact .tup upd_same (r.mono (ex_upd (s.fresh hp))))
  new := fun p o e hp r => hk z k ρ (.ref p) G (upd H p o) q (.laid hp) (s.laid hp) (by
    rw [e]
    exact ⟨p, rfl, hd_none hp, s.aw_ne hp, s.fresh hp, r⟩)
end
abbrev Oz := Option (D × Kd)
def oB (o : Oz) (Q : D → Kd → Prop) : Prop := match o with
  | some (z, k) => Q z k
  | none => False
@[simp] theorem oB_some (z : D) (k : Kd) (Q : D → Kd → Prop) : oB (some (z, k)) Q = Q z k := rfl
@[simp] theorem oB_none (Q : D → Kd → Prop) : oB none Q = False := rfl
theorem oB_ite {c : Prop} [Decidable c] {o : Oz} {Q : D → Kd → Prop} : oB (if c then o else none) Q = (c ∧ oB o Q) := by
  by_cases h : c <;> simp [h]
/-- two operands -/
def OpS (K : PySem.W.Frag) (r : R2) (f : D → D → Oz) : Prop := ∀ (G B H : Hp) (v u : V) (d e z : D) (k : Kd) (R : VK), Ex G B → Ex B H → Ov K G B v d → Ov K G B u e → f d e = some (z, k) → Res K G H z k R → r v u H R
def UnS (K : PySem.W.Frag) (r : V → Hp → VK → Prop) (f : D → Oz) : Prop := ∀ (G B H : Hp) (v : V) (d z : D) (k : Kd) (R : VK), Ex G B → Ex B H → Ov K G B v d → f d = some (z, k) → Res K G H z k R → r v H R
/-- a call of a built-in -/
def ClS (K : PySem.W.Frag) (r : List V → Hp → VK → Prop) (f : List D → Oz) : Prop := ∀ (G B H : Hp) (vs : List V) (ds : List D) (z : D) (k : Kd) (R : VK), Ex G B → Ex B H → Paired (Ov K G B) vs ds → f ds = some (z, k) → Res K G H z k R → r vs H R
/-- a built-in's method -/
def MtS (K : PySem.W.Frag) (T : String) (r : V → List V → Hp → VK → Prop) (f : D → List D → Oz) : Prop := ∀ (G B H : Hp) (v : V) (d : D) (vs : List V) (ds : List D) (z : D) (k : Kd) (R : VK), Ex G B → Ex B H → Ov K G B v d → Paired (Ov K G B) vs ds → f d ds = some (z, k) → Res K G H z k R → tyV K T v B ∧ r v vs H R

/-! ### names, constants -/
def wVar (i : Nat) : WE := fun ρ Q => match ρ[i]? with
  | some (.fz d) => Q d .fz ρ
  | some (.ow d) => Q d (.br i) ρ
  | _ => False
theorem snd_var (i : Nat) : SndE K (tVar i) (wVar i) := by
  intro b G ρ σ H Q R s h k
  unfold wVar at h
  split at h
  · rename_i d e
    obtain ⟨v, e1, r⟩ := s.fz i d e
    exact ⟨v, e1, k _ _ _ v G H h .refl s r⟩
  · rename_i d e
    obtain ⟨a, e1, _⟩ := s.ow i d e
    exact ⟨_, e1, k _ _ _ _ G H h .refl s ⟨e, e1⟩⟩
  · exact h.elim
def wCon (d : D) : WE := fun ρ Q => Q d .fz ρ
theorem snd_con {v : V} {d : D} (h : ∀ G, Rp K G v d) : SndE K (tC v) (wCon d) := fun b G ρ σ H Q R s q k => k _ _ _ v G H q .refl s (h G)

def wBin (f : D → D → Oz) (ta tb : WE) : WE := fun ρ Q => ta ρ fun d _ ρ1 => tb ρ1 fun e _ ρ2 => oB (f d e) fun z k => Q z k ρ2
theorem snd_op {r : R2} {f : D → D → Oz} {ta tb : TE} {wa wb : WE} (ho : OpS K r f) (ha : SndE K ta wa) (hb : SndE K tb wb) : SndE K (tOp r ta tb) (wBin f wa wb) := by
  intro b G ρ σ H Q R s h k
  refine ha b G ρ σ H _ _ s h fun d ka ρ1 v G1 H1 q1 x1 s1 r1 => ?_
  refine hb b G1 ρ1 σ H1 _ _ s1 q1 fun e kb ρ2 u G2 H2 q2 x2 s2 r2 => ?_
  have o1 := (r1.ov s1).mono x2.g x2.h
  have o2 := r2.ov s2
  cases hf : f d e with
  | none => rw [hf] at q2; exact q2.elim
  | some zk =>
    obtain ⟨z, kd⟩ := zk
    rw [hf] at q2
    exact ho G2 (hd b.aw H2) H2 v u d e z kd R s2.sub hd_le o1 o2 hf (res_of s2 (fun d k' ρ' v G' H' q x s r => k d k' ρ' v G' H' q ((x1.trans x2).trans x) s (r.back (x1.trans x2).h)) q2)
def wUn (f : D → Oz) (ta : WE) : WE := fun ρ Q => ta ρ fun d _ ρ1 => oB (f d) fun z k => Q z k ρ1
theorem snd_un {r : V → Hp → VK → Prop} {f : D → Oz} {ta : TE} {wa : WE} (ho : UnS K r f) (ha : SndE K ta wa) : SndE K (tUn r ta) (wUn f wa) := by
  intro b G ρ σ H Q R s h k
  refine ha b G ρ σ H _ _ s h fun d ka ρ1 v G1 H1 q1 x1 s1 r1 => ?_
  cases hf : f d with
  | none => rw [hf] at q1; exact q1.elim
  | some zk =>
    obtain ⟨z, kd⟩ := zk
    rw [hf] at q1
    exact ho G1 (hd b.aw H1) H1 v d z kd R s1.sub hd_le (r1.ov s1) hf (res_of s1 (fun d k' ρ' v G' H' q x s r => k d k' ρ' v G' H' q (x1.trans x) s (r.back x1.h)) q1)

/-! ### argument lists -/
def wNil : WA := fun ρ Q => Q [] ρ
/-- as operands -/
def wCons (t : WE) (u : WA) : WA := fun ρ Q => t ρ fun d _ ρ1 => u ρ1 fun ds ρ2 => Q (d :: ds) ρ2
/-- frozen -/
def wConsF (t : WE) (u : WA) : WA := fun ρ Q => t ρ (toF fun d ρ1 => u ρ1 fun ds ρ2 => Q (d :: ds) ρ2)
theorem sndO_nil : SndO K tNil wNil := fun b G ρ σ H Q R s q k => k _ _ _ G H q .refl s .nil
theorem paired_mono {G B G' B' : Hp} (e : Ex G G') (k : Ex B B') {vs : List V} {ds : List D} (h : Paired (Ov K G B) vs ds) : Paired (Ov K G' B') vs ds := Paired.mapP h fun _ _ r => r.mono e k
theorem sndO_cons {te : TE} {ta : TA} {t : WE} {u : WA} (ha : SndE K te t) (hb : SndO K ta u) : SndO K (tCons te ta) (wCons t u) := by
  intro b G ρ σ H Q R s h k
  refine ha b G ρ σ H _ _ s h fun d ka ρ1 v G1 H1 q1 x1 s1 r1 => ?_
  refine hb b G1 ρ1 σ H1 _ _ s1 q1 fun ds ρ2 vs G2 H2 q2 x2 s2 r2 => ?_
  exact k _ _ _ G2 H2 q2 (x1.trans x2) s2 (.cons ((r1.ov s1).mono x2.g x2.h) r2)
theorem sndA_nil : SndA K tNil wNil := fun b G ρ σ H Q R s q k => k _ _ _ G H q .refl s .nil
theorem sndA_cons {te : TE} {ta : TA} {t : WE} {u : WA} (ha : SndE K te t) (hb : SndA K ta u) : SndA K (tCons te ta) (wConsF t u) := by
  intro b G ρ σ H Q R s h k
  refine ha b G ρ σ H _ _ s h fun d ka ρ1 v G1 H1 q1 x1 s1 r1 => ?_
  refine frozen (R := fun v H' => ta σ H' fun xs H2 => R (v :: xs) H2) q1 x1 s s1 r1 fun d ρ1 v G1 q1 x1 s1 r1 => ?_
  refine hb b G1 ρ1 σ H1 _ _ s1 q1 fun ds ρ2 vs G2 H2 q2 x2 s2 r2 => ?_
  exact k _ _ _ G2 H2 q2 (x1.trans x2) s2 (.cons (r1.mono x2.g) r2)

/-! ### displays -/
def wTup (t : WA) : WE := fun ρ Q => t ρ fun ds ρ1 => ds.length ≤ LIM ∧ Q (.tup ds) .fz ρ1
def wLst (t : WA) : WE := fun ρ Q => t ρ fun ds ρ1 => ds.length ≤ LIM ∧ Q (.lst ds) .nw ρ1
theorem snd_tup {ta : TA} {t : WA} (h : SndA K ta t) : SndE K (tTup ta) (wTup t) := by
  intro b G ρ σ H Q R s hq k
  refine h b G ρ σ H _ _ s hq fun ds ρ1 vs G1 H1 ⟨hl, q1⟩ x1 s1 r1 => ⟨by rw [r1.length]; exact lim_le hl, fun p hp => ?_⟩
  exact (res_of s1 (fun d k' ρ' v G' H' q x s r => k d k' ρ' v G' H' q (x1.trans x) s (r.back x1.h)) q1).tup p vs ds rfl rfl hp r1
theorem snd_lst {ta : TA} {t : WA} (h : SndA K ta t) : SndE K (tLst ta) (wLst t) := by
  intro b G ρ σ H Q R s hq k
  refine h b G ρ σ H _ _ s hq fun ds ρ1 vs G1 H1 ⟨hl, q1⟩ x1 s1 r1 => ⟨by rw [r1.length]; exact lim_le hl, fun p hp => ?_⟩
  exact (res_of s1 (fun d k' ρ' v G' H' q x s r => k d k' ρ' v G' H' q (x1.trans x) s (r.back x1.h)) q1).new p _ rfl hp ⟨vs, upd_same, r1⟩

/-! ### calls of built-ins, methods -/
def wCl (f : List D → Oz) (t : WA) : WE := fun ρ Q => t ρ fun ds ρ1 => oB (f ds) fun z k => Q z k ρ1
theorem snd_cl {r : List V → Hp → VK → Prop} {f : List D → Oz} {ta : TA} {t : WA} (hr : ClS K r f) (h : SndO K ta t) : SndE K (tCB r ta) (wCl f t) := by
  intro b G ρ σ H Q R s hq k
  refine h b G ρ σ H _ _ s hq fun ds ρ1 vs G1 H1 q1 x1 s1 r1 => ?_
  cases hf : f ds with
  | none => rw [hf] at q1; exact q1.elim
  | some zk =>
    obtain ⟨z, kd⟩ := zk
    rw [hf] at q1
    exact hr G1 (hd b.aw H1) H1 vs ds z kd R s1.sub hd_le r1 hf (res_of s1 (fun d k' ρ' v G' H' q x s r => k d k' ρ' v G' H' q (x1.trans x) s (r.back x1.h)) q1)
def wMt (f : D → List D → Oz) (t : WE) (u : WA) : WE := fun ρ Q => t ρ fun d _ ρ1 => u ρ1 fun ds ρ2 => oB (f d ds) fun z k => Q z k ρ2

/-! ### tests -/
def wTest (t : WE) : WT := fun ρ Q => t ρ fun d _ ρ1 => match d with
  | .bl c => Q c ρ1
  | _ => False
theorem snd_test {te : TE} {t : WE} (h : SndE K te t) : SndT K (tTest te) (wTest t) := by
  intro b G ρ σ H Q R s hq k
  refine h b G ρ σ H _ _ s hq fun d ka ρ1 v G1 H1 q1 x1 s1 r1 => ?_
  split at q1
  · rename_i c
    have o := r1.ov s1
    cases (show Rp K G1 v (.bl c) from o)
    exact ⟨c, rfl, k _ _ _ _ q1 x1 s1⟩
  · exact q1.elim
theorem snd_testB {te : TE} {t : WE} (h : SndE K te t) : SndT K (tB te) (wTest t) := snd_test h
def wAnd (t u : WT) : WT := fun ρ Q => t ρ fun c ρ1 => if c = true then u ρ1 Q else Q false ρ1
def wOr (t u : WT) : WT := fun ρ Q => t ρ fun c ρ1 => if c = true then Q true ρ1 else u ρ1 Q
def wNot (t : WT) : WT := fun ρ Q => t ρ fun c ρ1 => Q (!c) ρ1
theorem snd_and {ta tb : TT} {t u : WT} (ha : SndT K ta t) (hb : SndT K tb u) : SndT K (tAnd ta tb) (wAnd t u) := by
  intro b G ρ σ H Q R s hq k
  refine ha b G ρ σ H _ _ s hq fun c ρ1 G1 H1 q1 x1 s1 => ?_
  cases c with
  | true => exact iteT (hb b G1 ρ1 σ H1 Q R s1 q1 fun c ρ2 G2 H2 q2 x2 s2 => k c ρ2 G2 H2 q2 (x1.trans x2) s2)
  | false => exact iteF (k false ρ1 G1 H1 q1 x1 s1)
theorem snd_or {ta tb : TT} {t u : WT} (ha : SndT K ta t) (hb : SndT K tb u) : SndT K (tOr ta tb) (wOr t u) := by
  intro b G ρ σ H Q R s hq k
  refine ha b G ρ σ H _ _ s hq fun c ρ1 G1 H1 q1 x1 s1 => ?_
  cases c with
  | true => exact iteT (k true ρ1 G1 H1 q1 x1 s1)
  | false => exact iteF (hb b G1 ρ1 σ H1 Q R s1 q1 fun c ρ2 G2 H2 q2 x2 s2 => k c ρ2 G2 H2 q2 (x1.trans x2) s2)
theorem snd_not {ta : TT} {t : WT} (ha : SndT K ta t) : SndT K (tNot ta) (wNot t) := by
  intro b G ρ σ H Q R s hq k
  exact ha b G ρ σ H _ _ s hq fun c ρ1 G1 H1 q1 x1 s1 => k (!c) ρ1 G1 H1 q1 x1 s1
/-- as values -/
def wBl (t : WE) (f : Bool → Rho → Prop) (ρ : Rho) : Prop := t ρ fun d _ ρ1 => match d with
  | .bl c => f c ρ1
  | _ => False
def wAndV (t u : WE) : WE := fun ρ Q => wBl t (fun c ρ1 => if c = true then u ρ1 Q else Q (.bl false) .fz ρ1) ρ
def wOrV (t u : WE) : WE := fun ρ Q => wBl t (fun c ρ1 => if c = true then Q (.bl true) .fz ρ1 else u ρ1 Q) ρ
def wNotV (t : WE) : WE := fun ρ Q => wBl t (fun c ρ1 => Q (.bl (!c)) .fz ρ1) ρ
section
variable {ta tb : TE} {t u : WE}
theorem bl_of {te : TE} {t : WE} (h : SndE K te t) {b : Bs} {G : Hp} {ρ : Rho} {σ : L2.St} {H : Hp} {f : Bool → Rho → Prop} {R : VK} (s : Sim K b G ρ σ H) (q : wBl t f ρ) (k : ∀ c ρ' G' H', f c ρ' → Xt b ρ σ G H ρ' G' H' → Sim K b G' ρ' σ H' → R (.bl c) H') : te σ H R := by
  refine h b G ρ σ H _ _ s q fun d ka ρ1 v G1 H1 q1 x1 s1 r1 => ?_
  split at q1
  · rename_i c
    have o := r1.ov s1
    cases (show Rp K G1 v (.bl c) from o)
    exact k _ _ _ _ q1 x1 s1
  · exact q1.elim
theorem snd_andV (ha : SndE K ta t) (hb : SndE K tb u) : SndE K (tAndV ta tb) (wAndV t u) := by
  intro b G ρ σ H Q R s hq k
  refine bl_of ha s hq fun c ρ1 G1 H1 q1 x1 s1 => ⟨c, rfl, ?_⟩
  cases c with
  | true => exact iteT (hb b G1 ρ1 σ H1 Q R s1 q1 fun d k' ρ2 v G2 H2 q2 x2 s2 r2 => k d k' ρ2 v G2 H2 q2 (x1.trans x2) s2 (r2.back x1.h))
  | false => exact iteF (k _ _ ρ1 _ G1 H1 q1 x1 s1 (.bl _))
theorem snd_orV (ha : SndE K ta t) (hb : SndE K tb u) : SndE K (tOrV ta tb) (wOrV t u) := by
  intro b G ρ σ H Q R s hq k
  refine bl_of ha s hq fun c ρ1 G1 H1 q1 x1 s1 => ⟨c, rfl, ?_⟩
  cases c with
  | true => exact iteT (k _ _ ρ1 _ G1 H1 q1 x1 s1 (.bl _))
  | false => exact iteF (hb b G1 ρ1 σ H1 Q R s1 q1 fun d k' ρ2 v G2 H2 q2 x2 s2 r2 => k d k' ρ2 v G2 H2 q2 (x1.trans x2) s2 (r2.back x1.h))
theorem snd_notV (ha : SndE K ta t) : SndE K (tNotV ta) (wNotV t) := by
  intro b G ρ σ H Q R s hq k
  exact bl_of ha s hq fun c ρ1 G1 H1 q1 x1 s1 => ⟨c, rfl, k _ _ ρ1 _ G1 H1 q1 x1 s1 (.bl _)⟩
def wIfE (c : WT) (t u : WE) : WE := fun ρ Q => c ρ fun b ρ1 => if b = true then t ρ1 Q else u ρ1 Q
theorem snd_ifE {tc : TT} {c : WT} (hc : SndT K tc c) (ha : SndE K ta t) (hb : SndE K tb u) : SndE K (tIf tc ta tb) (wIfE c t u) := by
  intro b G ρ σ H Q R s hq k
  refine hc b G ρ σ H _ _ s hq fun c ρ1 G1 H1 q1 x1 s1 => ?_
  cases c with
  | true => exact iteT (ha b G1 ρ1 σ H1 Q R s1 q1 fun d k' ρ2 v G2 H2 q2 x2 s2 r2 => k d k' ρ2 v G2 H2 q2 (x1.trans x2) s2 (r2.back x1.h))
  | false => exact iteF (hb b G1 ρ1 σ H1 Q R s1 q1 fun d k' ρ2 v G2 H2 q2 x2 s2 r2 => k d k' ρ2 v G2 H2 q2 (x1.trans x2) s2 (r2.back x1.h))
/-- a op b op' c -/
def wChain (f g : D → D → Oz) (ta tb tc : WE) : WE := fun ρ Q => ta ρ fun d _ ρ1 => tb ρ1 fun e _ ρ2 => match f d e with
  | some (.bl true, .fz) => tc ρ2 fun h _ ρ3 => oB (g e h) fun z k => Q z k ρ3
  | some (.bl false, .fz) => Q (.bl false) .fz ρ2
  | _ => False
theorem snd_chain {r r' : R2} {f g : D → D → Oz} {tc : TE} {w : WE} (hf : OpS K r f) (hg : OpS K r' g) (ha : SndE K ta t) (hb : SndE K tb u) (hc : SndE K tc w) : SndE K (tChain r r' ta tb tc) (wChain f g t u w) := by
  intro b G ρ σ H Q R s h k
  refine ha b G ρ σ H _ _ s h fun d ka ρ1 v G1 H1 q1 x1 s1 r1 => ?_
  refine hb b G1 ρ1 σ H1 _ _ s1 q1 fun e kb ρ2 u G2 H2 q2 x2 s2 r2 => ?_
  have o1 := (r1.ov s1).mono x2.g x2.h
  have o2 := r2.ov s2
  split at q2
  · rename_i e1
    refine hf G2 (hd b.aw H2) H2 v _ d e (.bl true) .fz _ s2.sub hd_le o1 o2 e1 ⟨fun v' _ rv => ?_, fun _ _ _ _ e => (by cases e), fun _ _ e => (by cases e)⟩
    cases rv
    refine ⟨true, rfl, iteT ?_⟩
    refine hc b G2 ρ2 σ H2 _ _ s2 q2 fun h kc ρ3 y G3 H3 q3 x3 s3 r3 => ?_
    cases hz : g e h with
    | none => rw [hz] at q3; exact q3.elim
    | some zk =>
      obtain ⟨z, kd⟩ := zk
      rw [hz] at q3
      exact hg G3 (hd b.aw H3) H3 _ y e h z kd R s3.sub hd_le (o2.mono x3.g x3.h) (r3.ov s3) hz (res_of s3 (fun d k' ρ' v G' H' q x s r => k d k' ρ' v G' H' q (((x1.trans x2).trans x3).trans x) s (r.back ((x1.trans x2).trans x3).h)) q3)
  · rename_i e1
    refine hf G2 (hd b.aw H2) H2 v _ d e (.bl false) .fz _ s2.sub hd_le o1 o2 e1 ⟨fun v' _ rv => ?_, fun _ _ _ _ e => (by cases e), fun _ _ e => (by cases e)⟩
    cases rv
    exact ⟨false, rfl, iteF (k _ _ ρ2 _ G2 H2 q2 (x1.trans x2) s2 (.bl _))⟩
  · exact q2.elim
end

/-! ### calls of own defs -/
inductive A where
  | d (x : D) | w
abbrev FS := List A → (D → Kd → Prop) → Prop
abbrev WX := Rho → (List A → Rho → Prop) → Prop
def xNil : WX := fun ρ Q => Q [] ρ
def xCons (t : WE) (u : WX) : WX := fun ρ Q => t ρ (toF fun d ρ1 => u ρ1 fun ds ρ2 => Q (.d d :: ds) ρ2)
def xW (i : Nat) (u : WX) : WX := fun ρ Q => ρ[i]? = some .w ∧ u ρ fun ds ρ2 => Q (.w :: ds) ρ2
/-- arguments -/
def RpA (K : PySem.W.Frag) (b : Bs) (G : Hp) : V → A → Prop
  | v, .d d => Rp K G v d
  | v, .w => ∃ a, b.aw = some a ∧ v = .ref a
def SndX (K : PySem.W.Frag) (ta : TA) (t : WX) : Prop := ∀ (b : Bs) (G : Hp) (ρ : Rho) (σ : L2.St) (H : Hp) (Q : List A → Rho → Prop) (R : List V → Hp → Prop), Sim K b G ρ σ H → t ρ Q →
  (∀ as ρ' vs G' H', Q as ρ' → Xt b ρ σ G H ρ' G' H' → Sim K b G' ρ' σ H' → Paired (RpA K b G') vs as → R vs H') → ta σ H R
theorem rpA_mono {b : Bs} {G G' : Hp} (e : Ex G G') {v : V} {a : A} (h : RpA K b G v a) : RpA K b G' v a := by
  cases a with
  | d d => exact Rp.mono e h
  | w => exact h
theorem sndX_nil : SndX K tNil xNil := fun b G ρ σ H Q R s q k => k _ _ _ G H q .refl s .nil
theorem sndX_cons {te : TE} {ta : TA} {t : WE} {u : WX} (ha : SndE K te t) (hb : SndX K ta u) : SndX K (tCons te ta) (xCons t u) := by
  intro b G ρ σ H Q R s h k
  refine ha b G ρ σ H _ _ s h fun d ka ρ1 v G1 H1 q1 x1 s1 r1 => ?_
  refine frozen (R := fun v H' => ta σ H' fun xs H2 => R (v :: xs) H2) q1 x1 s s1 r1 fun d ρ1 v G1 q1 x1 s1 r1 => ?_
  refine hb b G1 ρ1 σ H1 _ _ s1 q1 fun ds ρ2 vs G2 H2 q2 x2 s2 r2 => ?_
  exact k _ _ _ G2 H2 q2 (x1.trans x2) s2 (.cons (show RpA K b G2 v (.d d) from r1.mono x2.g) r2)
theorem sndX_w {ta : TA} {i : Nat} {u : WX} (hb : SndX K ta u) : SndX K (tCons (tVar i) ta) (xW i u) := by
  intro b G ρ σ H Q R s h k
  obtain ⟨e, h⟩ := h
  obtain ⟨a, e1, e2⟩ := s.ws i e
  refine ⟨_, e2, ?_⟩
  refine hb b G ρ σ H _ _ s h fun ds ρ2 vs G2 H2 q2 x2 s2 r2 => ?_
  exact k _ _ _ G2 H2 q2 x2 s2 (.cons (show RpA K b G2 _ .w from ⟨a, e1, rfl⟩) r2)
/-- what stands for a result between caller and callee -/
def Rr (K : PySem.W.Frag) (b : Bs) (G' H' : Hp) : Kd → V → D → Prop
  | .fz, v, d => Rp K G' v d
  | .nw, v, d => ∃ a, v = .ref a ∧ b.B0 a = none ∧ b.aw ≠ some a ∧ G' a = none ∧ Ob K G' H' a d
  | .br _, _, _ => False
/-- a promise over data, as a promise of the layer -/
def toSp (K : PySem.W.Frag) (sp : FS) : Sp := fun vs H R _ => ∃ (aw : Option Addr) (G : Hp) (as : List A) (q : D → Kd → Prop), Ex G (hd aw H) ∧ (∀ a, aw = some a → WOk K G H a) ∧ Paired (RpA K ⟨aw, G, hd aw H⟩ G) vs as ∧ sp as q ∧
  ∀ d k v G' H', q d k → Ex G G' → Ex G' (hd aw H') → Ex (hd aw H) (hd aw H') → (∀ a o, hd aw H a = some o → G a = none → G' a = none) → (∀ a, aw = some a → WOk K G' H' a) → Rr K ⟨aw, G, hd aw H⟩ G' H' k v d → R v H'
def wCall (sp : FS) (t : WX) : WE := fun ρ Q => t ρ fun as ρ1 => sp as fun d k => Q d k ρ1
theorem snd_call {sp : FS} {ta : TA} {t : WX} {E : XK} (h : SndX K ta t) : SndE K (tCall (toSp K sp) [] E ta) (wCall sp t) := by
  intro b G ρ σ H Q R s hq k
  refine h b G ρ σ H _ _ s hq fun as ρ1 vs G1 H1 q1 x1 s1 r1 => ?_
  rw [List.append_nil]
  refine ⟨b.aw, G1, as, _, s1.sub, s1.wk, Paired.mapP r1 (fun v a r => by cases a with | d d => exact r | w => exact r), q1, fun d kd v G2 H2 q2 g sub hh new wk rr => ?_⟩
  have s2 : Sim K b G2 ρ1 σ H2 := by
    refine ⟨s1.len, sub, s1.g0.trans g, s1.b0.trans hh, fun a o e n => ?_, fun i d e => ?_, fun i d e => ?_, s1.dj, s1.ws, wk⟩
    · exact new a o (s1.b0 a o e) (s1.new a o e n)
    · obtain ⟨v, e1, r⟩ := s1.fz i d e
      exact ⟨v, e1, r.mono g⟩
    · obtain ⟨a, e1, e2, e3, e4, e5⟩ := s1.ow i d e
      obtain ⟨o, ho, _⟩ := e5.there
      have ho' : hd b.aw H1 a = some o := by rw [hd_ne e2]; exact ho
      exact ⟨a, e1, e2, e3, new a o ho' e4, e5.mono g fun u hu => by
        have : hd b.aw H1 a = some u := by rw [hd_ne e2]; exact hu
        exact (hd_some (hh a u this)).2⟩
  have x2 : Xt b ρ1 σ G1 H1 ρ1 G2 H2 := ⟨g, hh, fun a o e n _ => new a o e n, fun _ _ e => e⟩
  refine k d kd ρ1 v G2 H2 q2 (x1.trans x2) s2 ?_
  cases kd with
  | fz => exact rr
  | nw =>
    obtain ⟨a, e0, e1, e2, e3, e4⟩ := rr
    exact ⟨a, e0, Evl.fresh_back x1.h e1, e2, e3, e4⟩
  | br i => exact rr.elim
end VL

namespace VL
open PySem PySem.Spec PyProof.Rows L2
open Evl (Ex)
variable {K : PySem.W.Frag}

/-! ### statements -/
structure PEnds where
  nx : Rho → Prop
  rt : D → Kd → Prop
  bk : Rho → Prop
  ct : Rho → Prop
abbrev WS := PEnds → Rho → Prop
structure EOk (K : PySem.W.Frag) (b : Bs) (P : PEnds) (E : Ends) : Prop where
  nx : ∀ ρ σ G H, P.nx ρ → Sim K b G ρ σ H → E.nx σ H
  rt : ∀ d k v ρ σ G H, P.rt d k → Sim K b G ρ σ H → Rr K b G H k v d → E.rt v H
  bk : ∀ ρ σ G H, P.bk ρ → Sim K b G ρ σ H → E.bk σ H
  ct : ∀ ρ σ G H, P.ct ρ → Sim K b G ρ σ H → E.ct σ H
def SndS (K : PySem.W.Frag) (ts : TS) (t : WS) : Prop := ∀ (b : Bs) (P : PEnds) (E : Ends) (G : Hp) (ρ : Rho) (σ : L2.St) (H : Hp), EOk K b P E → Sim K b G ρ σ H → t P ρ → ts E σ H
section
variable {ts us : TS} {t u : WS} {te : TE} {w : WE}
def wNext : WS := fun P ρ => P.nx ρ
theorem snd_next : SndS K tNext wNext := fun b P E G ρ σ H e s h => e.nx ρ σ G H h s
def wSeq (t u : WS) : WS := fun P ρ => t { P with nx := u P } ρ
theorem snd_seq (ha : SndS K ts t) (hb : SndS K us u) : SndS K (tSeq ts us) (wSeq t u) := fun b P E G ρ σ H e s h =>
  ha b { P with nx := u P } { E with nx := us E } G ρ σ H ⟨fun ρ σ G H h s => hb b P E G ρ σ H e s h, e.rt, e.bk, e.ct⟩ s h
def wBreak : WS := fun P ρ => P.bk ρ
def wCont : WS := fun P ρ => P.ct ρ
theorem snd_break : SndS K tBreak wBreak := fun b P E G ρ σ H e s h => e.bk ρ σ G H h s
theorem snd_cont : SndS K tCont wCont := fun b P E G ρ σ H e s h => e.ct ρ σ G H h s
def Kd.ret : Kd → Kd
  | .br _ => .nw
  | k => k
theorem Rv.rr {b : Bs} {G H G' H' : Hp} {ρ ρ' : Rho} {σ : L2.St} {k : Kd} {v : V} {d : D} (r : Rv K b H G' H' ρ' σ k v d) (s0 : Sim K b G ρ σ H) (s : Sim K b G' ρ' σ H') : Rr K b G' H' k.ret v d := by
  cases k with
  | fz => exact r
  | nw =>
    obtain ⟨a, h0, h1, h2, h3, h4⟩ := r
    exact ⟨a, h0, Evl.fresh_back s0.b0 h1, h2, h3, h4⟩
  | br i =>
    obtain ⟨h1, h2⟩ := r
    obtain ⟨a, e1, e2, e3, e4, e5⟩ := s.ow i d h1
    rw [h2] at e1; cases e1
    exact ⟨a, rfl, e3, e2, e4, e5⟩
def wRet (w : WE) : WS := fun P ρ => w ρ fun d k _ => P.rt d k.ret
theorem snd_ret (h : SndE K te w) : SndS K (tRet te) (wRet w) := fun b P E G ρ σ H e s hq =>
  h b G ρ σ H _ _ s hq fun d k ρ' v G' H' q x s' r => e.rt d _ v ρ' σ G' H' q s' (r.rr s s')
def wRetN : WS := fun P ρ => P.rt .non .fz
theorem snd_retN : SndS K tRetN wRetN := fun b P E G ρ σ H e s h => e.rt .non .fz .non ρ σ G H h s .non
def wIf (c : WT) (t u : WS) : WS := fun P ρ => c ρ fun b ρ1 => if b = true then t P ρ1 else u P ρ1
theorem snd_if {tc : TT} {c : WT} (hc : SndT K tc c) (ha : SndS K ts t) (hb : SndS K us u) : SndS K (tIfS tc ts us) (wIf c t u) := fun b P E G ρ σ H e s h =>
  hc b G ρ σ H _ _ s h fun c ρ1 G1 H1 q1 x1 s1 => by
    cases c with
    | true => exact iteT (ha b P E G1 ρ1 σ H1 e s1 q1)
    | false => exact iteF (hb b P E G1 ρ1 σ H1 e s1 q1)
def wDrop (w : WE) : WS := fun P ρ => w ρ fun _ _ ρ1 => P.nx ρ1
theorem snd_drop (h : SndE K te w) : SndS K (tDrop te) (wDrop w) := fun b P E G ρ σ H e s hq =>
  h b G ρ σ H _ _ s hq fun d k ρ' v G' H' q x s' r => e.nx ρ' σ G' H' q s'
end

/-! ### a value to a name -/
def wgN (i : Nat) (d : D) (k : Kd) (ρ : Rho) (Q : Rho → Prop) : Prop := match k with
  | .fz => Q (ρ.set i (.fz d))
  | .nw => Q (ρ.set i (.ow d))
  | .br j => Q ((ρ.set j (.fz d)).set i (.fz d))
def wAsg (i : Nat) (w : WE) : WS := fun P ρ => w ρ fun d k ρ1 => wgN i d k ρ1 P.nx
section
variable {b : Bs} {G H G' H' : Hp} {ρ ρ' : Rho} {σ : L2.St} {k : Kd} {v : V} {d : D}
theorem Rv.free (r : Rv K b H G' H' ρ' σ .nw v d) (s0 : Sim K b G ρ σ H) (x : Xt b ρ σ G H ρ' G' H') : ∃ a, v = .ref a ∧ b.B0 a = none ∧ b.aw ≠ some a ∧ G' a = none ∧ Ob K G' H' a d ∧ ∀ (j : Nat) (e : D), ρ'[j]? = some (.ow e) → σ[j]? ≠ some (some (.ref a)) := by
  obtain ⟨a, h0, h1, h2, h3, h4⟩ := r
  refine ⟨a, h0, Evl.fresh_back s0.b0 h1, h2, h3, h4, fun j e he z => ?_⟩
  obtain ⟨a', e1, e2, e3, e4, e5⟩ := s0.ow j e (x.own j e he)
  rw [z] at e1; cases e1
  obtain ⟨o', ho', _⟩ := e5.there
  rw [hd_ne e2, ho'] at h1; cases h1
theorem name_ok {i : Nat} {Q : Rho → Prop} {R : L2.St → Hp → Prop} (r : Rv K b H G' H' ρ' σ k v d) (s0 : Sim K b G ρ σ H) (x : Xt b ρ σ G H ρ' G' H') (s : Sim K b G' ρ' σ H') (q : wgN i d k ρ' Q)
    (h : ∀ ρ2 G2, Q ρ2 → Sim K b G2 ρ2 (σ.set i (some v)) H' → R (σ.set i (some v)) H') : R (σ.set i (some v)) H' := by
  cases k with
  | fz => exact h _ _ q (s.setF i r)
  | nw =>
    obtain ⟨a, rfl, h1, h2, h3, h4, no⟩ := r.free s0 x
    exact h _ _ q (s.setO i h2 h1 h3 h4 no)
  | br j =>
    obtain ⟨h1, h2⟩ := r
    obtain ⟨p, o, rfl, ho, hg, hw, h0, rr, s2⟩ := s.frz h1 h2
    exact h _ _ q (s2.setF i rr)
end
theorem snd_asg {i : Nat} {te : TE} {w : WE} (h : SndE K te w) : SndS K (tAsg te (gName i)) (wAsg i w) := fun b P E G ρ σ H e s hq =>
  h b G ρ σ H _ _ s hq fun d k ρ' v G' H' q x s' r => name_ok (R := E.nx) r s x s' q fun ρ2 G2 q2 s2 => e.nx ρ2 _ G2 H' q2 s2

/-! ### frozen data to a target of names -/
abbrev WG := D → Rho → (Rho → Prop) → Prop
abbrev WGs := List D → Rho → (Rho → Prop) → Prop
def GPost (K : PySem.W.Frag) (b : Bs) (G H : Hp) (ρ : Rho) (σ : L2.St) (ρ' : Rho) (σ' : L2.St) : Prop :=
  Sim K b G ρ' σ' H ∧ ∀ (i : Nat) (d : D), ρ'[i]? = some (.ow d) → ρ[i]? = some (.ow d) ∧ σ'[i]? = σ[i]?
def SndG (K : PySem.W.Frag) (tg : TG) (g : WG) : Prop := ∀ (b : Bs) (G : Hp) (ρ : Rho) (σ : L2.St) (H : Hp) (v : V) (d : D) (Q : Rho → Prop) (R : L2.St → Hp → Prop), Sim K b G ρ σ H → Rp K G v d → g d ρ Q →
  (∀ ρ' σ', Q ρ' → GPost K b G H ρ σ ρ' σ' → R σ' H) → tg v σ H R
def SndGs (K : PySem.W.Frag) (tg : TGs) (g : WGs) : Prop := ∀ (b : Bs) (G : Hp) (ρ : Rho) (σ : L2.St) (H : Hp) (vs : List V) (ds : List D) (Q : Rho → Prop) (R : L2.St → Hp → Prop), Sim K b G ρ σ H → RpL K G vs ds → g ds ρ Q →
  (∀ ρ' σ', Q ρ' → GPost K b G H ρ σ ρ' σ' → R σ' H) → tg vs σ H R
def wgName (i : Nat) : WG := fun d ρ Q => Q (ρ.set i (.fz d))
def wgNil : WGs := fun ds ρ Q => match ds with
  | [] => Q ρ
  | _ => False
def wgCons (g : WG) (u : WGs) : WGs := fun ds ρ Q => match ds with
  | d :: r => g d ρ fun ρ1 => u r ρ1 Q
  | [] => False
def wgTup (n : Nat) (u : WGs) : WG := fun d ρ Q => match d with
  | .tup ds => ds.length = n ∧ u ds ρ Q
  | _ => False
theorem sndG_name (i : Nat) : SndG K (gName i) (wgName i) := fun b G ρ σ H v d Q R s r q k => k _ _ q ⟨s.setF i r, fun j e he => by
  by_cases hj : j = i
  · subst hj
    by_cases hl : j < ρ.length
    · rw [List.getElem?_set_self hl] at he; cases he
    · rw [List.getElem?_eq_none (by simpa using hl)] at he; cases he
  · rw [List.getElem?_set_ne (Ne.symm hj)] at he ⊢
    exact ⟨he, rfl⟩⟩
theorem sndG_nil : SndGs K gNil wgNil := fun b G ρ σ H vs ds Q R s r q k => by
  unfold wgNil at q
  split at q
  · cases r
    exact ⟨rfl, k ρ σ q ⟨s, fun _ _ e => ⟨e, rfl⟩⟩⟩
  · exact q.elim
theorem sndG_cons {tg : TG} {tu : TGs} {g : WG} {u : WGs} (h1 : SndG K tg g) (h2 : SndGs K tu u) : SndGs K (gCons tg tu) (wgCons g u) := fun b G ρ σ H vs ds Q R s r q k => by
  unfold wgCons at q
  split at q
  · rename_i d r'
    cases r with
    | cons ra rb =>
      refine ⟨_, _, rfl, h1 b G ρ σ H _ d _ _ s ra q fun ρ1 σ1 q1 p1 => ?_⟩
      exact h2 b G ρ1 σ1 H _ _ _ _ p1.1 rb q1 fun ρ2 σ2 q2 p2 => k ρ2 σ2 q2 ⟨p2.1, fun i d e => by
        obtain ⟨e1, e2⟩ := p2.2 i d e
        obtain ⟨e3, e4⟩ := p1.2 i d e1
        exact ⟨e3, e2.trans e4⟩⟩
  · exact q.elim
theorem sndG_tup {n : Nat} {tu : TGs} {u : WGs} (h : SndGs K tu u) : SndG K (gTup K n tu) (wgTup n u) := fun b G ρ σ H v d Q R s r q k => by
  unfold wgTup at q
  split at q
  · rename_i ds
    cases r with
    | @tup a vs _ e rl => exact ⟨a, vs, rfl, exT s.le e, by rw [rl.length]; exact q.1, h b G ρ σ H vs ds Q R s rl q.2 k⟩
  · exact q.elim
def wAsgT (g : WG) (w : WE) : WS := fun P ρ => w ρ (toF fun d ρ1 => g d ρ1 P.nx)
theorem snd_asgT {tg : TG} {g : WG} {te : TE} {w : WE} (hg : SndG K tg g) (h : SndE K te w) : SndS K (tAsg te tg) (wAsgT g w) := fun b P E G ρ σ H e s hq =>
  h b G ρ σ H _ _ s hq fun d k ρ' v G' H' q x s' r => frozen (R := fun v H' => tg v σ H' E.nx) q x s s' r fun d ρ2 v G2 q2 x2 s2 r2 =>
    hg b G2 ρ2 σ H' v d _ _ s2 r2 q2 fun ρ3 σ3 q3 p3 => e.nx ρ3 σ3 G2 H' q3 p3.1

/-! ### an owned object changes -/
section
variable {b : Bs} {G H : Hp} {ρ : Rho} {σ : L2.St}
theorem Sim.put (s : Sim K b G ρ σ H) {j : Nat} {d0 d : D} {a : Addr} {o : HO} (e : ρ[j]? = some (.ow d0)) (ea : σ[j]? = some (some (.ref a))) (ob : Ob K G (upd H a o) a d) : Sim K b G (ρ.set j (.ow d)) σ (upd H a o) := by
  obtain ⟨a', h1, h2, h3, h4, h5⟩ := s.ow j d0 e
  rw [ea] at h1; cases h1
  have hl : j < σ.length := (List.getElem?_eq_some_iff.mp ea).1
  have es : σ.set j (some (.ref a)) = σ := by
    apply List.ext_getElem?
    intro i
    by_cases hi : i = j
    · subst hi; rw [List.getElem?_set_self hl, ea]
    · rw [List.getElem?_set_ne (Ne.symm hi)]
  have key : ∀ (i : Nat) (x : Slot), (ρ.set j .un)[i]? = some x → x ≠ .un → (i ≠ j ∧ ρ[i]? = some x) := fun i x e' ne => by
    by_cases hi : i = j
    · subst hi
      rw [List.getElem?_set_self (by rw [s.len]; exact hl)] at e'; cases e'; exact absurd rfl ne
    · rw [List.getElem?_set_ne (Ne.symm hi)] at e'; exact ⟨hi, e'⟩
  have hdu : hd b.aw (upd H a o) = upd (hd b.aw H) a o := by
    funext c
    unfold hd upd
    by_cases hc : c = a
    · subst hc; rw [if_neg h2, if_pos rfl, if_pos rfl]
    · rw [if_neg hc, if_neg hc]
  have s0 : Sim K b G (ρ.set j .un) σ (upd H a o) := by
    refine ⟨by simp [s.len], fun c u ec => ?_, s.g0, fun c u ec => ?_, s.new, fun i x e' => s.fz i x (key i _ e' (by simp)).2, fun i x e' => ?_,
      fun i k x y v' hne e1 e2 => s.dj i k x y v' hne (key i _ e1 (by simp)).2 (key k _ e2 (by simp)).2, fun i e' => s.ws i (key i _ e' (by simp)).2, fun c ec => ?_⟩
    · rw [hdu, upd_ne (fun z => by subst z; rw [h4] at ec; cases ec)]; exact s.sub c u ec
    · rw [hdu, upd_ne (fun z => by subst z; rw [h3] at ec; cases ec)]; exact s.b0 c u ec
    · obtain ⟨hi, e2⟩ := key i _ e' (by simp)
      obtain ⟨c, c1, c2, c3, c4, c5⟩ := s.ow i x e2
      have hc : c ≠ a := fun z => by subst z; exact s.dj i j x d0 _ hi e2 e c1 ea
      exact ⟨c, c1, c2, c3, c4, c5.mono (Ex.refl _) fun u hu => by rw [upd_ne hc]; exact hu⟩
    · exact (s.wk c ec).mono (Ex.refl _) (upd_ne fun z => h2 (z ▸ ec))
  have s1 := s0.setO j h2 h3 h4 ob (fun i x e' z => by
    obtain ⟨hi, e2⟩ := key i _ e' (by simp)
    exact s.dj i j x d0 _ hi e2 e z ea)
  rw [List.set_set, es] at s1
  exact s1
end
/-- a change of the list in slot j by a value: what it is before is asked twice, ahead of the value and behind it -/
def wMut (j : Nat) (w : WE) (f : D → D → Option D) : WS := fun P ρ => (∃ ds, ρ[j]? = some (.ow (.lst ds))) ∧ w ρ (toF fun d ρ1 => match ρ1[j]? with
  | some (.ow d0) => match f d0 d with
    | some z => P.nx (ρ1.set j (.ow z))
    | none => False
  | _ => False)
def fAppend : D → D → Option D
  | .lst ds, d => if ds.length < LIM then some (.lst (ds ++ [d])) else none
  | _, _ => none
theorem snd_append {j : Nat} {te : TE} {w : WE} (h : SndE K te w) : SndS K (tDrop (tBM K "list" rAppend (tVar j) (tCons te tNil))) (wMut j w fAppend) := fun b P E G ρ σ H e s hq => by
  obtain ⟨⟨ds0, e0⟩, hq⟩ := hq
  obtain ⟨a, h1, h2, h3, h4, vs0, h5, h6⟩ := s.ow j _ e0
  refine ⟨_, h1, .inl ⟨rfl, _, .inl (.inl h5)⟩, ?_⟩
  refine h b G ρ σ H _ _ s hq fun d k ρ' v G' H' q x s' r => ?_
  refine frozen (R := fun v H' => rAppend (.ref a) [v] H' fun _ H1 => E.nx σ H1) q x s s' r fun d ρ2 v G2 q2 x2 s2 r2 => ?_
  split at q2
  · rename_i d0 e2
    split at q2
    · rename_i z ez
      obtain ⟨a', c1, c2, c3, c4, c5⟩ := s2.ow j d0 e2
      rw [h1] at c1; cases c1
      cases d0 with
      | lst ds =>
        obtain ⟨vs, c6, c7⟩ := c5
        simp only [fAppend] at ez
        split at ez
        · rename_i hl
          cases ez
          exact ⟨a, vs, v, rfl, rfl, c6, by rw [c7.length]; exact lim_lt hl, e.nx _ σ G2 _ q2 (s2.put e2 h1 ⟨_, upd_same, c7.append (.cons r2 .nil)⟩)⟩
        · cases ez
      | _ => simp [fAppend] at ez
    · exact q2.elim
  · exact q2.elim
/-- found.extend(list) -/
def wExtend (j : Nat) (w : WE) : WS := fun P ρ => (∃ ds, ρ[j]? = some (.ow (.lst ds))) ∧ w ρ fun d _ ρ1 => match ρ1[j]?, d with
  | some (.ow (.lst ds)), .lst es => ds.length + es.length ≤ LIM ∧ P.nx (ρ1.set j (.ow (.lst (ds ++ es))))
  | _, _ => False
theorem snd_extend {j : Nat} {te : TE} {w : WE} (h : SndE K te w) : SndS K (tDrop (tBM K "list" rExtend (tVar j) (tCons te tNil))) (wExtend j w) := fun b P E G ρ σ H e s hq => by
  obtain ⟨⟨ds0, e0⟩, hq⟩ := hq
  obtain ⟨a, h1, h2, h3, h4, vs0, h5, h6⟩ := s.ow j _ e0
  refine ⟨_, h1, .inl ⟨rfl, _, .inl (.inl h5)⟩, ?_⟩
  refine h b G ρ σ H _ _ s hq fun d k ρ' v G' H' q x s' r => ?_
  split at q
  · rename_i ds es e2
    obtain ⟨a', c1, c2, c3, c4, vs, c6, c7⟩ := s'.ow j _ e2
    rw [h1] at c1; cases c1
    obtain ⟨a2, us, rfl, o2, o3⟩ := r.ov s'
    have o2' := hd_le _ _ o2
    exact ⟨a, a2, vs, us, rfl, rfl, c6, o2', by rw [c7.length, o3.length]; exact lim_le q.1, e.nx _ σ G' _ q.2 (s'.put e2 h1 ⟨_, upd_same, c7.append o3⟩)⟩
  · exact q.elim
/-- name op= value -/
def wAug (i : Nat) (f : D → D → Oz) (w : WE) : WS := fun P ρ => match ρ[i]? with
  | some (.fz d) => w ρ fun e _ ρ1 => oB (f d e) fun z k => wgN i z k ρ1 P.nx
  | _ => False
theorem snd_aug {i : Nat} {r : R2} {f : D → D → Oz} {te : TE} {w : WE} (ho : OpS K r f) (h : SndE K te w) : SndS K (tAug i te r) (wAug i f w) := fun b P E G ρ σ H e s hq => by
  unfold wAug at hq
  split at hq
  · rename_i d ed
    obtain ⟨x, h1, h2⟩ := s.fz i d ed
    refine ⟨x, h1, ?_⟩
    refine h b G ρ σ H _ _ s hq fun d' k ρ' v G' H' q x' s' r' => ?_
    cases hf : f d d' with
    | none => rw [hf] at q; exact q.elim
    | some zk =>
      obtain ⟨z, kd⟩ := zk
      rw [hf] at q
      exact ho G' (hd b.aw H') H' x v d d' z kd _ s'.sub hd_le ((h2.mono x'.g).ov s'.sub) (r'.ov s') hf
        (res_of s' (Q := fun z k ρ1 => wgN i z k ρ1 P.nx) (fun d k' ρ2 v G2 H2 q x2 s2 r2 => name_ok (R := E.nx) r2 s' x2 s2 q fun ρ3 G3 q3 s3 => e.nx ρ3 _ G3 H2 q3 s3) q)
  · exact hq.elim

/-! ### what is walked -/
abbrev WI := Rho → (List D → Rho → Prop) → Prop
def Yl (K : PySem.W.Frag) (G H : Hp) (d : D) (x : V) (H' : Hp) : Prop := (H' = H ∧ Rp K G x d) ∨ ∃ p vs ds, H p = none ∧ x = .ref p ∧ H' = upd H p (.tup vs) ∧ d = .tup ds ∧ RpL K G vs ds
def Walks (K : PySem.W.Frag) (J : It) (xs : List D) (G B : Hp) : Prop := ∀ (G2 H2 : Hp) (i : Nat), Ex G G2 → Ex B H2 → Ex G2 H2 →
  (∀ d, xs[i]? = some d → J.go i H2 ∧ ∀ x H3, J.yld i H2 x H3 → Yl K G2 H2 d x H3) ∧ (xs.length ≤ i → J.stop i H2)
/-- what is walked is frozen ahead (a for); as it stands (a comprehension) -/
def SndIF (K : PySem.W.Frag) (wi : TI) (t : WI) : Prop := ∀ (b : Bs) (G : Hp) (ρ : Rho) (σ : L2.St) (H : Hp) (Q : List D → Rho → Prop) (R : It → Hp → Prop), Sim K b G ρ σ H → t ρ Q →
  (∀ xs ρ' J G' H', Q xs ρ' → Xt b ρ σ G H ρ' G' H' → Sim K b G' ρ' σ H' → Walks K J xs G' G' → R J H') → wi σ H R
def SndIO (K : PySem.W.Frag) (wi : TI) (t : WI) : Prop := ∀ (b : Bs) (G : Hp) (ρ : Rho) (σ : L2.St) (H : Hp) (Q : List D → Rho → Prop) (R : It → Hp → Prop), Sim K b G ρ σ H → t ρ Q →
  (∀ xs ρ' J G' H', Q xs ρ' → Xt b ρ σ G H ρ' G' H' → Sim K b G' ρ' σ H' → Walks K J xs G' (hd b.aw H') → R J H') → wi σ H R
section
variable {G B : Hp} {a : Addr} {vs : List V} {xs : List D}
theorem walks_list (h : SqL K B a vs) (r : RpL K G vs xs) : Walks K (Itl K a) xs G B := fun G2 H2 i e1 e2 e3 => by
  have hq : SqL K H2 a vs := Evl.ex_l e2 h
  refine ⟨fun d hd => ?_, fun hl => ⟨vs, hq, by rw [r.length]; exact hl⟩⟩
  obtain ⟨v, hv, rv⟩ := r.get hd
  refine ⟨⟨vs, v, hq, hv⟩, fun x H3 y => .inl ⟨y.1, ?_⟩⟩
  have := y.2 vs hq
  rw [hv] at this; cases this
  exact rv.mono e1
theorem walks_tup (h : SqT K B a vs) (r : RpL K G vs xs) : Walks K (Itt K a) xs G B := fun G2 H2 i e1 e2 e3 => by
  have hq : SqT K H2 a vs := Evl.ex_t e2 h
  refine ⟨fun d hd => ?_, fun hl => ⟨vs, hq, by rw [r.length]; exact hl⟩⟩
  obtain ⟨v, hv, rv⟩ := r.get hd
  refine ⟨⟨vs, v, hq, hv⟩, fun x H3 y => .inl ⟨y.1, ?_⟩⟩
  have := y.2 vs hq
  rw [hv] at this; cases this
  exact rv.mono e1
end
/-- lo, lo + 1, .. (n of them) -/
def rng (lo : Int) (n : Nat) : List D := (List.range n).map fun (i : Nat) => .int (lo + (i : Int))
theorem walks_rng {G B : Hp} (lo : Int) (n : Nat) : Walks K (Itr lo n) (rng lo n) G B := fun G2 H2 i e1 e2 e3 => by
  refine ⟨fun d hd => ?_, fun hl => by simpa [rng, Itr] using hl⟩
  unfold rng at hd
  rw [List.getElem?_map] at hd
  cases hr : (List.range n)[i]? with
  | none => rw [hr] at hd; cases hd
  | some j =>
    rw [hr] at hd
    obtain ⟨h1, h2⟩ := List.getElem?_eq_some_iff.mp hr
    rw [List.getElem_range] at h2
    subst h2
    cases hd
    refine ⟨by simpa [Itr] using h1, fun x H3 y => .inl ⟨y.1, ?_⟩⟩
    have := y.2
    subst this
    exact .int _
def seqOf : D → Option (List D)
  | .lst xs => some xs
  | .tup xs => some xs
  | .fl xs => some xs
  | .ft xs => some xs
  | _ => none
/-- a list or a tuple -/
def iSeq (K : PySem.W.Frag) (tl : TE) : TI := fun σ H R => tl σ H fun x H1 => ∃ a, x = .ref a ∧ (((∃ xs, SqL K H1 a xs) ∧ R (Itl K a) H1) ∨ ((∃ xs, SqT K H1 a xs) ∧ R (Itt K a) H1))
theorem pi_seq {X : Cx} {tg l : Expr} {tl : TE} (hl : PE X l tl) : PI X tg l (iSeq X.K tl) := by
  refine ⟨fun pins s σ H R I h => ?_⟩
  refine thn (hl.run pins s σ H _ I h) fun v s1 ⟨x, H1, I1, r1, q1⟩ => ?_
  obtain ⟨a, e, q⟩ := q1
  subst e
  cases r1
  rcases q with ⟨⟨xs, hq⟩, q⟩ | ⟨⟨xs, hq⟩, q⟩
  · obtain ⟨its, rv, p, hz⟩ := I1.list hq
    refine wpAny_pyIter_list p.isList ?_
    refine ⟨s1.heap.objs.size, [s1.heap.objs.size], _, _, H1, rfl, I1.kept (t' := s1.toks) fun b o e => Heap.get?_push_of_some _ e, turn_list a _, ⟨_, Heap.get?_push_size _ rfl, rfl, rfl⟩, fun b hb => ?_, q⟩
    have e : b = s1.heap.objs.size := by simpa using hb
    subst e
    exact I1.fpOk (Nat.le_refl _) (I1.hok.fresh (Nat.le_refl _))
  · obtain ⟨its, rv, p, hz⟩ := I1.tuple hq
    refine wpAny_pyIter_tuple (show s1.heap.IsTuple a its.toArray from p) ?_
    refine ⟨s1.heap.objs.size, [s1.heap.objs.size], _, _, H1, rfl, I1.kept (t' := s1.toks) fun b o e => Heap.get?_push_of_some _ e, turn_tuple a _, ⟨_, Heap.get?_push_size _ rfl, rfl, rfl⟩, fun b hb => ?_, q⟩
    have e : b = s1.heap.objs.size := by simpa using hb
    subst e
    exact I1.fpOk (Nat.le_refl _) (I1.hok.fresh (Nat.le_refl _))
def wiF (w : WE) : WI := fun ρ Q => w ρ (toF fun d ρ1 => match seqOf d with
  | some xs => Q xs ρ1
  | none => False)
def wiO (w : WE) : WI := fun ρ Q => w ρ fun d _ ρ1 => match seqOf d with
  | some xs => Q xs ρ1
  | none => False
theorem seq_go {G B H : Hp} {v : V} {d : D} {xs : List D} {R : It → Hp → Prop} (e : Ex G B) (e2 : Ex B H) (o : Ov K G B v d) (hs : seqOf d = some xs) (k : ∀ J, Walks K J xs G B → R J H) :
    ∃ a, v = .ref a ∧ (((∃ xs, SqL K H a xs) ∧ R (Itl K a) H) ∨ ((∃ xs, SqT K H a xs) ∧ R (Itt K a) H)) := by
  cases d with
  | lst ds =>
    cases hs
    obtain ⟨a, vs, rfl, h1, h2⟩ := o
    exact ⟨a, rfl, .inl ⟨⟨vs, .inl (.inl (e2 _ _ h1))⟩, k _ (walks_list (.inl (.inl h1)) h2)⟩⟩
  | tup ds =>
    cases hs
    cases (show Rp K G v (.tup xs) from o) with
    | @tup a vs _ h1 h2 => exact ⟨a, rfl, .inr ⟨⟨vs, exT (e.trans e2) h1⟩, k _ (walks_tup (exT e h1) h2)⟩⟩
  | ft ds =>
    cases hs
    cases (show Rp K G v (.ft xs) from o) with
    | @ft a vs _ h1 h2 => exact ⟨a, rfl, .inr ⟨⟨vs, Evl.ex_t (e.trans e2) h1⟩, k _ (walks_tup (Evl.ex_t e h1) h2)⟩⟩
  | fl ds =>
    cases hs
    cases (show Rp K G v (.fl xs) from o) with
    | @fl a vs _ h1 h2 => exact ⟨a, rfl, .inl ⟨⟨vs, Evl.ex_l (e.trans e2) h1⟩, k _ (walks_list (Evl.ex_l e h1) h2)⟩⟩
  | _ => cases hs
theorem sndIO_seq {te : TE} {w : WE} (h : SndE K te w) : SndIO K (iSeq K te) (wiO w) := fun b G ρ σ H Q R s hq k => by
  refine h b G ρ σ H _ _ s hq fun d kd ρ' v G' H' q x s' r => ?_
  cases hs : seqOf d with
  | none => rw [hs] at q; exact q.elim
  | some xs =>
    rw [hs] at q
    exact seq_go s'.sub hd_le (r.ov s') hs fun J wk => k xs ρ' J G' H' q x s' wk
theorem sndIF_seq {te : TE} {w : WE} (h : SndE K te w) : SndIF K (iSeq K te) (wiF w) := fun b G ρ σ H Q R s hq k => by
  refine h b G ρ σ H _ _ s hq fun d kd ρ' v G' H' q x s' r => ?_
  refine frozen (R := fun v H' => ∃ a, v = .ref a ∧ (((∃ xs, SqL K H' a xs) ∧ R (Itl K a) H') ∨ ((∃ xs, SqT K H' a xs) ∧ R (Itt K a) H'))) q x s s' r fun d ρ2 v G2 q2 x2 s2 r2 => ?_
  cases hs : seqOf d with
  | none => rw [hs] at q2; exact q2.elim
  | some xs =>
    rw [hs] at q2
    exact seq_go (Ex.refl _) s2.le (r2.ov (Ex.refl _)) hs fun J wk => k xs ρ2 J G2 H' q2 x2 s2 wk
def i62 (i : Int) : Prop := -4611686018427387904 ≤ i ∧ i < 4611686018427387904
def wiR1 (t : WA) : WI := fun ρ Q => t ρ fun ds ρ1 => match ds with
  | [.int j] => i62 j ∧ Q (rng 0 j.toNat) ρ1
  | _ => False
def wiR2 (t : WA) : WI := fun ρ Q => t ρ fun ds ρ1 => match ds with
  | [.int i, .int j] => i62 i ∧ i62 j ∧ Q (rng i (j - i).toNat) ρ1
  | _ => False
theorem ov_int {G B : Hp} {v : V} {i : Int} (h : Ov K G B v (.int i)) : v = .int i := by
  cases (show Rp K G v (.int i) from h)
  rfl
theorem ov_bl {G B : Hp} {v : V} {i : Bool} (h : Ov K G B v (.bl i)) : v = .bl i := by
  cases (show Rp K G v (.bl i) from h)
  rfl
theorem ov_str {G B : Hp} {v : V} {i : Str} (h : Ov K G B v (.str i)) : v = .str i := by
  cases (show Rp K G v (.str i) from h)
  rfl
theorem ov_non {G B : Hp} {v : V} (h : Ov K G B v .non) : v = .non := by
  cases (show Rp K G v .non from h)
  rfl
section
variable {ta : TA} {t : WA}
theorem sndIO_r1 (h : SndO K ta t) : SndIO K (iRng1 ta) (wiR1 t) := fun b G ρ σ H Q R s hq k => by
  refine h b G ρ σ H _ _ s hq fun ds ρ' vs G' H' q x s' r => ?_
  split at q
  · cases r with
    | cons r1 r2 =>
      cases r2
      obtain rfl := ov_int r1
      exact ⟨_, rfl, by have := q.1.1; omega, by have := q.1.2; omega, k _ ρ' _ G' H' q.2 x s' (walks_rng _ _)⟩
  · exact q.elim
theorem sndIO_r2 (h : SndO K ta t) : SndIO K (iRng2 ta) (wiR2 t) := fun b G ρ σ H Q R s hq k => by
  refine h b G ρ σ H _ _ s hq fun ds ρ' vs G' H' q x s' r => ?_
  split at q
  · cases r with
    | cons r1 r2 =>
      cases r2 with
      | cons r2 r3 =>
        cases r3
        obtain rfl := ov_int r1
        obtain rfl := ov_int r2
        obtain ⟨⟨a1, a2⟩, ⟨a3, a4⟩, q⟩ := q
        exact ⟨_, _, rfl, ⟨by omega, by omega, by omega, by omega⟩, k _ ρ' _ G' H' q x s' (walks_rng _ _)⟩
  · exact q.elim
theorem sndIF_r1 (h : SndO K ta t) : SndIF K (iRng1 ta) (wiR1 t) := fun b G ρ σ H Q R s hq k => by
  refine h b G ρ σ H _ _ s hq fun ds ρ' vs G' H' q x s' r => ?_
  split at q
  · cases r with
    | cons r1 r2 =>
      cases r2
      obtain rfl := ov_int r1
      exact ⟨_, rfl, by have := q.1.1; omega, by have := q.1.2; omega, k _ ρ' _ G' H' q.2 x s' (walks_rng _ _)⟩
  · exact q.elim
theorem sndIF_r2 (h : SndO K ta t) : SndIF K (iRng2 ta) (wiR2 t) := fun b G ρ σ H Q R s hq k => by
  refine h b G ρ σ H _ _ s hq fun ds ρ' vs G' H' q x s' r => ?_
  split at q
  · cases r with
    | cons r1 r2 =>
      cases r2 with
      | cons r2 r3 =>
        cases r3
        obtain rfl := ov_int r1
        obtain rfl := ov_int r2
        obtain ⟨⟨a1, a2⟩, ⟨a3, a4⟩, q⟩ := q
        exact ⟨_, _, rfl, ⟨by omega, by omega, by omega, by omega⟩, k _ ρ' _ G' H' q x s' (walks_rng _ _)⟩
  · exact q.elim
end

/-! ### for, while -/
def wLoop (g : WG) (tb : WS) (P : PEnds) : List D → Rho → Prop
  | [], ρ => P.nx ρ
  | x :: r, ρ => g x ρ fun ρ1 => tb ⟨wLoop g tb P r, P.rt, P.nx, wLoop g tb P r⟩ ρ1
def wFor (wi : WI) (g : WG) (tb : WS) : WS := fun P ρ => wi ρ fun xs ρ1 => wLoop g tb P xs ρ1
theorem yl_go {b : Bs} {G H H' : Hp} {ρ : Rho} {σ : L2.St} {d : D} {x : V} {C : Prop} (s : Sim K b G ρ σ H) (y : Yl K G H d x H') (k : ∀ G', Ex G G' → Xt b ρ σ G H ρ G' H' → Sim K b G' ρ σ H' → Rp K G' x d → C) : C := by
  rcases y with ⟨rfl, r⟩ | ⟨p, vs, ds, hp, rfl, rfl, rfl, r⟩
  · exact k G (Ex.refl _) .refl s r
  · exact k _ (ex_upd (s.fresh hp)) (.laidF hp (s.fresh hp)) (s.laidF hp) (.tup upd_same (r.mono (ex_upd (s.fresh hp))))
theorem snd_for {wi : TI} {t : WI} {tg : TG} {g : WG} {ts : TS} {tb : WS} (hi : SndIF K wi t) (hg : SndG K tg g) (hb : SndS K ts tb) : SndS K (tFor wi tg ts) (wFor t g tb) := fun b P E G ρ σ H e s hq => by
  refine hi b G ρ σ H _ _ s hq fun xs ρ1 J G1 H1 q1 x1 s1 wk => ?_
  refine ⟨fun i m σ H => m = xs.length - i ∧ i ≤ xs.length ∧ ∃ G2 ρ2, Sim K b G2 ρ2 σ H ∧ Ex G1 G2 ∧ wLoop g tb P (xs.drop i) ρ2, ⟨_, rfl, Nat.zero_le _, G1, ρ1, s1, Ex.refl _, q1⟩, ?_⟩
  rintro i m σ2 H2 ⟨rfl, hi2, G2, ρ2, s2, g2, q2⟩
  obtain ⟨w1, w2⟩ := wk G2 H2 i g2 (g2.trans s2.le) s2.le
  by_cases hlt : i < xs.length
  · obtain ⟨go, yl⟩ := w1 xs[i] (List.getElem?_eq_getElem hlt)
    rw [List.drop_eq_getElem_cons hlt] at q2
    refine .inr ⟨go, fun σ' H' => ∃ G' ρ', Sim K b G' ρ' σ' H' ∧ Ex G1 G' ∧ wLoop g tb P (xs.drop (i + 1)) ρ', fun σ' H' ⟨G', ρ', a1, a2, a3⟩ => ⟨xs.length - (i + 1), by omega, rfl, hlt, G', ρ', a1, a2, a3⟩, fun x H' y => ?_⟩
    refine yl_go s2 (yl x H' y) fun G3 g3 x3 s3 r3 => ?_
    refine hg b G3 ρ2 σ2 H' x _ _ _ s3 r3 q2 fun ρ4 σ4 q4 p4 => ?_
    -- the body, from G3 on: what it leaves frozen stays
    have b' : Sim K ⟨b.aw, G3, b.B0⟩ G3 ρ4 σ4 H' := ⟨p4.1.len, p4.1.sub, Ex.refl _, p4.1.b0, fun a o e1 e2 => e2, p4.1.fz, p4.1.ow, p4.1.dj, p4.1.ws, p4.1.wk⟩
    have back : ∀ {ρ σ G H}, Sim K ⟨b.aw, G3, b.B0⟩ G ρ σ H → Sim K b G ρ σ H ∧ Ex G1 G := fun {ρ σ G H} z =>
      ⟨⟨z.len, z.sub, s3.g0.trans z.g0, z.b0, fun a o e1 e2 => z.new a o e1 (s3.new a o e1 e2), z.fz, z.ow, z.dj, z.ws, z.wk⟩, (g2.trans g3).trans z.g0⟩
    refine hb ⟨b.aw, G3, b.B0⟩ _ _ G3 ρ4 σ4 H' ⟨fun ρ σ G H q z => ?_, fun d k v ρ σ G H q z r => ?_, fun ρ σ G H q z => ?_, fun ρ σ G H q z => ?_⟩ b' q4
    · exact ⟨G, ρ, (back z).1, (back z).2, q⟩
    · exact e.rt d k v ρ σ G H q (back z).1 (by cases k <;> exact r)
    · exact e.nx ρ σ G H q (back z).1
    · exact ⟨G, ρ, (back z).1, (back z).2, q⟩
  · have ei : i = xs.length := by omega
    subst ei
    rw [List.drop_length] at q2
    exact .inl ⟨w2 (Nat.le_refl _), e.nx ρ2 σ2 G2 H2 q2 s2⟩
def wWhile (c : WT) (tb : WS) : WS := fun P ρ => ∃ W : Nat → Rho → Prop, (∃ m, W m ρ) ∧ ∀ m ρ, W m ρ → c ρ fun x ρ1 => if x = true then tb ⟨fun ρ' => ∃ m', m' < m ∧ W m' ρ', P.rt, P.nx, fun ρ' => ∃ m', m' < m ∧ W m' ρ'⟩ ρ1 else P.nx ρ1
theorem snd_while {tc : TT} {c : WT} {ts : TS} {tb : WS} (hc : SndT K tc c) (hb : SndS K ts tb) : SndS K (tWhile tc ts) (wWhile c tb) := fun b P E G ρ σ H e s hq => by
  obtain ⟨W, ⟨m0, w0⟩, turn⟩ := hq
  refine ⟨fun m σ H => ∃ G ρ, Sim K b G ρ σ H ∧ W m ρ, ⟨m0, G, ρ, s, w0⟩, ?_⟩
  rintro m σ1 H1 ⟨G1, ρ1, s1, w1⟩
  refine hc b G1 ρ1 σ1 H1 _ _ s1 (turn m ρ1 w1) fun c ρ2 G2 H2 q2 x2 s2 => ?_
  cases c with
  | true =>
    refine iteT ⟨fun σ' H' => ∃ m', m' < m ∧ ∃ G ρ, Sim K b G ρ σ' H' ∧ W m' ρ, fun σ' H' z => z, ?_⟩
    refine hb b ⟨fun ρ' => ∃ m', m' < m ∧ W m' ρ', P.rt, P.nx, fun ρ' => ∃ m', m' < m ∧ W m' ρ'⟩ _ G2 ρ2 σ1 H2 ⟨fun ρ σ G H q z => ?_, e.rt, fun ρ σ G H q z => e.nx ρ σ G H q z, fun ρ σ G H q z => ?_⟩ s2 q2
    · obtain ⟨m', h1, h2⟩ := q; exact ⟨m', h1, G, ρ, z, h2⟩
    · obtain ⟨m', h1, h2⟩ := q; exact ⟨m', h1, G, ρ, z, h2⟩
  | false => exact iteF (e.nx ρ2 σ1 G2 H2 q2 s2)
end VL

namespace VL
open PySem PySem.Spec PyProof.Rows L2
open Evl (Ex)
variable {K : PySem.W.Frag}

/-! ### comprehensions -/
def wipeR (ρ : Rho) : List Nat → Rho
  | [] => ρ
  | v :: vs => (wipeR ρ vs).set v .un
/-- behind it: the slots vs as they were ahead -/
def restR (ρ ρ' : Rho) : List Nat → Rho
  | [] => ρ'
  | v :: vs => (restR ρ ρ' vs).set v (ρ.getD v .un)
theorem wipeR_len (ρ : Rho) : ∀ vs : List Nat, (wipeR ρ vs).length = ρ.length
  | [] => rfl
  | v :: vs => by unfold wipeR; rw [List.length_set, wipeR_len ρ vs]
theorem wipeR_get (ρ : Rho) (i : Nat) : ∀ vs : List Nat, (wipeR ρ vs)[i]? = if i ∈ vs ∧ i < ρ.length then some .un else ρ[i]?
  | [] => by rw [if_neg (by simp)]; rfl
  | v :: vs => by
    unfold wipeR
    by_cases hv : v = i
    · subst hv
      by_cases hl : v < ρ.length
      · rw [List.getElem?_set_self (by rw [wipeR_len]; exact hl), if_pos ⟨by simp, hl⟩]
      · rw [List.getElem?_eq_none (by simp [wipeR_len]; omega), if_neg (by omega), List.getElem?_eq_none (by omega)]
    · rw [List.getElem?_set_ne hv, wipeR_get ρ i vs]
      have : (i ∈ v :: vs) ↔ i ∈ vs := by simp [Ne.symm hv]
      simp only [this]
theorem restR_len (ρ ρ' : Rho) : ∀ vs : List Nat, (restR ρ ρ' vs).length = ρ'.length
  | [] => rfl
  | v :: vs => by unfold restR; rw [List.length_set, restR_len ρ ρ' vs]
theorem restR_get (ρ ρ' : Rho) (hl : ρ.length = ρ'.length) (i : Nat) : ∀ vs : List Nat, (restR ρ ρ' vs)[i]? = if i ∈ vs then ρ[i]? else ρ'[i]?
  | [] => by rw [if_neg (by simp)]; rfl
  | v :: vs => by
    unfold restR
    by_cases hv : v = i
    · subst hv
      rw [if_pos (by simp)]
      by_cases hv : v < ρ.length
      · rw [List.getElem?_set_self (by rw [restR_len, ← hl]; exact hv), List.getD_eq_getElem?_getD, List.getElem?_eq_getElem hv]; rfl
      · rw [List.getElem?_eq_none (by rw [List.length_set, restR_len, ← hl]; omega), List.getElem?_eq_none (by omega)]
    · rw [List.getElem?_set_ne hv, restR_get ρ ρ' hl i vs]
      have : (i ∈ v :: vs) ↔ i ∈ vs := by simp [Ne.symm hv]
      simp only [this]
theorem wipe_get (σ : L2.St) (i : Nat) : ∀ vs : List Nat, (wipe σ vs)[i]? = if i ∈ vs ∧ i < σ.length then some none else σ[i]?
  | [] => by rw [if_neg (by simp)]; rfl
  | v :: vs => by
    unfold wipe
    by_cases hv : v = i
    · subst hv
      by_cases hl : v < σ.length
      · rw [List.getElem?_set_self (by rw [wipe_length]; exact hl), if_pos ⟨by simp, hl⟩]
      · rw [List.getElem?_eq_none (by simp [wipe_length]; omega), if_neg (by omega), List.getElem?_eq_none (by omega)]
    · rw [List.getElem?_set_ne hv, wipe_get σ i vs]
      have : (i ∈ v :: vs) ↔ i ∈ vs := by simp [Ne.symm hv]
      simp only [this]
section
variable {b : Bs} {G H : Hp} {ρ : Rho} {σ : L2.St}
theorem Sim.wipe (s : Sim K b G ρ σ H) (vs : List Nat) : Sim K b G (wipeR ρ vs) (L2.wipe σ vs) H := by
  have key : ∀ (i : Nat) (x : Slot), (wipeR ρ vs)[i]? = some x → x ≠ .un → i ∉ vs ∧ ρ[i]? = some x ∧ (L2.wipe σ vs)[i]? = σ[i]? := fun i x e ne => by
    rw [wipeR_get] at e
    split at e
    · cases e; exact absurd rfl ne
    · rename_i h
      have hl : i < ρ.length := (List.getElem?_eq_some_iff.mp e).1
      have hn : i ∉ vs := fun z => h ⟨z, hl⟩
      exact ⟨hn, e, by rw [wipe_get, if_neg (fun z => hn z.1)]⟩
  refine ⟨by rw [wipeR_len, L2.wipe_length, s.len], s.sub, s.g0, s.b0, s.new, fun i d e => ?_, fun i d e => ?_, fun i j d e v hne e1 e2 e3 e4 => ?_, fun i e => ?_, s.wk⟩
  · obtain ⟨_, h2, h3⟩ := key i _ e (by simp)
    rw [h3]; exact s.fz i d h2
  · obtain ⟨_, h2, h3⟩ := key i _ e (by simp)
    rw [h3]; exact s.ow i d h2
  · obtain ⟨_, h2, h3⟩ := key i _ e1 (by simp)
    obtain ⟨_, h5, h6⟩ := key j _ e2 (by simp)
    rw [h3] at e3; rw [h6] at e4
    exact s.dj i j d e v hne h2 h5 e3 e4
  · obtain ⟨_, h2, h3⟩ := key i _ e (by simp)
    rw [h3]; exact s.ws i h2
theorem own_wipe {ρ : Rho} {σ : L2.St} {vs : List Nat} {a : Addr} (h : Own (wipeR ρ vs) (L2.wipe σ vs) a) : Own ρ σ a := by
  obtain ⟨i, d, e1, e2⟩ := h
  rw [wipeR_get] at e1
  split at e1
  · cases e1
  · rename_i h
    have hl : i < ρ.length := (List.getElem?_eq_some_iff.mp e1).1
    have hn : i ∉ vs := fun z => h ⟨z, hl⟩
    rw [wipe_get, if_neg (fun z => hn z.1)] at e2
    exact ⟨i, d, e1, e2⟩
end
theorem wipe_set {σ : L2.St} {i : Nat} {x : Option V} {vs : List Nat} (h : i ∈ vs) : wipe (σ.set i x) vs = wipe σ vs := by
  apply List.ext_getElem?
  intro j
  rw [wipe_get, wipe_get, List.length_set]
  by_cases hj : j ∈ vs ∧ j < σ.length
  · rw [if_pos hj, if_pos hj]
  · rw [if_neg hj, if_neg hj]
    by_cases hij : i = j
    · subst hij
      have hl : σ.length ≤ i := by
        apply Nat.le_of_not_lt
        intro z; exact hj ⟨h, z⟩
      rw [List.getElem?_eq_none (by simpa using hl), List.getElem?_eq_none hl]
    · rw [List.getElem?_set_ne hij]
theorem hd_upd {aw : Option Addr} {H : Hp} {a : Addr} {o : HO} (h : aw ≠ some a) : hd aw (upd H a o) = upd (hd aw H) a o := by
  funext c
  unfold hd upd
  by_cases hc : c = a
  · subst hc; rw [if_neg h, if_pos rfl, if_pos rfl]
  · rw [if_neg hc, if_neg hc]
/-- an object that nobody knows of changes -/
theorem Sim.poke {b : Bs} {G H : Hp} {ρ : Rho} {σ : L2.St} (s : Sim K b G ρ σ H) {p : Addr} {o : HO} (hw : b.aw ≠ some p) (h0 : b.B0 p = none) (hg : G p = none) (no : ∀ (i : Nat) (d : D), ρ[i]? = some (.ow d) → σ[i]? ≠ some (some (.ref p))) : Sim K b G ρ σ (upd H p o) := by
  refine ⟨s.len, fun c u e => ?_, s.g0, fun c u e => ?_, s.new, s.fz, fun i d e => ?_, s.dj, s.ws, fun c e => ?_⟩
  · rw [hd_upd hw, upd_ne fun z => by subst z; rw [hg] at e; cases e]; exact s.sub c u e
  · rw [hd_upd hw, upd_ne fun z => by subst z; rw [h0] at e; cases e]; exact s.b0 c u e
  · obtain ⟨a, h1, h2, h3, h4, h5⟩ := s.ow i d e
    have : a ≠ p := fun z => by subst z; exact no i d e h1
    exact ⟨a, h1, h2, h3, h4, h5.mono (Ex.refl _) fun u hu => by rw [upd_ne this]; exact hu⟩
  · exact (s.wk c e).mono (Ex.refl _) (upd_ne fun z => hw (z ▸ e))
/-- a target keeps to the slots vs -/
def TgIn (tg : TG) (vs : List Nat) : Prop := ∀ (v : V) (σ σ0 : L2.St) (H : Hp) (R R' : L2.St → Hp → Prop), wipe σ vs = σ0 → (∀ σ' H', wipe σ' vs = σ0 → R σ' H' → R' σ' H') → tg v σ H R → tg v σ H R'
def TgsIn (tg : TGs) (vs : List Nat) : Prop := ∀ (v : List V) (σ σ0 : L2.St) (H : Hp) (R R' : L2.St → Hp → Prop), wipe σ vs = σ0 → (∀ σ' H', wipe σ' vs = σ0 → R σ' H' → R' σ' H') → tg v σ H R → tg v σ H R'
theorem tgIn_name {i : Nat} {vs : List Nat} (h : i ∈ vs) : TgIn (gName i) vs := fun v σ σ0 H R R' e k q => k _ _ ((wipe_set h).trans e) q
theorem tgIn_nil {vs : List Nat} : TgsIn gNil vs := fun v σ σ0 H R R' e k q => ⟨q.1, k _ _ e q.2⟩
theorem tgIn_cons {g : TG} {u : TGs} {vs : List Nat} (h1 : TgIn g vs) (h2 : TgsIn u vs) : TgsIn (gCons g u) vs := fun v σ σ0 H R R' e k q => by
  obtain ⟨x, r, rfl, q⟩ := q
  exact ⟨x, r, rfl, h1 x σ σ0 H _ _ e (fun σ' H' e' q' => h2 r σ' σ0 H' R R' e' k q') q⟩
theorem tgIn_tup {n : Nat} {u : TGs} {vs : List Nat} (h : TgsIn u vs) : TgIn (gTup K n u) vs := fun v σ σ0 H R R' e k q => by
  obtain ⟨a, xs, rfl, h1, h2, q⟩ := q
  exact ⟨a, xs, rfl, h1, h2, h xs σ σ0 H R R' e k q⟩
def wCompL (g : WG) (tt : WT) (t : WE) (vs : List Nat) : List D → List D → Rho → (List D → Rho → Prop) → Prop
  | [], acc, ρ, Q => Q acc ρ
  | x :: r, acc, ρ, Q => g x ρ fun ρ1 => tt ρ1 fun c ρ2 => if c = true then t ρ2 (toF fun d ρ3 => acc.length < LIM ∧ wCompL g tt t vs r (acc ++ [d]) (wipeR ρ3 vs) Q) else wCompL g tt t vs r acc (wipeR ρ2 vs) Q
def wComp (wi : WI) (g : WG) (tt : WT) (t : WE) (vs : List Nat) : WE := fun ρ Q => wi ρ fun xs ρ1 => wCompL g tt t vs xs [] (wipeR ρ1 vs) fun ds ρ2 => Q (.lst ds) .nw (restR ρ1 ρ2 vs)
def wYes : WT := fun ρ Q => Q true ρ
theorem snd_yes : SndT K tYes wYes := fun b G ρ σ H Q R s q k => k true ρ G H q .refl s
theorem snd_comp {wi : TI} {t : WI} {tg : TG} {g : WG} {tt : TT} {c : WT} {te : TE} {w : WE} {vs : List Nat} (hi : SndIO K wi t) (hg : SndG K tg g) (hin : TgIn tg vs) (hc : SndT K tt c) (he : SndE K te w) : SndE K (tLc wi tg tt te vs) (wComp t g c w vs) := by
  intro b G ρ σ H Q R s hq k
  refine hi b G ρ σ H _ _ s hq fun xs ρ1 J G1 H1 q1 x1 s1 wk Dl hD => ?_
  have hwD := s1.aw_ne hD
  have h0D := s1.fresh0 hD
  have hfD : hd b.aw H1 Dl = none := hd_none hD
  let Qc : List D → Rho → Prop := fun ds ρ2 => Q (.lst ds) .nw (restR ρ1 ρ2 vs)
  refine ⟨fun i m H => m = xs.length - i ∧ i ≤ xs.length ∧ ∃ G2 ρ2 va acc, Sim K b G2 ρ2 (L2.wipe σ vs) H ∧ Xt b (wipeR ρ1 vs) (L2.wipe σ vs) G1 H1 ρ2 G2 H ∧ H Dl = some (.lst va) ∧ RpL K G2 va acc ∧ G2 Dl = none ∧ wCompL g c w vs (xs.drop i) acc ρ2 Qc,
    ⟨_, rfl, Nat.zero_le _, G1, wipeR ρ1 vs, [], [], (s1.wipe vs).laid hD, .laid hD, upd_same, .nil, s1.fresh hD, q1⟩, ?_⟩
  rintro i m H2 ⟨rfl, hi2, G2, ρ2, va, acc, s2, x2, hDl, ra, gD, q2⟩
  have e12 : Ex (hd b.aw H1) H2 := x2.h.trans hd_le
  obtain ⟨w1, w2⟩ := wk G2 H2 i x2.g e12 s2.le
  have noD : ∀ {ρ' G' H'}, Xt b (wipeR ρ1 vs) (L2.wipe σ vs) G1 H1 ρ' G' H' → ∀ (j : Nat) (d : D), ρ'[j]? = some (.ow d) → (L2.wipe σ vs)[j]? ≠ some (some (.ref Dl)) := fun {ρ' G' H'} x j d e z => by
    obtain ⟨a, e1, e2, e3, e4, e5⟩ := (s1.wipe vs).ow j d (x.own j d e)
    rw [z] at e1; cases e1
    exact e5.known hD
  by_cases hlt : i < xs.length
  · obtain ⟨go, yl⟩ := w1 xs[i] (List.getElem?_eq_getElem hlt)
    rw [List.drop_eq_getElem_cons hlt] at q2
    refine .inr ⟨go, fun H' => ∃ G' ρ' va acc, Sim K b G' ρ' (L2.wipe σ vs) H' ∧ Xt b (wipeR ρ1 vs) (L2.wipe σ vs) G1 H1 ρ' G' H' ∧ H' Dl = some (.lst va) ∧ RpL K G' va acc ∧ G' Dl = none ∧ wCompL g c w vs (xs.drop (i + 1)) acc ρ' Qc,
      fun H' ⟨G', ρ', va, acc, a1⟩ => ⟨xs.length - (i + 1), by omega, rfl, hlt, G', ρ', va, acc, a1⟩, fun x H' y => ?_⟩
    refine yl_go s2 (yl x H' y) fun G3 g3 x3 s3 r3 => ?_
    have x3' := x2.trans x3
    have hDl3 : H' Dl = some (.lst va) := (hd_some (x3.h Dl _ (by rw [hd_ne hwD]; exact hDl))).2
    have gD3 : G3 Dl = none := x3.new Dl _ (by rw [hd_ne hwD]; exact hDl) gD fun ⟨j, d, z1, z2⟩ => noD x2 j d z1 z2
    have q2 : g xs[i] ρ2 fun ρ1 => c ρ1 fun c' ρ2 => if c' = true then w ρ2 (toF fun d ρ3 => acc.length < LIM ∧ wCompL g c w vs (xs.drop (i + 1)) (acc ++ [d]) (wipeR ρ3 vs) Qc) else wCompL g c w vs (xs.drop (i + 1)) acc (wipeR ρ2 vs) Qc := q2
    have hww : L2.wipe (L2.wipe σ vs) vs = L2.wipe σ vs := by
      apply List.ext_getElem?
      intro j
      rw [wipe_get, wipe_length]
      split
      · rename_i h; rw [wipe_get, if_pos h]
      · rfl
    refine hin x (L2.wipe σ vs) (L2.wipe σ vs) H' (fun σ' H'' => L2.wipe σ' vs = L2.wipe σ vs → tt σ' H'' fun b H3 => if b = true then te σ' H3 fun y H4 => ∃ acc, H4 Dl = some (.lst acc) ∧ acc.length < sizeLine ∧ ∃ G' ρ' va ac, Sim K _ G' ρ' (L2.wipe σ vs) (upd H4 Dl (.lst (acc ++ [y]))) ∧ Xt _ (wipeR ρ1 vs) (L2.wipe σ vs) G1 H1 ρ' G' (upd H4 Dl (.lst (acc ++ [y]))) ∧ (upd H4 Dl (.lst (acc ++ [y]))) Dl = some (.lst va) ∧ RpL K G' va ac ∧ G' Dl = none ∧ wCompL g c w vs (xs.drop (i + 1)) ac ρ' Qc
      else ∃ G' ρ' va acc, Sim K _ G' ρ' (L2.wipe σ vs) H3 ∧ Xt _ (wipeR ρ1 vs) (L2.wipe σ vs) G1 H1 ρ' G' H3 ∧ H3 Dl = some (.lst va) ∧ RpL K G' va acc ∧ G' Dl = none ∧ wCompL g c w vs (xs.drop (i + 1)) acc ρ' Qc) _ hww (fun σ' H'' e' q' => ⟨e', q' e'⟩) ?_
    refine hg b G3 ρ2 (L2.wipe σ vs) H' x _ _ _ s3 r3 q2 fun ρ4 σ4 q4 p4 ew => ?_
    have fin : ∀ {ρ5 G5 H5}, Xt b ρ4 σ4 G3 H' ρ5 G5 H5 → Sim K b G5 ρ5 σ4 H5 → Xt b (wipeR ρ1 vs) (L2.wipe σ vs) G1 H1 (wipeR ρ5 vs) G5 H5 ∧ Sim K b G5 (wipeR ρ5 vs) (L2.wipe σ vs) H5 ∧ H5 Dl = some (.lst va) ∧ G5 Dl = none ∧ ∀ (j : Nat) (d : D), ρ5[j]? = some (.ow d) → σ4[j]? ≠ some (some (.ref Dl)) := fun {ρ5 G5 H5} y s5 => by
      have own4 : ∀ (j : Nat) (d : D) (a : Addr), ρ4[j]? = some (.ow d) → σ4[j]? = some (some (.ref a)) → Own (wipeR ρ1 vs) (L2.wipe σ vs) a := fun j d a z1 z2 => by
        obtain ⟨c1, c2⟩ := p4.2 j d z1
        exact ⟨j, d, x3'.own j d c1, by rw [← c2]; exact z2⟩
      have nD4 : ¬ Own ρ4 σ4 Dl := fun ⟨j, d, z1, z2⟩ => by
        obtain ⟨c1, c2⟩ := p4.2 j d z1
        rw [c2] at z2
        exact noD x3' j d c1 z2
      have hD5 : hd b.aw H' Dl = some (.lst va) := by rw [hd_ne hwD]; exact hDl3
      refine ⟨⟨x3'.g.trans y.g, x3'.h.trans y.h, fun a o e n no => y.new a o (x3'.h a o e) (x3'.new a o e n no) fun ⟨j, d, z1, z2⟩ => no (own4 j d a z1 z2), fun j d e => ?_⟩, ?_, (hd_some (y.h Dl _ hD5)).2, y.new Dl _ hD5 gD3 nD4, fun j d z1 z2 => nD4 ⟨j, d, y.own j d z1, z2⟩⟩
      · rw [wipeR_get] at e
        split at e
        · cases e
        · exact x3'.own j d (p4.2 j d (y.own j d e)).1
      · have := s5.wipe vs
        rw [ew] at this
        exact this
    refine hc b G3 ρ4 σ4 H' _ _ p4.1 q4 fun c' ρ5 G5 H5 q5 x5 s5 => ?_
    cases c' with
    | false =>
      refine iteF ?_
      obtain ⟨f1, f2, f3, f4, _⟩ := fin x5 s5
      exact ⟨G5, wipeR ρ5 vs, va, acc, f2, f1, f3, ra.mono (g3.trans x5.g), f4, q5⟩
    | true =>
      refine iteT ?_
      refine he b G5 ρ5 σ4 H5 _ _ s5 q5 fun d kd ρ6 v G6 H6 q6 x6 s6 r6 => ?_
      refine frozen (R := fun v H' => ∃ acc, H' Dl = some (.lst acc) ∧ acc.length < sizeLine ∧ ∃ G' ρ' va ac, Sim K b G' ρ' (L2.wipe σ vs) (upd H' Dl (.lst (acc ++ [v]))) ∧ Xt b (wipeR ρ1 vs) (L2.wipe σ vs) G1 H1 ρ' G' (upd H' Dl (.lst (acc ++ [v]))) ∧ (upd H' Dl (.lst (acc ++ [v]))) Dl = some (.lst va) ∧ RpL K G' va ac ∧ G' Dl = none ∧ wCompL g c w vs (xs.drop (i + 1)) ac ρ' Qc) q6 x6 s5 s6 r6 fun d ρ7 v G7 q7 x7 s7 r7 => ?_
      obtain ⟨f1, f2, f3, f4, f5⟩ := fin (x5.trans x7) s7
      have rv : RpL K G7 (va ++ [v]) (acc ++ [d]) := (ra.mono (g3.trans (x5.trans x7).g)).append (.cons r7 .nil)
      refine ⟨va, f3, by rw [ra.length]; exact lim_lt q7.1, G7, wipeR ρ7 vs, va ++ [v], acc ++ [d], f2.poke hwD h0D f4 (fun j d' z1 z2 => ?_), ⟨f1.g, fun a o e => ?_, f1.new, f1.own⟩, upd_same, rv, f4, q7.2⟩
      · obtain ⟨a, e1, e2, e3, e4, e5⟩ := (s1.wipe vs).ow j d' (f1.own j d' z1)
        rw [z2] at e1; cases e1
        exact e5.known hD
      · rw [hd_upd hwD, upd_ne (fun z => by subst z; rw [hfD] at e; cases e)]
        exact f1.h a o e
  · have ei : i = xs.length := by omega
    subst ei
    rw [List.drop_length] at q2
    refine .inl ⟨w2 (Nat.le_refl _), ?_⟩
    have q2 : Q (.lst acc) .nw (restR ρ1 ρ2 vs) := q2
    have hl : ρ1.length = ρ2.length := by rw [s1.len, s2.len, wipe_length]
    have hg2 : ∀ (j : Nat) (x : Slot), (restR ρ1 ρ2 vs)[j]? = some x → (j ∈ vs ∧ ρ1[j]? = some x) ∨ (j ∉ vs ∧ ρ2[j]? = some x ∧ (L2.wipe σ vs)[j]? = σ[j]?) := fun j x e => by
      rw [restR_get ρ1 ρ2 hl] at e
      by_cases hj : j ∈ vs
      · rw [if_pos hj] at e; exact .inl ⟨hj, e⟩
      · rw [if_neg hj] at e; exact .inr ⟨hj, e, by rw [wipe_get, if_neg fun z => hj z.1]⟩
    have own1 : ∀ (j : Nat) (d : D), (restR ρ1 ρ2 vs)[j]? = some (.ow d) → ρ1[j]? = some (.ow d) := fun j d e => by
      rcases hg2 j _ e with ⟨_, h⟩ | ⟨hj, h, _⟩
      · exact h
      · have := x2.own j d h
        rw [wipeR_get] at this
        split at this
        · cases this
        · exact this
    have sR : Sim K b G2 (restR ρ1 ρ2 vs) σ H2 := by
      refine ⟨by rw [restR_len, s2.len, wipe_length], s2.sub, s2.g0, s2.b0, s2.new, fun j d e => ?_, fun j d e => ?_, fun j k' d e v hne e1 e2 e3 e4 => s1.dj j k' d e v hne (own1 j d e1) (own1 k' e e2) e3 e4, fun j e => ?_, s2.wk⟩
      · rcases hg2 j _ e with ⟨_, h⟩ | ⟨hj, h, hs⟩
        · obtain ⟨v, e1, r⟩ := s1.fz j d h
          exact ⟨v, e1, r.mono x2.g⟩
        · obtain ⟨v, e1, r⟩ := s2.fz j d h
          exact ⟨v, by rw [← hs]; exact e1, r⟩
      · rcases hg2 j _ e with ⟨hj, h⟩ | ⟨hj, h, hs⟩
        · obtain ⟨a, e1, e2, e3, e4, e5⟩ := s1.ow j d h
          obtain ⟨o, ho, _⟩ := e5.there
          have ho1 : hd b.aw H1 a = some o := by rw [hd_ne e2]; exact ho
          refine ⟨a, e1, e2, e3, x2.new a o ho1 e4 fun z => ?_, e5.mono x2.g fun u hu => ?_⟩
          · obtain ⟨j', d', z1, z2⟩ := z
            rw [wipeR_get] at z1
            split at z1
            · cases z1
            · rename_i hn
              have hl' : j' < ρ1.length := (List.getElem?_eq_some_iff.mp z1).1
              have hn' : j' ∉ vs := fun z => hn ⟨z, hl'⟩
              rw [wipe_get, if_neg fun z => hn' z.1] at z2
              exact s1.dj j' j d' d _ (fun z => hn' (z ▸ hj)) z1 h z2 e1
          · exact (hd_some (x2.h a u (by rw [hd_ne e2]; exact hu))).2
        · obtain ⟨a, e1, e2⟩ := s2.ow j d h
          exact ⟨a, by rw [← hs]; exact e1, e2⟩
      · rcases hg2 j _ e with ⟨_, h⟩ | ⟨hj, h, hs⟩
        · exact s1.ws j h
        · obtain ⟨a, e1, e2⟩ := s2.ws j h
          exact ⟨a, e1, by rw [← hs]; exact e2⟩
    have xR : Xt b ρ1 σ G1 H1 (restR ρ1 ρ2 vs) G2 H2 := ⟨x2.g, x2.h, fun a o e n no => x2.new a o e n fun z => no (own_wipe z), own1⟩
    refine k _ .nw _ (.ref Dl) G2 H2 q2 (x1.trans xR) sR ⟨Dl, rfl, ?_, hwD, gD, va, hDl, ra⟩
    exact Evl.fresh_back x1.h hfD
end VL

namespace VL
open PySem PySem.Spec PyProof.Rows L2
open Evl (Ex)
variable {K : PySem.W.Frag}

/-! ### a def -/
def A.slot : A → Slot
  | .d x => .fz x
  | .w => .w
def rho0 (n : Nat) (as : List A) : Rho := as.map A.slot ++ List.replicate (n - as.length) .un
theorem Paired.len {α β : Type} {F : α → β → Prop} : ∀ {l : List α} {m : List β}, Paired F l m → l.length = m.length
  | _, _, .nil => rfl
  | _, _, .cons _ t => by rw [List.length_cons, List.length_cons, Paired.len t]
theorem Paired.at {α β : Type} {F : α → β → Prop} : ∀ {l : List α} {m : List β} {i : Nat} {y : β}, Paired F l m → m[i]? = some y → ∃ x, l[i]? = some x ∧ F x y
  | _, _, _, _, .nil, h => by simp at h
  | _, _, 0, _, .cons a _, h => by simp at h; subst h; exact ⟨_, rfl, a⟩
  | _, _, i + 1, _, .cons _ t, h => by
    obtain ⟨x, h1, h2⟩ := Paired.at t (by simpa using h)
    exact ⟨x, by simpa using h1, h2⟩
section
variable {P : Program} {w : World} {mg : Str → Option Value} {base : Heap}
theorem start_sim {N : List Str} {aw : Option Addr} {G H : Hp} {vs : List V} {as : List A} (g : Ex G (hd aw H)) (hw : ∀ a, aw = some a → WOk K G H a) (r : Paired (RpA K ⟨aw, G, hd aw H⟩ G) vs as) : Sim K ⟨aw, G, hd aw H⟩ G (rho0 N.length as) (L2.start N vs) H := by
  have hl := Paired.len r
  have key : ∀ (i : Nat) (x : Slot), (rho0 N.length as)[i]? = some x → x ≠ .un → ∃ a, as[i]? = some a ∧ x = a.slot := fun i x e ne => by
    unfold rho0 at e
    by_cases hi : i < as.length
    · rw [List.getElem?_append_left (by simpa using hi), List.getElem?_map, List.getElem?_eq_getElem hi] at e
      cases e
      exact ⟨_, List.getElem?_eq_getElem hi, rfl⟩
    · rw [List.getElem?_append_right (by simpa using hi), List.getElem?_replicate] at e
      split at e
      · cases e; exact absurd rfl ne
      · cases e
  have st : ∀ (i : Nat) (v : V), vs[i]? = some v → (L2.start N vs)[i]? = some (some v) := fun i v e => by
    have hi : i < vs.length := (List.getElem?_eq_some_iff.mp e).1
    unfold L2.start
    rw [List.getElem?_append_left (by simpa using hi), List.getElem?_map, e]; rfl
  refine ⟨by simp [rho0, L2.start, hl], g, Ex.refl _, Ex.refl _, fun a o _ e => e, fun i d e => ?_, fun i d e => ?_, fun i j d e v hne e1 => ?_, fun i e => ?_, hw⟩
  · obtain ⟨a, h1, h2⟩ := key i _ e (by simp)
    cases a with
    | d x =>
      cases h2
      obtain ⟨v, h3, h4⟩ := Paired.at r h1
      exact ⟨v, st i v h3, h4⟩
    | w => cases h2
  · obtain ⟨a, h1, h2⟩ := key i _ e (by simp)
    cases a <;> cases h2
  · obtain ⟨a, h1, h2⟩ := key i _ e1 (by simp)
    cases a <;> cases h2
  · obtain ⟨a, h1, h2⟩ := key i _ e (by simp)
    cases a with
    | d x => cases h2
    | w =>
      obtain ⟨v, h3, a, h4, h5⟩ := Paired.at r h1
      subst h5
      exact ⟨a, h4, st i _ h3⟩
theorem fn_ok {x qual : Str} {st : Stmt} {f : Addr} {fd : FuncData} {N ps : List Str} {k : Nat} {sp : FS} (t : WS) (F : Fun K x qual st f fd) (S : FnScope N ps (defScope st))
    (hb : ∀ (cdv : Value) (A : Around) (outer : List Env) (s : Shared) (H : Hp) (E : XK), Room k (A.deeper (envOfC qual (defScope st) s.heap.objs.size f cdv)) →
      ∃ ts, PSs (cxOf CX0 P w K mg base N qual (defScope st) f cdv A outer s H E).nox (defBody st) ts ∧ SndS K ts t)
    (hs : ∀ as q, sp as q → as.length = ps.length ∧ t ⟨fun _ => q .non .fz, q, fun _ => False, fun _ => False⟩ (rho0 N.length as)) : FnOk P w K mg base CX0 (k + 1) f fd ps (toSp K sp) := by
  refine F.ok S (fun vs H Q E h => ?_) fun cdv A outer s H vs Q E hr h => ?_
  · obtain ⟨aw, G, as, q, _, _, r, hq, _⟩ := h
    rw [Paired.len r]
    exact (hs as q hq).1
  · obtain ⟨aw, G, as, q, g, hw, r, hq, back⟩ := h
    obtain ⟨ts, hps, hsn⟩ := hb cdv A outer s H E hr
    refine ⟨ts, hps, hsn ⟨aw, G, hd aw H⟩ ⟨fun _ => q .non .fz, q, fun _ => False, fun _ => False⟩ _ G _ _ H ⟨fun ρ σ G' H' q1 s1 => ?_, fun d k v ρ σ G' H' q1 s1 rr => ?_, fun ρ σ G' H' q1 s1 => q1.elim, fun ρ σ G' H' q1 s1 => q1.elim⟩ (start_sim g hw r) (hs as q hq).2⟩
    · exact back .non .fz .non G' H' q1 s1.g0 s1.sub s1.b0 s1.new s1.wk .non
    · exact back d k v G' H' q1 s1.g0 s1.sub s1.b0 s1.new s1.wk rr
end

/-! ### operators on data -/
section
variable {X : Cx}
def ozI (i : Int) : Oz := some (.int i, .fz)
def ozB (c : Bool) : Oz := some (.bl c, .fz)
theorem res_int {G H : Hp} {z : D} {k : Kd} {R : VK} {i : Int} (e : ozI i = some (z, k)) (r : Res K G H z k R) : R (.int i) H := by
  cases e; exact r.val _ rfl (.int i)
theorem res_bl {G H : Hp} {z : D} {k : Kd} {R : VK} {i : Bool} (e : ozB i = some (z, k)) (r : Res K G H z k R) : R (.bl i) H := by
  cases e; exact r.val _ rfl (.bl i)
/-- + -/
def bAdd : D → D → Oz
  | .int i, .int j => ozI (i + j)
  | .str x, .str y => if x.length + y.length ≤ LIM then some (.str (x ++ y), .fz) else none
  | .tup xs, .tup ys => if xs.length + ys.length ≤ LIM then some (.tup (xs ++ ys), .fz) else none
  | .lst xs, .lst ys => if xs.length + ys.length ≤ LIM then some (.lst (xs ++ ys), .nw) else none
  | _, _ => none
def rAddD (K : PySem.W.Frag) : R2 := fun x y H Q => rI0 (fun i j => .int (i + j)) x y H Q ∨ (∃ i j, x = .str i ∧ y = .str j ∧ i.length + j.length ≤ sizeLine ∧ Q (.str (i ++ j)) H) ∨ rCatA K x y H Q ∨ rCat x y H Q
theorem op_addD : OpR X (binaryOp .Add) (rAddD X.K) := op_add.or (op_add_str.or (op_catA.or op_cat))
theorem snd_bAdd : OpS K (rAddD K) bAdd := fun G B H v u d e z k R g g2 o1 o2 hf r => by
  unfold bAdd at hf
  split at hf
  · obtain rfl := ov_int o1
    obtain rfl := ov_int o2
    exact .inl ⟨_, _, rfl, rfl, res_int hf r⟩
  · obtain rfl := ov_str o1
    obtain rfl := ov_str o2
    split at hf
    · rename_i h
      cases hf
      exact .inr (.inl ⟨_, _, rfl, rfl, lim_le h, r.val _ rfl (.str _)⟩)
    · cases hf
  · rename_i xs ys
    split at hf
    · rename_i h
      cases hf
      cases (show Rp K G v (.tup xs) from o1) with
      | @tup a vs _ t1 l1 =>
        cases (show Rp K G u (.tup ys) from o2) with
        | @tup a2 us _ t2 l2 =>
          have gh := g.trans g2
          refine .inr (.inr (.inl ⟨a, a2, vs, us, rfl, rfl, exT gh t1, exT gh t2, by rw [l1.length, l2.length]; exact lim_le h, fun e => ?_, fun e1 e2 => ?_, fun e1 e2 p hp => ?_⟩))
          · subst e
            cases l1
            exact r.val _ rfl (.tup t2 l2)
          · subst e2
            cases l2
            rw [List.append_nil] at r
            exact r.val _ rfl (.tup t1 l1)
          · exact r.tup p _ _ rfl rfl hp (l1.append l2)
    · cases hf
  · split at hf
    · rename_i h
      cases hf
      obtain ⟨a, vs, rfl, t1, l1⟩ := o1
      obtain ⟨a2, us, rfl, t2, l2⟩ := o2
      exact .inr (.inr (.inr ⟨a, a2, vs, us, rfl, rfl, g2 _ _ t1, g2 _ _ t2, by rw [l1.length, l2.length]; exact lim_le h, fun p hp => r.new p _ rfl hp ⟨_, upd_same, l1.append l2⟩⟩))
    · cases hf
  · cases hf
def bSub : D → D → Oz
  | .int i, .int j => ozI (i - j)
  | _, _ => none
theorem snd_bSub : OpS K (rI0 fun i j => .int (i - j)) bSub := fun G B H v u d e z k R g g2 o1 o2 hf r => by
  unfold bSub at hf
  split at hf
  · obtain rfl := ov_int o1
    obtain rfl := ov_int o2
    exact ⟨_, _, rfl, rfl, res_int hf r⟩
  · cases hf
def W64 : Int := 18446744073709551616
theorem w64 : (2 : Int) ^ 64 = W64 := by decide
def bMul : D → D → Oz
  | .int i, .int j => if i.natAbs < 1000000000 ∨ j.natAbs < 1000000000 then ozI (i * j) else none
  | .lst xs, .int k => if -1000 ≤ k ∧ k ≤ 1000 ∧ xs.length * k.toNat ≤ LIM then some (.lst (List.replicate k.toNat xs).flatten, .nw) else none
  | _, _ => none
def rMulD : R2 := fun x y H Q => rI CMul (fun i j => .int (i * j)) x y H Q ∨ rRep x y H Q
theorem op_mulD : OpR X (binaryOp .Mult) rMulD := op_mul.or op_rep
theorem RpL.flat {G : Hp} {vs : List V} {ds : List D} (h : RpL K G vs ds) : ∀ n : Nat, RpL K G (List.replicate n vs).flatten (List.replicate n ds).flatten
  | 0 => .nil
  | n + 1 => by
    rw [List.replicate_succ, List.replicate_succ, List.flatten_cons, List.flatten_cons]
    exact h.append (RpL.flat h n)
theorem snd_bMul : OpS K rMulD bMul := fun G B H v u d e z k R g g2 o1 o2 hf r => by
  unfold bMul at hf
  split at hf
  · obtain rfl := ov_int o1
    obtain rfl := ov_int o2
    split at hf
    · rename_i h
      refine .inl ⟨_, _, rfl, rfl, ?_, res_int hf r⟩
      unfold CMul
      rw [w64]
      unfold W64
      rcases h with h | h
      · exact .inl (by omega)
      · exact .inr (by omega)
    · cases hf
  · obtain rfl := ov_int o2
    obtain ⟨a, vs, rfl, t1, l1⟩ := o1
    split at hf
    · rename_i h
      cases hf
      refine .inr ⟨a, _, vs, rfl, rfl, g2 _ _ t1, ?_, ?_, by rw [l1.length]; exact lim_le h.2.2, fun p hp => r.new p _ rfl hp ⟨_, upd_same, RpL.flat l1 _⟩⟩
      · have := h.1; omega
      · have := h.2.1; omega
    · cases hf
  · cases hf
/-- // and % by a divisor that is not 0 -/
def bDiv : D → D → Oz
  | .int i, .int j => if j ≠ 0 ∧ j.natAbs < 1073741824 then ozI (i.fdiv j) else none
  | _, _ => none
theorem snd_bDiv : OpS K (rI CDivN fun i j => .int (i.fdiv j)) bDiv := fun G B H v u d e z k R g g2 o1 o2 hf r => by
  unfold bDiv at hf
  split at hf
  · obtain rfl := ov_int o1
    obtain rfl := ov_int o2
    split at hf
    · rename_i h
      exact ⟨_, _, rfl, rfl, h, res_int hf r⟩
    · cases hf
  · cases hf
def bMod : D → D → Oz
  | .int i, .int j => if j ≠ 0 then ozI (i.fmod j) else none
  | _, _ => none
theorem snd_bMod : OpS K (rI (fun _ j => j ≠ 0) fun i j => .int (i.fmod j)) bMod := fun G B H v u d e z k R g g2 o1 o2 hf r => by
  unfold bMod at hf
  split at hf
  · obtain rfl := ov_int o1
    obtain rfl := ov_int o2
    split at hf
    · rename_i h
      exact ⟨_, _, rfl, rfl, h, res_int hf r⟩
    · cases hf
  · cases hf
def bPow : D → D → Oz
  | .int i, .int j => if 0 ≤ j ∧ j ≤ 1000 ∧ i.natAbs < 1000000 then ozI (i ^ j.toNat) else none
  | _, _ => none
theorem snd_bPow : OpS K (rI CPow fun i j => .int (i ^ j.toNat)) bPow := fun G B H v u d e z k R g g2 o1 o2 hf r => by
  unfold bPow at hf
  split at hf
  · obtain rfl := ov_int o1
    obtain rfl := ov_int o2
    split at hf
    · rename_i h
      exact ⟨_, _, rfl, rfl, ⟨h.1, by omega, by have := h.2.2; omega⟩, res_int hf r⟩
    · cases hf
  · cases hf
def uNeg : D → Oz
  | .int i => ozI (-i)
  | _ => none
theorem snd_uNeg : UnS K (rU fun i => .int (-i)) uNeg := fun G B H v d z k R g g2 o1 hf r => by
  unfold uNeg at hf
  split at hf
  · obtain rfl := ov_int o1
    exact ⟨_, rfl, res_int hf r⟩
  · cases hf

/-! ### comparisons -/
mutual
def toPy : D → PyData
  | .non => .none
  | .bl b => .bool b
  | .int i => .int i
  | .str s => .str s
  | .tup xs => .tuple (toPys xs)
  | .lst xs => .list (toPys xs)
  | .fl xs => .list (toPys xs)
  | .ft xs => .tuple (toPys xs)
  | .dk _ => .dict []
  | .dt _ => .dict []
def toPys : List D → List PyData
  | [] => []
  | x :: r => toPy x :: toPys r
end
mutual
/-- data that == can be asked of, at most n deep -/
def okE : Nat → D → Bool
  | _, .non => true
  | _, .bl _ => true
  | _, .int _ => true
  | _, .str s => s.cps.all (· < 0x110000)
  | n + 1, .tup xs => okEs n xs
  | n + 1, .lst xs => okEs n xs
  | n + 1, .fl xs => okEs n xs
  | n + 1, .ft xs => okEs n xs
  | _, _ => false
def okEs : Nat → List D → Bool
  | _, [] => true
  | n, x :: r => okE n x && okEs n r
end
mutual
theorem okE_lay : ∀ (n : Nat) (d : D), okE n d = true → (toPy d).canLay0 = true ∧ (toPy d).depth ≤ n
  | _, .non, _ => ⟨by simp [toPy, PyData.canLay0], by simp [toPy, PyData.depth]⟩
  | _, .bl _, _ => ⟨by simp [toPy, PyData.canLay0], by simp [toPy, PyData.depth]⟩
  | _, .int _, _ => ⟨by simp [toPy, PyData.canLay0], by simp [toPy, PyData.depth]⟩
  | n, .str s, h => ⟨by
      have h : s.cps.all (· < 0x110000) = true := by cases n <;> simpa [okE] using h
      simpa [toPy, PyData.canLay0, PyData.strOk] using h, by simp [toPy, PyData.depth]⟩
  | n + 1, .tup xs, h => by
    have := okEs_lay n xs (by simpa [okE] using h)
    exact ⟨by simpa [toPy, PyData.canLay0] using this.1, by simpa [toPy, PyData.depth] using this.2⟩
  | n + 1, .lst xs, h => by
    have := okEs_lay n xs (by simpa [okE] using h)
    exact ⟨by simpa [toPy, PyData.canLay0] using this.1, by simpa [toPy, PyData.depth] using this.2⟩
  | n + 1, .fl xs, h => by
    have := okEs_lay n xs (by simpa [okE] using h)
    exact ⟨by simpa [toPy, PyData.canLay0] using this.1, by simpa [toPy, PyData.depth] using this.2⟩
  | n + 1, .ft xs, h => by
    have := okEs_lay n xs (by simpa [okE] using h)
    exact ⟨by simpa [toPy, PyData.canLay0] using this.1, by simpa [toPy, PyData.depth] using this.2⟩
  | 0, .tup xs, h => by simp [okE] at h
  | 0, .ft xs, h => by simp [okE] at h
  | 0, .lst xs, h => by simp [okE] at h
  | 0, .fl xs, h => by simp [okE] at h
  | n, .dk _, h => by cases n <;> simp [okE] at h
  | n, .dt _, h => by cases n <;> simp [okE] at h
theorem okEs_lay : ∀ (n : Nat) (d : List D), okEs n d = true → PyData.canLayAll0 (toPys d) = true ∧ PyData.depthAll (toPys d) ≤ n
  | _, [], _ => ⟨by simp [toPys, PyData.canLayAll0], by simp [toPys, PyData.depthAll]⟩
  | n, x :: r, h => by
    have h : okE n x = true ∧ okEs n r = true := by simpa [okEs] using h
    have a := okE_lay n x h.1
    have c := okEs_lay n r h.2
    exact ⟨by simp [toPys, PyData.canLayAll0, a.1, c.1], by simp only [toPys, PyData.depthAll]; exact Nat.max_le.mpr ⟨a.2, c.2⟩⟩
end
theorem okE_shaped {d : D} (h : okE 20 d = true) : SeqAt.shaped (toPy d) = true := by
  have := okE_lay 20 d h
  unfold SeqAt.shaped
  rw [this.1, Bool.true_and]
  exact decide_eq_true (by omega)
mutual
theorem Rp.dp {H : Hp} : ∀ {n : Nat} {v : V} {d : D}, okE n d = true → Rp K H v d → Dp K H v (toPy d)
  | _, _, _, _, .non => .non
  | _, _, _, _, .bl b => .bl b
  | _, _, _, _, .int b => .int b
  | _, _, _, _, .str b => .str b
  | n + 1, _, _, h, .lst a r => .lst (.inl (.inl a)) (RpL.dp (n := n) (by simpa [okE] using h) r)
  | n + 1, _, _, h, .fl a r => .lst a (RpL.dp (n := n) (by simpa [okE] using h) r)
  | n + 1, _, _, h, .tup a r => .tup (.inl (.inl a)) (RpL.dp (n := n) (by simpa [okE] using h) r)
  | n + 1, _, _, h, .ft a r => .tup a (RpL.dp (n := n) (by simpa [okE] using h) r)
  | 0, _, _, h, .lst a r => by simp [okE] at h
  | 0, _, _, h, .fl a r => by simp [okE] at h
  | 0, _, _, h, .tup a r => by simp [okE] at h
  | 0, _, _, h, .ft a r => by simp [okE] at h
  | n, _, _, h, .dk _ _ => by cases n <;> simp [okE] at h
  | n, _, _, h, .dt _ _ => by cases n <;> simp [okE] at h
theorem RpL.dp {H : Hp} : ∀ {n : Nat} {v : List V} {d : List D}, okEs n d = true → RpL K H v d → DpAll K H v (toPys d)
  | _, _, _, _, .nil => .nil
  | n, _, _, h, .cons a r => by
    have h := (Bool.and_eq_true_iff.mp (show (okE n _ && okEs n _) = true from by simpa [okEs] using h))
    exact .cons (Rp.dp h.1 a) (RpL.dp h.2 r)
end
mutual
/-- == -/
def eqv : D → D → Bool
  | .non, .non => true
  | .bl a, .bl b => a == b
  | .bl a, .int j => (if a then 1 else 0) == j
  | .int i, .bl b => i == (if b then 1 else 0)
  | .int i, .int j => i == j
  | .str x, .str y => x == y
  | .tup xs, .tup ys => eqvs xs ys
  | .tup xs, .ft ys => eqvs xs ys
  | .ft xs, .tup ys => eqvs xs ys
  | .ft xs, .ft ys => eqvs xs ys
  | .lst xs, .lst ys => eqvs xs ys
  | .lst xs, .fl ys => eqvs xs ys
  | .fl xs, .lst ys => eqvs xs ys
  | .fl xs, .fl ys => eqvs xs ys
  | _, _ => false
def eqvs : List D → List D → Bool
  | [], [] => true
  | x :: xs, y :: ys => eqv x y && eqvs xs ys
  | _, _ => false
end
mutual
theorem eqv_py : ∀ a b : D, PyData.eqv (toPy a) (toPy b) = eqv a b
  | .tup xs, b => by
    cases b <;> simp [toPy, PyData.eqv, eqv]
    all_goals exact eqvs_py xs _
  | .ft xs, b => by
    cases b <;> simp [toPy, PyData.eqv, eqv]
    all_goals exact eqvs_py xs _
  | .lst xs, b => by
    cases b <;> simp [toPy, PyData.eqv, eqv]
    all_goals exact eqvs_py xs _
  | .fl xs, b => by
    cases b <;> simp [toPy, PyData.eqv, eqv]
    all_goals exact eqvs_py xs _
  | .non, b => by cases b <;> simp [toPy, PyData.eqv, eqv]
  | .bl _, b => by cases b <;> simp [toPy, PyData.eqv, eqv]
  | .int _, b => by cases b <;> simp [toPy, PyData.eqv, eqv]
  | .str _, b => by cases b <;> simp [toPy, PyData.eqv, eqv]
  | .dk _, b => by cases b <;> simp [toPy, PyData.eqv, eqv]
  | .dt _, b => by cases b <;> simp [toPy, PyData.eqv, eqv]
theorem eqvs_py : ∀ a b : List D, PyData.eqvAll (toPys a) (toPys b) = eqvs a b
  | [], [] => by simp [toPys, PyData.eqvAll, eqvs]
  | [], _ :: _ => by simp [toPys, PyData.eqvAll, eqvs]
  | _ :: _, [] => by simp [toPys, PyData.eqvAll, eqvs]
  | x :: xs, y :: ys => by
    simp only [toPys, PyData.eqvAll, eqvs]
    rw [eqv_py x y, eqvs_py xs ys]
end
def bEq (a b : D) : Oz := if okE 20 a = true ∧ okE 20 b = true then ozB (eqv a b) else none
def bNe (a b : D) : Oz := if okE 20 a = true ∧ okE 20 b = true then ozB (!eqv a b) else none
theorem snd_bEq : OpS K (rEqD K) bEq := fun G B H v u d e z k R g g2 o1 o2 hf r => by
  unfold bEq at hf
  split at hf
  · rename_i h
    refine ⟨_, _, Rp.dp h.1 ((o1.rp g).mono g2), Rp.dp h.2 ((o2.rp g).mono g2), okE_shaped h.1, okE_shaped h.2, ?_⟩
    rw [eqv_py]
    exact res_bl hf r
  · cases hf
theorem snd_bNe : OpS K (rNeD K) bNe := fun G B H v u d e z k R g g2 o1 o2 hf r => by
  unfold bNe at hf
  split at hf
  · rename_i h
    refine ⟨_, _, Rp.dp h.1 ((o1.rp g).mono g2), Rp.dp h.2 ((o2.rp g).mono g2), okE_shaped h.1, okE_shaped h.2, ?_⟩
    rw [eqv_py]
    exact res_bl hf r
  · cases hf
/-- order of ints (texts, tuples: later) -/
def bLt : D → D → Oz
  | .int i, .int j => ozB (decide (i < j))
  | _, _ => none
def bLe : D → D → Oz
  | .int i, .int j => ozB (decide (i ≤ j))
  | _, _ => none
def bGt : D → D → Oz
  | .int i, .int j => ozB (decide (j < i))
  | _, _ => none
def bGe : D → D → Oz
  | .int i, .int j => ozB (decide (j ≤ i))
  | _, _ => none
theorem snd_bLt : OpS K (rI0 fun i j => .bl (decide (i < j))) bLt := fun G B H v u d e z k R g g2 o1 o2 hf r => by
  unfold bLt at hf
  split at hf
  · obtain rfl := ov_int o1
    obtain rfl := ov_int o2
    exact ⟨_, _, rfl, rfl, res_bl hf r⟩
  · cases hf
theorem snd_bLe : OpS K (rI0 fun i j => .bl (decide (i ≤ j))) bLe := fun G B H v u d e z k R g g2 o1 o2 hf r => by
  unfold bLe at hf
  split at hf
  · obtain rfl := ov_int o1
    obtain rfl := ov_int o2
    exact ⟨_, _, rfl, rfl, res_bl hf r⟩
  · cases hf
theorem snd_bGt : OpS K (rI0 fun i j => .bl (decide (j < i))) bGt := fun G B H v u d e z k R g g2 o1 o2 hf r => by
  unfold bGt at hf
  split at hf
  · obtain rfl := ov_int o1
    obtain rfl := ov_int o2
    exact ⟨_, _, rfl, rfl, res_bl hf r⟩
  · cases hf
theorem snd_bGe : OpS K (rI0 fun i j => .bl (decide (j ≤ i))) bGe := fun G B H v u d e z k R g g2 o1 o2 hf r => by
  unfold bGe at hf
  split at hf
  · obtain rfl := ov_int o1
    obtain rfl := ov_int o2
    exact ⟨_, _, rfl, rfl, res_bl hf r⟩
  · cases hf
def isNonD : D → Bool
  | .non => true
  | _ => false
theorem ov_isnon {G B : Hp} {v : V} {d : D} (h : Ov K G B v d) : decide (v = .non) = isNonD d := by
  cases d with
  | lst ds => obtain ⟨a, _, rfl, _⟩ := h; rfl
  | dk ds => obtain ⟨a, _, rfl, _⟩ := h; rfl
  | dt ds => obtain ⟨a, _, rfl, _⟩ := h; rfl
  | non => obtain rfl := ov_non h; rfl
  | int i => obtain rfl := ov_int h; rfl
  | bl i => obtain rfl := ov_bl h; rfl
  | str i => obtain rfl := ov_str h; rfl
  | tup ds => cases (show Rp K G v (.tup ds) from h); rfl
  | fl ds => cases (show Rp K G v (.fl ds) from h); rfl
  | ft ds => cases (show Rp K G v (.ft ds) from h); rfl
def bIs (a b : D) : Oz := if isNonD b = true then ozB (isNonD a) else none
def bIsNot (a b : D) : Oz := if isNonD b = true then ozB (!isNonD a) else none
theorem snd_bIs : OpS K (fun x y H Q => y = .non ∧ Q (.bl (decide (x = .non))) H) bIs := fun G B H v u d e z k R g g2 o1 o2 hf r => by
  unfold bIs at hf
  split at hf
  · rename_i h
    refine ⟨by have := ov_isnon o2; rw [h] at this; exact of_decide_eq_true this, ?_⟩
    rw [ov_isnon o1]
    exact res_bl hf r
  · cases hf
theorem snd_bIsNot : OpS K (fun x y H Q => y = .non ∧ Q (.bl (!decide (x = .non))) H) bIsNot := fun G B H v u d e z k R g g2 o1 o2 hf r => by
  unfold bIsNot at hf
  split at hf
  · rename_i h
    refine ⟨by have := ov_isnon o2; rw [h] at this; exact of_decide_eq_true this, ?_⟩
    rw [ov_isnon o1]
    exact res_bl hf r
  · cases hf
end

/-! ### subscripts, len -/
section
variable {X : Cx}
def bIx : D → D → Oz
  | .lst xs, .int i => (atI xs i).map fun d => (d, .fz)
  | .tup xs, .int i => (atI xs i).map fun d => (d, .fz)
  | .fl xs, .int i => (atI xs i).map fun d => (d, .fz)
  | .ft xs, .int i => (atI xs i).map fun d => (d, .fz)
  | .str s, .int i => if s.length ≤ LIM then (atI s.cps.toList i).map fun c => (.str ⟨#[c]⟩, .fz) else none
  | _, _ => none
theorem atI_rp {G : Hp} {vs : List V} {ds : List D} {i : Int} {d : D} (r : RpL K G vs ds) (h : atI ds i = some d) : ∃ v, atI vs i = some v ∧ Rp K G v d := by
  unfold atI at h ⊢
  rw [r.length]
  cases hx : ixN ds.length i with
  | none => rw [hx] at h; cases h
  | some j =>
    rw [hx] at h
    exact r.get h
theorem snd_bIx : OpS K (rIx K) bIx := fun G B H v u d e z k R g g2 o1 o2 hf r => by
  unfold bIx at hf
  split at hf
  · obtain rfl := ov_int o2
    rename_i xs i
    cases ha : atI xs i with
    | none => rw [ha] at hf; cases hf
    | some c =>
      rw [ha] at hf; cases hf
      obtain ⟨a, vs, rfl, t, l⟩ := o1
      obtain ⟨v, h1, h2⟩ := atI_rp l ha
      exact .inl ⟨a, vs, i, v, rfl, rfl, .inl (.inl (g2 _ _ t)), h1, r.val _ rfl h2⟩
  · obtain rfl := ov_int o2
    rename_i xs i
    cases ha : atI xs i with
    | none => rw [ha] at hf; cases hf
    | some c =>
      rw [ha] at hf; cases hf
      cases (show Rp K G v (.tup xs) from o1) with
      | @tup a vs _ t l =>
        obtain ⟨v, h1, h2⟩ := atI_rp l ha
        exact .inr (.inl ⟨a, vs, i, v, rfl, rfl, exT (g.trans g2) t, h1, r.val _ rfl h2⟩)
  · obtain rfl := ov_int o2
    rename_i xs i
    cases ha : atI xs i with
    | none => rw [ha] at hf; cases hf
    | some c =>
      rw [ha] at hf; cases hf
      cases (show Rp K G v (.fl xs) from o1) with
      | @fl a vs _ t l =>
        obtain ⟨v, h1, h2⟩ := atI_rp l ha
        exact .inl ⟨a, vs, i, v, rfl, rfl, Evl.ex_l (g.trans g2) t, h1, r.val _ rfl h2⟩
  · obtain rfl := ov_int o2
    rename_i xs i
    cases ha : atI xs i with
    | none => rw [ha] at hf; cases hf
    | some c =>
      rw [ha] at hf; cases hf
      cases (show Rp K G v (.ft xs) from o1) with
      | @ft a vs _ t l =>
        obtain ⟨v, h1, h2⟩ := atI_rp l ha
        exact .inr (.inl ⟨a, vs, i, v, rfl, rfl, Evl.ex_t (g.trans g2) t, h1, r.val _ rfl h2⟩)
  · obtain rfl := ov_int o2
    obtain rfl := ov_str o1
    rename_i s i
    split at hf
    · rename_i hl
      cases ha : atI s.cps.toList i with
      | none => rw [ha] at hf; cases hf
      | some c =>
        rw [ha] at hf; cases hf
        exact .inr (.inr ⟨s, i, c, rfl, rfl, lim_le hl, ha, r.val _ rfl (.str _)⟩)
    · cases hf
  · cases hf
def cLen : List D → Oz
  | [.lst xs] => ozI xs.length
  | [.tup xs] => ozI xs.length
  | [.fl xs] => ozI xs.length
  | [.ft xs] => ozI xs.length
  | [.dk xs] => ozI xs.length
  | [.dt xs] => none
  | [.str s] => if s.length ≤ LIM then ozI s.length else none
  | _ => none
theorem RpK.length {G : Hp} : ∀ {vs : List (Key × V)} {ds : List (Key × D)}, RpK K G vs ds → vs.length = ds.length
  | _, _, .nil => rfl
  | _, _, .cons _ r => by rw [List.length_cons, List.length_cons, RpK.length r]
def rLenD (K : PySem.W.Frag) : List V → Hp → VK → Prop := fun xs H Q => (∃ p ys, xs = [.ref p] ∧ (SqL K H p ys ∨ SqT K H p ys) ∧ Q (.int ys.length) H) ∨ (∃ z, xs = [.str z] ∧ z.length ≤ sizeLine ∧ Q (.int z.length) H) ∨ (∃ a kvs, xs = [V.ref a] ∧ Rd H a (.dK kvs) ∧ Q (.int kvs.length) H)
theorem call_lenR {X : Cx} : CallR X (.builtin "len") (fun xs H Q => ∃ a kvs, xs = [V.ref a] ∧ Rd H a (.dK kvs) ∧ Q (.int kvs.length) H) := fun pins s σ H xs us Q I r h => by
  obtain ⟨a, kvs, rfl, ha, q⟩ := h
  obtain ⟨u, rfl, ru⟩ := vals1 r
  cases ru
  exact d_len I ha fun t s2 I2 => ⟨V.int kvs.length, H, I2, ⟨t, rfl⟩, q⟩
theorem cr_lenD : CallR X (.builtin "len") (rLenD X.K) := call_len_seq.or (call_len_str.or call_lenR)
theorem snd_cLen : ClS K (rLenD K) cLen := fun G B H vs ds z k R g g2 o hf r => by
  unfold cLen at hf
  split at hf
  all_goals (first | (cases hf; done) | skip)
  · rename_i xs
    cases o with
    | cons o1 o2 =>
      cases o2
      obtain ⟨a, vs, rfl, t, l⟩ := o1
      exact .inl ⟨a, vs, rfl, .inl (.inl (.inl (g2 _ _ t))), by rw [l.length]; exact res_int hf r⟩
  · rename_i xs
    cases o with
    | cons o1 o2 =>
      cases o2
      cases (show Rp K G _ (.tup xs) from o1) with
      | @tup a vs _ t l => exact .inl ⟨a, vs, rfl, .inr (exT (g.trans g2) t), by rw [l.length]; exact res_int hf r⟩
  · rename_i xs
    cases o with
    | cons o1 o2 =>
      cases o2
      cases (show Rp K G _ (.fl xs) from o1) with
      | @fl a vs _ t l => exact .inl ⟨a, vs, rfl, .inl (Evl.ex_l (g.trans g2) t), by rw [l.length]; exact res_int hf r⟩
  · rename_i xs
    cases o with
    | cons o1 o2 =>
      cases o2
      cases (show Rp K G _ (.ft xs) from o1) with
      | @ft a vs _ t l => exact .inl ⟨a, vs, rfl, .inr (Evl.ex_t (g.trans g2) t), by rw [l.length]; exact res_int hf r⟩
  · rename_i xs
    cases o with
    | cons o1 o2 =>
      cases o2
      obtain ⟨a, kvs, rfl, t, l⟩ := o1
      exact .inr (.inr ⟨a, kvs, rfl, rd_mono g2 t, by rw [l.length]; exact res_int hf r⟩)
  · rename_i s
    cases o with
    | cons o1 o2 =>
      cases o2
      obtain rfl := ov_str o1
      split at hf
      · rename_i hl
        exact .inr (.inl ⟨s, rfl, lim_le hl, res_int hf r⟩)
      · cases hf
/-- tuple(..), list(..) of a list or a tuple -/
def cTuple : List D → Oz
  | [.lst xs] => some (.tup xs, .fz)
  | [.fl xs] => some (.tup xs, .fz)
  | [.tup xs] => some (.tup xs, .fz)
  | _ => none
theorem snd_cTuple : ClS K (fun xs H Q => ∃ p ys, xs = [.ref p] ∧ ((SqL K H p ys ∧ ∀ l, H l = none → Q (.ref l) (upd H l (.tup ys))) ∨ (SqT K H p ys ∧ Q (.ref p) H))) cTuple := fun G B H vs ds z k R g g2 o hf r => by
  unfold cTuple at hf
  split at hf
  all_goals (first | (cases hf; done) | skip)
  · rename_i xs
    cases o with
    | cons o1 o2 =>
      cases o2
      obtain ⟨a, vs, rfl, t, l⟩ := o1
      cases hf
      exact ⟨a, vs, rfl, .inl ⟨.inl (.inl (g2 _ _ t)), fun p hp => r.tup p _ _ rfl rfl hp l⟩⟩
  · rename_i xs
    cases o with
    | cons o1 o2 =>
      cases o2
      cases (show Rp K G _ (.fl xs) from o1) with
      | @fl a vs _ t l =>
        cases hf
        exact ⟨a, vs, rfl, .inl ⟨Evl.ex_l (g.trans g2) t, fun p hp => r.tup p _ _ rfl rfl hp l⟩⟩
  · rename_i xs
    cases o with
    | cons o1 o2 =>
      cases o2
      cases (show Rp K G _ (.tup xs) from o1) with
      | @tup a vs _ t l =>
        cases hf
        exact ⟨a, vs, rfl, .inr ⟨exT (g.trans g2) t, r.val _ rfl (.tup t l)⟩⟩
def cList : List D → Oz
  | [.lst xs] => some (.lst xs, .nw)
  | [.fl xs] => some (.lst xs, .nw)
  | [.tup xs] => some (.lst xs, .nw)
  | _ => none
theorem snd_cList : ClS K (fun xs H Q => ∃ p ys, xs = [.ref p] ∧ (SqL K H p ys ∨ SqT K H p ys) ∧ ∀ l, H l = none → Q (.ref l) (upd H l (.lst ys))) cList := fun G B H vs ds z k R g g2 o hf r => by
  unfold cList at hf
  split at hf
  all_goals (first | (cases hf; done) | skip)
  · rename_i xs
    cases o with
    | cons o1 o2 =>
      cases o2
      obtain ⟨a, vs, rfl, t, l⟩ := o1
      cases hf
      exact ⟨a, vs, rfl, .inl (.inl (.inl (g2 _ _ t))), fun p hp => r.new p _ rfl hp ⟨_, upd_same, l⟩⟩
  · rename_i xs
    cases o with
    | cons o1 o2 =>
      cases o2
      cases (show Rp K G _ (.fl xs) from o1) with
      | @fl a vs _ t l =>
        cases hf
        exact ⟨a, vs, rfl, .inl (Evl.ex_l (g.trans g2) t), fun p hp => r.new p _ rfl hp ⟨_, upd_same, l⟩⟩
  · rename_i xs
    cases o with
    | cons o1 o2 =>
      cases o2
      cases (show Rp K G _ (.tup xs) from o1) with
      | @tup a vs _ t l =>
        cases hf
        exact ⟨a, vs, rfl, .inr (exT (g.trans g2) t), fun p hp => r.new p _ rfl hp ⟨_, upd_same, l⟩⟩
/-- int(an int), int(a truth value) -/
def cInt : List D → Oz
  | [.int i] => ozI i
  | [.bl b] => ozI (if b then 1 else 0)
  | _ => none
theorem snd_cInt : ClS K (fun xs H Q => (∃ i, xs = [.int i] ∧ Q (.int i) H) ∨ ∃ k, xs = [.bl k] ∧ Q (.int (if k then 1 else 0)) H) cInt := fun G B H vs ds z k R g g2 o hf r => by
  unfold cInt at hf
  split at hf
  all_goals (first | (cases hf; done) | skip)
  · cases o with
    | cons o1 o2 =>
      cases o2
      obtain rfl := ov_int o1
      exact .inl ⟨_, rfl, res_int hf r⟩
  · cases o with
    | cons o1 o2 =>
      cases o2
      obtain rfl := ov_bl o1
      exact .inr ⟨_, rfl, res_int hf r⟩
def cAbs : List D → Oz
  | [.int i] => ozI (if i < 0 then -i else i)
  | _ => none
theorem snd_cAbs : ClS K (fun xs H Q => ∃ i, xs = [.int i] ∧ Q (.int (if i < 0 then -i else i)) H) cAbs := fun G B H vs ds z k R g g2 o hf r => by
  unfold cAbs at hf
  split at hf
  all_goals (first | (cases hf; done) | skip)
  · cases o with
    | cons o1 o2 =>
      cases o2
      obtain rfl := ov_int o1
      exact ⟨_, rfl, res_int hf r⟩
end
end VL

namespace VL
open PySem PySem.Spec PyProof.Rows L2
open Evl (Ex)
variable {K : PySem.W.Frag}

/-! ### several values held at once: frozen, or each a new object of its own -/
def toN (Q : D → Bool → Rho → Prop) : D → Kd → Rho → Prop := fun d k ρ => match k with
  | .fz => Q d false ρ
  | .nw => Q d true ρ
  | .br i => Q d false (ρ.set i (.fz d))
def Hv (K : PySem.W.Frag) (b : Bs) (G H : Hp) (ρ : Rho) (σ : L2.St) (v : V) : D × Bool → Prop
  | (d, false) => Rp K G v d
  | (d, true) => ∃ a, v = .ref a ∧ b.B0 a = none ∧ b.aw ≠ some a ∧ G a = none ∧ Ob K G H a d ∧ ∀ (j : Nat) (e : D), ρ[j]? = some (.ow e) → σ[j]? ≠ some (some (.ref a))
theorem held {b : Bs} {ρ ρ' : Rho} {σ : L2.St} {G H G' H' : Hp} {k : Kd} {v : V} {d : D} {Q : D → Bool → Rho → Prop} {R : V → Hp → Prop} (q : toN Q d k ρ') (x : Xt b ρ σ G H ρ' G' H') (s0 : Sim K b G ρ σ H) (s : Sim K b G' ρ' σ H') (r : Rv K b H G' H' ρ' σ k v d)
    (h : ∀ o ρ2 G2, Q d o ρ2 → Xt b ρ σ G H ρ2 G2 H' → Sim K b G2 ρ2 σ H' → Hv K b G2 H' ρ2 σ v (d, o) → (o = true → ∀ a, v = .ref a → hd b.aw H a = none) → R v H') : R v H' := by
  cases k with
  | fz => exact h false ρ' G' q x s r (fun e => nomatch e)
  | nw => exact h true ρ' G' q x s (r.free s0 x) (fun _ a e => by
      obtain ⟨a', h0, h1, _⟩ := r
      rw [e] at h0; cases h0; exact h1)
  | br i => exact frozen1 (Q := fun d ρ2 => Q d false ρ2) (k := .br i) q x s0 s r fun ρ2 G2 q2 x2 s2 r2 => h false ρ2 G2 q2 x2 s2 r2 (fun e => nomatch e)
theorem Hv.mono {b : Bs} {ρ ρ' : Rho} {σ : L2.St} {G H G' H' : Hp} {v : V} {d : D × Bool} (h : Hv K b G H ρ σ v d) (x : Xt b ρ σ G H ρ' G' H') : Hv K b G' H' ρ' σ v d := by
  obtain ⟨d, o⟩ := d
  cases o with
  | false => exact Rp.mono x.g h
  | true =>
    obtain ⟨a, h0, h1, h2, h3, h4, h5⟩ := h
    obtain ⟨o, ho, _⟩ := h4.there
    have e : hd b.aw H a = some o := by rw [hd_ne h2]; exact ho
    refine ⟨a, h0, h1, h2, x.new a o e h3 fun ⟨j, e', z1, z2⟩ => h5 j e' z1 z2, h4.mono x.g fun u hu => ?_, fun j e' z => h5 j e' (x.own j e' z)⟩
    exact (hd_some (x.h a u (by rw [hd_ne h2]; exact hu))).2
/-- no two of them the same new object -/
def Apart (vs : List V) (ds : List (D × Bool)) : Prop := ∀ (i j : Nat) (d e : D) (v : V), i ≠ j → ds[i]? = some (d, true) → ds[j]? = some (e, true) → vs[i]? = some v → vs[j]? = some v → False
abbrev WN := Rho → (List (D × Bool) → Rho → Prop) → Prop
def SndN (K : PySem.W.Frag) (ta : TA) (t : WN) : Prop := ∀ (b : Bs) (G : Hp) (ρ : Rho) (σ : L2.St) (H : Hp) (Q : List (D × Bool) → Rho → Prop) (R : List V → Hp → Prop), Sim K b G ρ σ H → t ρ Q →
  (∀ ds ρ' vs G' H', Q ds ρ' → Xt b ρ σ G H ρ' G' H' → Sim K b G' ρ' σ H' → Paired (Hv K b G' H' ρ' σ) vs ds → Apart vs ds → (∀ (i : Nat) (d : D) (v : V), ds[i]? = some (d, true) → vs[i]? = some v → ∀ a, v = .ref a → hd b.aw H a = none) → R vs H') → ta σ H R
def nNil : WN := fun ρ Q => Q [] ρ
def nCons (t : WE) (u : WN) : WN := fun ρ Q => t ρ (toN fun d o ρ1 => u ρ1 fun ds ρ2 => Q ((d, o) :: ds) ρ2)
theorem sndN_nil : SndN K tNil nNil := fun b G ρ σ H Q R s q k => k _ _ _ G H q .refl s .nil (fun _ _ _ _ _ _ h => by simp at h) (fun _ _ _ h => by simp at h)
theorem sndN_cons {te : TE} {ta : TA} {t : WE} {u : WN} (ha : SndE K te t) (hb : SndN K ta u) : SndN K (tCons te ta) (nCons t u) := by
  intro b G ρ σ H Q R s h k
  refine ha b G ρ σ H _ _ s h fun d ka ρ1 v G1 H1 q1 x1 s1 r1 => ?_
  refine held (R := fun v H' => ta σ H' fun xs H2 => R (v :: xs) H2) q1 x1 s s1 r1 fun o ρ1 G1 q1 x1 s1 r1 n1 => ?_
  refine hb b G1 ρ1 σ H1 _ _ s1 q1 fun ds ρ2 vs G2 H2 q2 x2 s2 r2 ap n2 => ?_
  have new : ∀ (i : Nat) (d : D) (v : V), ds[i]? = some (d, true) → vs[i]? = some v → ∀ a, v = .ref a → hd b.aw H a = none := fun i d v e1 e2 a e3 => Evl.fresh_back x1.h (n2 i d v e1 e2 a e3)
  -- the first one's object is older than those of the rest
  have old : ∀ (i : Nat) (e : D) (v' : V), o = true → ds[i]? = some (e, true) → vs[i]? = some v' → v' = v → False := fun i e v' ho e1 e2 e3 => by
    subst ho e3
    obtain ⟨a, h0, h1, h2, h3, h4, h5⟩ := r1
    have := n2 i e v' e1 e2 a h0
    obtain ⟨o, ho, _⟩ := h4.there
    rw [hd_ne h2, ho] at this
    cases this
  refine k _ _ _ G2 H2 q2 (x1.trans x2) s2 (.cons (r1.mono x2) r2) ?_ ?_
  · intro i j d' e' v' hne e1 e2 e3 e4
    cases i with
    | zero =>
      cases j with
      | zero => exact hne rfl
      | succ j =>
        have e1 : (d, o) = (d', true) := Option.some.inj e1
        have e3 : v = v' := Option.some.inj e3
        exact old j e' v' (by cases e1; rfl) (by simpa using e2) (by simpa using e4) e3.symm
    | succ i =>
      cases j with
      | zero =>
        have e2 : (d, o) = (e', true) := Option.some.inj e2
        have e4 : v = v' := Option.some.inj e4
        exact old i d' v' (by cases e2; rfl) (by simpa using e1) (by simpa using e3) e4.symm
      | succ j => exact ap i j d' e' v' (fun z => hne (by rw [z])) (by simpa using e1) (by simpa using e2) (by simpa using e3) (by simpa using e4)
  · intro i d' v' e1 e2 a e3
    cases i with
    | zero =>
      have e1 : (d, o) = (d', true) := Option.some.inj e1
      have e2 : v = v' := Option.some.inj e2
      cases e1
      exact n1 rfl a (e2.trans e3)
    | succ i => exact new i d' v' (by simpa using e1) (by simpa using e2) a e3
def sl : D × Bool → Slot
  | (d, false) => .fz d
  | (d, true) => .ow d
def setAll (ρ : Rho) : List Nat → List (D × Bool) → Rho
  | i :: is, d :: ds => setAll (ρ.set i (sl d)) is ds
  | _, _ => ρ
def setAllV (σ : L2.St) : List Nat → List V → L2.St
  | i :: is, v :: vs => setAllV (σ.set i (some v)) is vs
  | _, _ => σ
theorem setAll_ok {b : Bs} {G H : Hp} : ∀ {is : List Nat} {vs : List V} {ds : List (D × Bool)} {ρ : Rho} {σ : L2.St}, Sim K b G ρ σ H → Paired (Hv K b G H ρ σ) vs ds → Apart vs ds → Sim K b G (setAll ρ is ds) (setAllV σ is vs) H
  | [], vs, ds, ρ, σ, s, r, ap => by
    cases r <;> exact s
  | i :: is, _, _, ρ, σ, s, .nil, ap => s
  | i :: is, v :: vs, (d, o) :: ds, ρ, σ, s, .cons h r, ap => by
    have ap' : Apart vs ds := fun i j d e v hne e1 e2 e3 e4 => ap (i + 1) (j + 1) d e v (fun z => hne (by omega)) (by simpa using e1) (by simpa using e2) (by simpa using e3) (by simpa using e4)
    cases o with
    | false =>
      have h : Rp K G v d := h
      show Sim K b G (setAll (ρ.set i (.fz d)) is ds) (setAllV (σ.set i (some v)) is vs) H
      refine setAll_ok (s.setF i h) ?_ ap'
      refine Paired.mapP r fun v' d' h' => ?_
      obtain ⟨d', o'⟩ := d'
      cases o' with
      | false => exact h'
      | true =>
        obtain ⟨a, h0, h1, h2, h3, h4, h5⟩ := h'
        refine ⟨a, h0, h1, h2, h3, h4, fun j e z1 z2 => ?_⟩
        by_cases hj : j = i
        · subst hj
          by_cases hl : j < ρ.length
          · rw [List.getElem?_set_self hl] at z1; cases z1
          · rw [List.getElem?_eq_none (by simpa using hl)] at z1; cases z1
        · rw [List.getElem?_set_ne (Ne.symm hj)] at z1 z2
          exact h5 j e z1 z2
    | true =>
      obtain ⟨p, g0, g1, g2, g3, g4, g5⟩ := h
      subst g0
      show Sim K b G (setAll (ρ.set i (.ow d)) is ds) (setAllV (σ.set i (some (.ref p))) is vs) H
      refine setAll_ok (s.setO i g2 g1 g3 g4 g5) ?_ ap'
      -- later ones are other objects
      have far : ∀ (k : Nat) (d' : D) (v' : V), ds[k]? = some (d', true) → vs[k]? = some v' → v' ≠ .ref p := fun k d' v' e1 e2 e3 => ap 0 (k + 1) d d' v' (by omega) rfl (by simpa using e1) (by rw [e3]; rfl) (by simpa using e2)
      have go : ∀ {vs : List V} {ds : List (D × Bool)}, Paired (Hv K b G H ρ σ) vs ds → (∀ (k : Nat) (d' : D) (v' : V), ds[k]? = some (d', true) → vs[k]? = some v' → v' ≠ .ref p) → Paired (Hv K b G H (ρ.set i (.ow d)) (σ.set i (some (.ref p)))) vs ds := by
        intro vs ds r
        induction r with
        | nil => intro _; exact .nil
        | @cons v' d' vs ds h' r ih =>
          intro f
          refine .cons ?_ (ih fun k d' v' e1 e2 => f (k + 1) d' v' (by simpa using e1) (by simpa using e2))
          obtain ⟨d', o'⟩ := d'
          cases o' with
          | false => exact h'
          | true =>
            have hne := f 0 d' v' rfl rfl
            obtain ⟨a, h0, h1, h2, h3, h4, h5⟩ := h'
            refine ⟨a, h0, h1, h2, h3, h4, fun j e z1 z2 => ?_⟩
            by_cases hj : j = i
            · subst hj
              by_cases hl : j < σ.length
              · rw [List.getElem?_set_self hl] at z2; cases z2; exact hne h0
              · rw [List.getElem?_eq_none (by simpa using hl)] at z2; cases z2
            · rw [List.getElem?_set_ne (Ne.symm hj)] at z1 z2
              exact h5 j e z1 z2
      exact go r far
/-- a, b = x, y (the values written) -/
def wPar (is : List Nat) (t : WN) : WS := fun P ρ => t ρ fun ds ρ1 => ds.length = is.length ∧ P.nx (setAll ρ1 is ds)
theorem snd_par2 {i j : Nat} {ta : TA} {t : WN} (h : SndN K ta t) : SndS K (tPar i j ta) (wPar [i, j] t) := fun b P E G ρ σ H e s hq =>
  h b G ρ σ H _ _ s hq fun ds ρ1 vs G1 H1 q1 x1 s1 r1 ap _ => by
    have hl := Paired.len r1
    match vs, ds, r1, q1, hl, ap with
    | [v, w], ds, r1, q1, hl, ap => exact ⟨v, w, rfl, e.nx _ _ G1 H1 q1.2 (setAll_ok (is := [i, j]) s1 r1 ap)⟩
    | [], ds, r1, q1, hl, ap => have := q1.1; rw [← hl] at this; cases this
    | [_], ds, r1, q1, hl, ap => have := q1.1; rw [← hl] at this; cases this
    | _ :: _ :: _ :: _, ds, r1, q1, hl, ap => have := q1.1; rw [← hl] at this; simp at this
theorem snd_par3 {i j l : Nat} {ta : TA} {t : WN} (h : SndN K ta t) : SndS K (tPar3 i j l ta) (wPar [i, j, l] t) := fun b P E G ρ σ H e s hq =>
  h b G ρ σ H _ _ s hq fun ds ρ1 vs G1 H1 q1 x1 s1 r1 ap _ => by
    have hl := Paired.len r1
    match vs, ds, r1, q1, hl, ap with
    | [v, w, u], ds, r1, q1, hl, ap => exact ⟨v, w, u, rfl, e.nx _ _ G1 H1 q1.2 (setAll_ok (is := [i, j, l]) s1 r1 ap)⟩
    | [], ds, r1, q1, hl, ap => have := q1.1; rw [← hl] at this; cases this
    | [_], ds, r1, q1, hl, ap => have := q1.1; rw [← hl] at this; cases this
    | [_, _], ds, r1, q1, hl, ap => have := q1.1; rw [← hl] at this; cases this
    | _ :: _ :: _ :: _ :: _, ds, r1, q1, hl, ap => have := q1.1; rw [← hl] at this; simp at this
/-- .. by a tuple that is laid (names that comprehensions read) -/
def gNames : List Nat → TGs
  | [] => gNil
  | i :: is => gCons (gName i) (gNames is)
theorem gNames_go {R : L2.St → Hp → Prop} {H : Hp} : ∀ {is : List Nat} {vs : List V} {σ : L2.St}, vs.length = is.length → R (setAllV σ is vs) H → gNames is vs σ H R
  | [], [], σ, _, h => ⟨rfl, h⟩
  | i :: is, v :: vs, σ, e, h => ⟨v, vs, rfl, gNames_go (by simpa using e) h⟩
  | [], _ :: _, _, e, _ => by simp at e
  | _ :: _, [], _, e, _ => by simp at e
theorem snd_parT {n : Nat} {is : List Nat} {ta : TA} {t : WN} (hn : is.length = n) (hm : n ≤ 1000) (h : SndN K ta t) : SndS K (tAsg (tTup ta) (gTup K n (gNames is))) (wPar is t) := fun b P E G ρ σ H e s hq =>
  h b G ρ σ H _ _ s hq fun ds ρ1 vs G1 H1 q1 x1 s1 r1 ap _ => by
    have hl := Paired.len r1
    have hl2 : vs.length = is.length := hl.trans q1.1
    refine ⟨by rw [hl2, hn]; exact lim_le (by unfold LIM; omega), fun p hp => ⟨p, vs, rfl, .inl (.inl upd_same), hl2.trans hn, gNames_go hl2 ?_⟩⟩
    have s2 := s1.laid (o := .tup vs) hp
    have r2 : Paired (Hv K b G1 (upd H1 p (.tup vs)) ρ1 σ) vs ds := Paired.mapP r1 fun v d z => z.mono (.laid hp)
    exact e.nx _ _ G1 _ q1.2 (setAll_ok s2 r2 ap)
end VL

namespace VL
open PySem PySem.Spec PyProof.Rows L2
open Evl (Ex)

structure SW (X : Cx) (e : Expr) (te : TT) (t : WT) : Prop where
  pw : PW X e te
  snd : SndT X.K te t
structure SN (X : Cx) (es : List Expr) (ta : TA) (t : WN) : Prop where
  pa : PA X es ta
  snd : SndN X.K ta t
structure SX (X : Cx) (es : List Expr) (ta : TA) (t : WX) : Prop where
  pa : PA X es ta
  snd : SndX X.K ta t
structure SG (X : Cx) (e : Expr) (tg : TG) (g : WG) : Prop where
  pg : PG X e tg
  snd : SndG X.K tg g
structure SGs (X : Cx) (e : List Expr) (tg : TGs) (g : WGs) : Prop where
  pg : PGs X e tg
  snd : SndGs X.K tg g
structure SIF (X : Cx) (tg e : Expr) (wi : TI) (t : WI) : Prop where
  pi : PI X tg e wi
  snd : SndIF X.K wi t
structure SIO (X : Cx) (tg e : Expr) (wi : TI) (t : WI) : Prop where
  pi : PI X tg e wi
  snd : SndIO X.K wi t
structure SS (X : Cx) (e : Stmt) (ts : TS) (t : WS) : Prop where
  ps : PS X e ts
  snd : SndS X.K ts t
structure SB (X : Cx) (e : List Stmt) (ts : TS) (t : WS) : Prop where
  ps : PSs X e ts
  snd : SndS X.K ts t

section
variable {X : Cx} {e a b c : Expr} {es : List Expr} {te ta tb tc : TE} {t u w : WE} {pos : Pos} {st : Stmt} {sts : List Stmt} {ts us : TS} {r s : WS} {tt tu : TT} {p q : WT}

theorem e_var (i : Nat) {x : Str} {pos : Pos} (hN : X.N[i]? = some x := by rfl) (hv : Vis X.env.scope x := by first | exact Or.inl rfl | exact Or.inr (Or.inl rfl) | exact Or.inr (Or.inr rfl)) (hd : (x == ("__debug__" : Str)) = false := by decide)
    (hcd : (x == ("__classdict__" : Str)) = false := by decide) : SE X (.Name x pos) (tVar i) (wVar i) := ⟨pe_var hN hv hd hcd, snd_var i⟩
theorem e_int {i : Int} {j pos} : SE X (.Constant (.int i) j pos) (tC (.int i)) (wCon (.int i)) := ⟨pe_int, snd_con fun _ => .int i⟩
theorem e_bl {i : Bool} {j pos} : SE X (.Constant (.bool i) j pos) (tC (.bl i)) (wCon (.bl i)) := ⟨pe_bl, snd_con fun _ => .bl i⟩
theorem e_str {i : Str} {j pos} : SE X (.Constant (.str i) j pos) (tC (.str i)) (wCon (.str i)) := ⟨pe_str, snd_con fun _ => .str i⟩
theorem e_non {j pos} : SE X (.Constant .none j pos) (tC .non) (wCon .non) := ⟨pe_non, snd_con fun _ => .non⟩
/-- a module's constant -/
theorem e_glob {x : Str} {v : V} {u : Value} {d : D} {pos : Pos} (hm : X.mg x = some u) (r : RelV v u) (hr : ∀ G, Rp X.K G v d) (hg : Gl X x := by rfl) (hd : (x == ("__debug__" : Str)) = false := by decide) : SE X (.Name x pos) (tC v) (wCon d) :=
  ⟨pe_glob hg hm r hd, snd_con hr⟩
theorem e_bin {op : Operator} {r : R2} {f : D → D → Oz} (ho : OpR X (binaryOp op) r) (hs : OpS X.K r f) (ha : SE X a ta t) (hb : SE X b tb u) : SE X (.BinOp a op b pos) (tOp r ta tb) (wBin f t u) := ⟨pe_op ho ha.pe hb.pe, snd_op hs ha.snd hb.snd⟩
theorem e_add (ha : SE X a ta t) (hb : SE X b tb u) : SE X (.BinOp a .Add b pos) (tOp (rAddD X.K) ta tb) (wBin bAdd t u) := e_bin op_addD snd_bAdd ha hb
theorem e_sub (ha : SE X a ta t) (hb : SE X b tb u) : SE X (.BinOp a .Sub b pos) (tOp (rI0 fun i j => .int (i - j)) ta tb) (wBin bSub t u) := e_bin op_sub snd_bSub ha hb
theorem e_mul (ha : SE X a ta t) (hb : SE X b tb u) : SE X (.BinOp a .Mult b pos) (tOp rMulD ta tb) (wBin bMul t u) := e_bin op_mulD snd_bMul ha hb
theorem e_div (ha : SE X a ta t) (hb : SE X b tb u) : SE X (.BinOp a .FloorDiv b pos) (tOp (rI CDivN fun i j => .int (i.fdiv j)) ta tb) (wBin bDiv t u) := e_bin op_fdivN snd_bDiv ha hb
theorem e_mod (ha : SE X a ta t) (hb : SE X b tb u) : SE X (.BinOp a .Mod b pos) (tOp (rI (fun _ j => j ≠ 0) fun i j => .int (i.fmod j)) ta tb) (wBin bMod t u) := e_bin op_modN snd_bMod ha hb
theorem e_pow (ha : SE X a ta t) (hb : SE X b tb u) : SE X (.BinOp a .Pow b pos) (tOp (rI CPow fun i j => .int (i ^ j.toNat)) ta tb) (wBin bPow t u) := e_bin op_pow snd_bPow ha hb
theorem e_neg (ha : SE X a ta t) : SE X (.UnaryOp .USub a pos) (tUn (rU fun i => .int (-i)) ta) (wUn uNeg t) := ⟨pe_un un_neg ha.pe, snd_un snd_uNeg ha.snd⟩
theorem e_cmp {op : CmpOp} {r : R2} {f : D → D → Oz} (ho : OpR X (compareOp op) r) (hs : OpS X.K r f) (ha : SE X a ta t) (hb : SE X b tb u) (hm : behindInMarks op b = false) : SE X (.Compare a [op] [b] pos) (tOp r ta tb) (wBin f t u) := ⟨pe_cmpR ho ha.pe hb.pe hm, snd_op hs ha.snd hb.snd⟩
theorem t_cmp {op : CmpOp} {r : R2} {f : D → D → Oz} (ho : OpR X (compareOp op) r) (hs : OpS X.K r f) (ha : SE X a ta t) (hb : SE X b tb u) (hm : behindInMarks op b = false) : ST X (.Compare a [op] [b] pos) (tTest (tOp r ta tb)) (wTest (wBin f t u)) := ⟨pt_cmpR ho ha.pe hb.pe hm, snd_test (snd_op hs ha.snd hb.snd)⟩
theorem e_chain {op op' : CmpOp} {r r' : R2} {f g : D → D → Oz} (ho : OpR X (compareOp op) r) (hs : OpS X.K r f) (ho' : OpR X (compareOp op') r') (hs' : OpS X.K r' g) (ha : SE X a ta t) (hb : SE X b tb u) (hc : SE X c tc w) (hm : lastMarks [op, op'] [b, c] = false := by with_unfolding_all rfl) :
    SE X (.Compare a [op, op'] [b, c] pos) (tChain r r' ta tb tc) (wChain f g t u w) := ⟨pe_chain ho ho' ha.pe hb.pe hc.pe hm, snd_chain hs hs' ha.snd hb.snd hc.snd⟩
theorem t_chain {op op' : CmpOp} {r r' : R2} {f g : D → D → Oz} (ho : OpR X (compareOp op) r) (hs : OpS X.K r f) (ho' : OpR X (compareOp op') r') (hs' : OpS X.K r' g) (ha : SE X a ta t) (hb : SE X b tb u) (hc : SE X c tc w) (hm : lastMarks [op, op'] [b, c] = false := by with_unfolding_all rfl) :
    ST X (.Compare a [op, op'] [b, c] pos) (tTest (tChain r r' ta tb tc)) (wTest (wChain f g t u w)) := ⟨pt_chain ho ho' ha.pe hb.pe hc.pe hm, snd_test (snd_chain hs hs' ha.snd hb.snd hc.snd)⟩
theorem t_val (h : SE X e te t) (he : ∀ whole, isTrue e X.env whole = (do let v ← whole; standAt e.pos; holding [v] (truthy v)) := by intro _; rfl) : ST X e (tB te) (wTest t) := ⟨pt_val h.pe he, snd_testB h.snd⟩
theorem t_not (h : ST X a tt p) : ST X (.UnaryOp .Not a pos) (tNot tt) (wNot p) := ⟨pt_not h.pt, snd_not h.snd⟩
theorem t_pw (h : SW X e tt p) : ST X e tt p := ⟨h.pw.pt, h.snd⟩
theorem t_and1 (h : ST X a tt p) : SW X (.BoolOp .And [a] pos) tt p := ⟨pw_and1 h.pt, h.snd⟩
theorem t_or1 (h : ST X a tt p) : SW X (.BoolOp .Or [a] pos) tt p := ⟨pw_or1 h.pt, h.snd⟩
theorem t_and (ha : ST X a tt p) (hb : SW X (.BoolOp .And (b :: es) pos) tu q) : SW X (.BoolOp .And (a :: b :: es) pos) (tAnd tt tu) (wAnd p q) := ⟨pw_and ha.pt hb.pw, snd_and ha.snd hb.snd⟩
theorem t_or (ha : ST X a tt p) (hb : SW X (.BoolOp .Or (b :: es) pos) tu q) : SW X (.BoolOp .Or (a :: b :: es) pos) (tOr tt tu) (wOr p q) := ⟨pw_or ha.pt hb.pw, snd_or ha.snd hb.snd⟩
theorem e_one {op} (h : SE X a ta t) : SE X (.BoolOp op [a] pos) ta t := ⟨pe_one h.pe, h.snd⟩
theorem e_andV (ha : SE X a ta t) (hb : SE X (.BoolOp .And (b :: es) pos) tb u) : SE X (.BoolOp .And (a :: b :: es) pos) (tAndV ta tb) (wAndV t u) := ⟨pe_and ha.pe hb.pe, snd_andV ha.snd hb.snd⟩
theorem e_orV (ha : SE X a ta t) (hb : SE X (.BoolOp .Or (b :: es) pos) tb u) : SE X (.BoolOp .Or (a :: b :: es) pos) (tOrV ta tb) (wOrV t u) := ⟨pe_or ha.pe hb.pe, snd_orV ha.snd hb.snd⟩
theorem e_notV (ha : SE X a ta t) : SE X (.UnaryOp .Not a pos) (tNotV ta) (wNotV t) := ⟨pe_not ha.pe, snd_notV ha.snd⟩
theorem e_ifE (hc : ST X c tt p) (ha : SE X a ta t) (hb : SE X b tb u) : SE X (.IfExp c a b pos) (tIf tt ta tb) (wIfE p t u) := ⟨pe_ifExp hc.pt ha.pe hb.pe, snd_ifE hc.snd ha.snd hb.snd⟩

/-! arguments -/
section
variable {xa : TA} {x : WA} {y : WX} {z : WN}
theorem o_nil : SO X [] tNil wNil := ⟨pa_nil, sndO_nil⟩
theorem o_cons (ha : SE X e te t) (hr : SO X es xa x) (hs : starEach (e :: es) X.env = (false, eval e X.env) :: starEach es X.env := by rfl) : SO X (e :: es) (tCons te xa) (wCons t x) := ⟨pa_cons ha.pe hr.pa hs, sndO_cons ha.snd hr.snd⟩
theorem a_nil : SA X [] tNil wNil := ⟨pa_nil, sndA_nil⟩
theorem a_cons (ha : SE X e te t) (hr : SA X es xa x) (hs : starEach (e :: es) X.env = (false, eval e X.env) :: starEach es X.env := by rfl) : SA X (e :: es) (tCons te xa) (wConsF t x) := ⟨pa_cons ha.pe hr.pa hs, sndA_cons ha.snd hr.snd⟩
theorem x_nil : SX X [] tNil xNil := ⟨pa_nil, sndX_nil⟩
theorem x_cons (ha : SE X e te t) (hr : SX X es xa y) (hs : starEach (e :: es) X.env = (false, eval e X.env) :: starEach es X.env := by rfl) : SX X (e :: es) (tCons te xa) (xCons t y) := ⟨pa_cons ha.pe hr.pa hs, sndX_cons ha.snd hr.snd⟩
theorem x_w (i : Nat) {n : Str} {pos : Pos} (hr : SX X es xa y) (hN : X.N[i]? = some n := by rfl) (hv : Vis X.env.scope n := by first | exact Or.inl rfl | exact Or.inr (Or.inl rfl) | exact Or.inr (Or.inr rfl)) (hd : (n == ("__debug__" : Str)) = false := by decide)
    (hcd : (n == ("__classdict__" : Str)) = false := by decide) (hs : starEach (.Name n pos :: es) X.env = (false, eval (.Name n pos) X.env) :: starEach es X.env := by rfl) : SX X (.Name n pos :: es) (tCons (tVar i) xa) (xW i y) := ⟨pa_cons (pe_var hN hv hd hcd) hr.pa hs, sndX_w hr.snd⟩
theorem n_nil : SN X [] tNil nNil := ⟨pa_nil, sndN_nil⟩
theorem n_cons (ha : SE X e te t) (hr : SN X es xa z) (hs : starEach (e :: es) X.env = (false, eval e X.env) :: starEach es X.env := by rfl) : SN X (e :: es) (tCons te xa) (nCons t z) := ⟨pa_cons ha.pe hr.pa hs, sndN_cons ha.snd hr.snd⟩
theorem e_tup {x1} (h : SA X es xa x) : SE X (.Tuple es x1 pos) (tTup xa) (wTup x) := ⟨pe_tup h.pa, snd_tup h.snd⟩
theorem e_lst (h : SA X es xa x) : SE X (.List es pos) (tLst xa) (wLst x) := ⟨pe_lst h.pa, snd_lst h.snd⟩
/-- a built-in function, a built-in type, by its rule -/
theorem e_callB {id : String} {n : Str} {r : List V → Hp → VK → Prop} {f : List D → Oz} {pp : Pos} (hc : CallR X (.builtin id) r) (hs : ClS X.K r f) (hm : X.mg n = none) (hv : bootBuiltins n = some (.builtin id)) (ha : SO X (e :: es) xa x) (hg : Gl X n := by rfl)
    (hn : n ≠ "__name__" := by decide) (hdb : (n == ("__debug__" : Str)) = false := by decide)
    (he : starEach (e :: es) X.env = (false, eval e X.env) :: starEach es X.env := by rfl) (hpl : (backTo pos (starEach es X.env)).any (·.1) = false := by rfl) : SE X (.Call (.Name n pp) (e :: es) [] pos) (tCB r xa) (wCl f x) :=
  ⟨pe_callB hc hg hm hv ha.pa hn hdb he hpl, snd_cl hs ha.snd⟩
theorem e_callT {T : String} {n : Str} {r : List V → Hp → VK → Prop} {f : List D → Oz} {pp : Pos} (hc : CallR X (.type T) r) (hs : ClS X.K r f) (hm : X.mg n = none) (hv : bootBuiltins n = some (.type T)) (ha : SO X (e :: es) xa x) (hg : Gl X n := by rfl)
    (hn : n ≠ "__name__" := by decide) (hdb : (n == ("__debug__" : Str)) = false := by decide)
    (he : starEach (e :: es) X.env = (false, eval e X.env) :: starEach es X.env := by rfl) (hpl : (backTo pos (starEach es X.env)).any (·.1) = false := by rfl) : SE X (.Call (.Name n pp) (e :: es) [] pos) (tCB r xa) (wCl f x) :=
  ⟨pe_callTy hc hg hm hv ha.pa hn hdb he hpl, snd_cl hs ha.snd⟩
end
theorem e_ix (ha : SE X a ta t) (hb : SE X b tb u) (hs : PlainIx b := by intro _ _; rfl) : SE X (.Subscript a b pos) (tOp (rIx X.K) ta tb) (wBin bIx t u) := ⟨pe_ix ix_seq ha.pe hb.pe hs, snd_op snd_bIx ha.snd hb.snd⟩

/-! own defs -/
structure Df (K : PySem.W.Frag) (mg : Str → Option Value) (x : Str) (ps : List Str) (st : Stmt) where
  f : Addr
  fd : FuncData
  F : Fun K x x st f fd
  g : mg x = some (.ref f)
  b : Binds K fd ps []
abbrev OkF (P : Program) (w : World) (base : Heap) {K : PySem.W.Frag} {mg : Str → Option Value} {x : Str} {ps : List Str} {st : Stmt} (D : Df K mg x ps st) (k : Nat) (sp : FS) : Prop := FnOk P w K mg base CX0 k D.f D.fd ps (toSp K sp)
theorem e_call {x : Str} {ps : List Str} {st : Stmt} {k : Nat} {sp : FS} {xa : TA} {y : WX} {pp : Pos} {D : Df X.K X.mg x ps st} (F : OkF X.prog X.w X.base D k sp) (hr : Room k X.A) (ha : SX X (e :: es) xa y) (hg : Gl X x := by rfl) (hdb : (x == ("__debug__" : Str)) = false := by decide)
    (he : starEach (e :: es) X.env = (false, eval e X.env) :: starEach es X.env := by rfl) (hpl : (backTo pos (starEach es X.env)).any (·.1) = false := by rfl) : SE X (.Call (.Name x pp) (e :: es) [] pos) (tCall (toSp X.K sp) [] E0 xa) (wCall sp y) :=
  ⟨pe_call F hr hg D.g D.F.kp D.b .nil pass0 ha.pa hdb he hpl, snd_call ha.snd⟩

/-! targets, what is walked -/
theorem g_name (i : Nat) {x : Str} {pos : Pos} (hN : X.N.Nodup) (hi : X.N[i]? = some x := by rfl) (hx : Loc X.env.scope x := by first | exact Or.inl rfl | exact Or.inr rfl) (hf : X.fn x = true ∨ X.env.scope.names.lookup x = some .local := by first | exact .inl rfl | exact .inr rfl) : SG X (.Name x pos) (gName i) (wgName i) :=
  ⟨pg_name hN hi hx hf, sndG_name i⟩
theorem g_nil : SGs X [] gNil wgNil := ⟨pgs_nil, sndG_nil⟩
theorem g_cons {tg : TG} {tu : TGs} {g : WG} {u : WGs} (h1 : SG X e tg g) (h2 : SGs X es tu u) (hs : (assignEach (e :: es) X.env).map (·.2) = assign e X.env :: (assignEach es X.env).map (·.2) := by rfl) : SGs X (e :: es) (gCons tg tu) (wgCons g u) := ⟨pgs_cons h1.pg h2.pg hs, sndG_cons h1.snd h2.snd⟩
theorem g_tup {k : Nat} {tu : TGs} {u : WGs} {n : Nat} (hc : X.calm = true) (h : SGs X es tu u) (hn : (assignEach es X.env).length = n := by rfl) (hst : (assignEach es X.env).findIdx? (·.1) = none := by rfl) : SG X (.Tuple es k pos) (gTup X.K n tu) (wgTup n u) := ⟨pg_tup hc h.pg hn hst, sndG_tup h.snd⟩
theorem if_seq {tg : Expr} (h : SE X e te t) : SIF X tg e (iSeq X.K te) (wiF t) := ⟨pi_seq h.pe, sndIF_seq h.snd⟩
theorem io_seq {tg : Expr} (h : SE X e te t) : SIO X tg e (iSeq X.K te) (wiO t) := ⟨pi_seq h.pe, sndIO_seq h.snd⟩
section
variable {tg : Expr} {xa : TA} {x : WA} {pp : Pos}
theorem if_r1 (hm : X.mg "range" = none) (ha : SO X [a] xa x) (hg : Gl X "range" := by rfl) (hs : starEach [a] X.env = [(false, eval a X.env)] := by rfl) : SIF X tg (.Call (.Name "range" pp) [a] [] pos) (iRng1 xa) (wiR1 x) := ⟨pi_range1 hg hm ha.pa hs, sndIF_r1 ha.snd⟩
theorem io_r1 (hm : X.mg "range" = none) (ha : SO X [a] xa x) (hg : Gl X "range" := by rfl) (hs : starEach [a] X.env = [(false, eval a X.env)] := by rfl) : SIO X tg (.Call (.Name "range" pp) [a] [] pos) (iRng1 xa) (wiR1 x) := ⟨pi_range1 hg hm ha.pa hs, sndIO_r1 ha.snd⟩
theorem if_r2 (hm : X.mg "range" = none) (ha : SO X [a, b] xa x) (hg : Gl X "range" := by rfl) (hs : starEach [a, b] X.env = [(false, eval a X.env), (false, eval b X.env)] := by rfl) (hs2 : starEach [b] X.env = [(false, eval b X.env)] := by rfl) : SIF X tg (.Call (.Name "range" pp) [a, b] [] pos) (iRng2 xa) (wiR2 x) := ⟨pi_range2 hg hm ha.pa hs hs2, sndIF_r2 ha.snd⟩
theorem io_r2 (hm : X.mg "range" = none) (ha : SO X [a, b] xa x) (hg : Gl X "range" := by rfl) (hs : starEach [a, b] X.env = [(false, eval a X.env), (false, eval b X.env)] := by rfl) (hs2 : starEach [b] X.env = [(false, eval b X.env)] := by rfl) : SIO X tg (.Call (.Name "range" pp) [a, b] [] pos) (iRng2 xa) (wiR2 x) := ⟨pi_range2 hg hm ha.pa hs hs2, sndIO_r2 ha.snd⟩
end

/-! comprehensions -/
structure STs (X : Cx) (ifs : List Expr) (te : TT) (t : WT) : Prop where
  pt : PTs X ifs te
  snd : SndT X.K te t
theorem ts_nil : STs X [] tYes wYes := ⟨pts_nil, snd_yes⟩
theorem ts_one (h : ST X c tt p) : STs X [c] tt p := ⟨pts_one h.pt, h.snd⟩
abbrev P5 (T : Type) := Shared → Hp → Addr → List (Str × Addr) → List Addr → T
def one5 (X : Cx) {T : Type} (f : P5 T) : T := f (PySem.start X.prog).1 (fun _ => none) 0 [] []
section
variable {elt tg iter : Expr} {ifs : List Expr} {scope : Scope} {wi : TI} {i : WI} {tgt : P5 TG} {g : WG} {tt' : P5 TT} {te' : P5 TE}
theorem e_comp (own : List (Str × Nat)) (hN : X.N.Nodup) (hi : SIO X tg iter wi i) (ok : BlkOk X.N X.env.scope scope own)
    (hg : ∀ s H C cl fp, SG (X.blk s H scope (compEnvC scope cl C X.env) fp) tg (tgt s H C cl fp) g) (hin : TgIn (one5 X tgt) (own.map (·.2))) (ht : ∀ s H C cl fp, STs (X.blk s H scope (compEnvC scope cl C X.env) fp) ifs (tt' s H C cl fp) p) (he : ∀ s H C cl fp, SE (X.blk s H scope (compEnvC scope cl C X.env) fp) elt (te' s H C cl fp) t)
    (hc : X.calm = true := by rfl) (hs : ∀ x, foldedSetIterable iter X.env x = pure x := by intro _; rfl) (h1 : ∀ s H C cl fp, tgt s H C cl fp = one5 X tgt := by intro _ _ _ _ _; rfl) (h2 : ∀ s H C cl fp, tt' s H C cl fp = one5 X tt' := by intro _ _ _ _ _; rfl) (h3 : ∀ s H C cl fp, te' s H C cl fp = one5 X te' := by intro _ _ _ _ _; rfl) :
    SE X (.ListComp elt [⟨tg, iter, ifs, 0⟩] scope pos) (tLc wi (one5 X tgt) (one5 X tt') (one5 X te') (own.map (·.2))) (wComp i g p t (own.map (·.2))) := by
  refine ⟨pe_lc hc hN hi.pi ok (fun s H C cl fp => h1 s H C cl fp ▸ (hg s H C cl fp).pg) (fun s H C cl fp => h2 s H C cl fp ▸ (ht s H C cl fp).pt) (fun s H C cl fp => h3 s H C cl fp ▸ (he s H C cl fp).pe) hs, snd_comp hi.snd ?_ hin ?_ ?_⟩
  · exact (hg (PySem.start X.prog).1 (fun _ => none) 0 [] []).snd
  · exact (ht (PySem.start X.prog).1 (fun _ => none) 0 [] []).snd
  · exact (he (PySem.start X.prog).1 (fun _ => none) 0 [] []).snd
theorem s_comp {j : Nat} {y : Str} {py : Pos} {spos : Pos} (own : List (Str × Nat)) (hN : X.N.Nodup) (hi : SIO X tg iter wi i) (ok : BlkOk X.N X.env.scope scope own)
    (hg : ∀ s H C cl fp, SG (X.blk s H scope (compEnvC scope cl C X.env) fp) tg (tgt s H C cl fp) g) (hin : TgIn (one5 X tgt) (own.map (·.2))) (ht : ∀ s H C cl fp, STs (X.blk s H scope (compEnvC scope cl C X.env) fp) ifs (tt' s H C cl fp) p) (he : ∀ s H C cl fp, SE (X.blk s H scope (compEnvC scope cl C X.env) fp) elt (te' s H C cl fp) t)
    (hy : X.N[j]? = some y := by rfl) (hyl : X.env.scope.names.lookup y = some .local := by rfl)
    (hsw : swapsWith (.ListComp elt [⟨tg, iter, ifs, 0⟩] scope pos) (some (.Name y py)) spos.line X.env = pure true := by exact sw_true rfl rfl rfl (by decide +kernel))
    (hc : X.calm = true := by rfl) (hs : ∀ x, foldedSetIterable iter X.env x = pure x := by intro _; rfl) (h1 : ∀ s H C cl fp, tgt s H C cl fp = one5 X tgt := by intro _ _ _ _ _; rfl) (h2 : ∀ s H C cl fp, tt' s H C cl fp = one5 X tt' := by intro _ _ _ _ _; rfl) (h3 : ∀ s H C cl fp, te' s H C cl fp = one5 X te' := by intro _ _ _ _ _; rfl) :
    SS X (.Assign [.Name y py] (.ListComp elt [⟨tg, iter, ifs, 0⟩] scope pos) spos) (tAsg (tLc wi (one5 X tgt) (one5 X tt') (one5 X te') (own.map (·.2))) (gName j)) (wAsg j (wComp i g p t (own.map (·.2)))) := by
  refine ⟨ps_setLc hc hN hy hyl hsw hi.pi ok (fun s H C cl fp => h1 s H C cl fp ▸ (hg s H C cl fp).pg) (fun s H C cl fp => h2 s H C cl fp ▸ (ht s H C cl fp).pt) (fun s H C cl fp => h3 s H C cl fp ▸ (he s H C cl fp).pe) hs, snd_asg (snd_comp hi.snd ?_ hin ?_ ?_)⟩
  · exact (hg (PySem.start X.prog).1 (fun _ => none) 0 [] []).snd
  · exact (ht (PySem.start X.prog).1 (fun _ => none) 0 [] []).snd
  · exact (he (PySem.start X.prog).1 (fun _ => none) 0 [] []).snd
end

/-! statements -/
theorem b_nil : SB X [] tNext wNext := ⟨pss_nil, snd_next⟩
theorem b_one (h : SS X st ts r) : SB X [st] ts r := ⟨pss_one h.ps, h.snd⟩
theorem b_cons (h : SS X st ts r) (k : SB X sts us s) : SB X (st :: sts) (tSeq ts us) (wSeq r s) := ⟨pss_cons h.ps k.ps, snd_seq h.snd k.snd⟩
theorem s_pass : SS X (.Pass pos) tNext wNext := ⟨ps_pass, snd_next⟩
theorem s_break : SS X (.Break pos) tBreak wBreak := ⟨ps_break, snd_break⟩
theorem s_cont : SS X (.Continue pos) tCont wCont := ⟨ps_continue, snd_cont⟩
theorem s_ret (h : SE X e te t) : SS X (.Return (some e) pos) (tRet te) (wRet t) := ⟨ps_ret h.pe, snd_ret h.snd⟩
theorem s_retN : SS X (.Return none pos) tRetN wRetN := ⟨ps_retN, snd_retN⟩
theorem s_if {x y : List Stmt} (hc : ST X c tt p) (ha : SB X x ts r) (hb : SB X y us s) : SS X (.If c x y pos) (tIfS tt ts us) (wIf p r s) := ⟨ps_if hc.pt ha.ps hb.ps, snd_if hc.snd ha.snd hb.snd⟩
theorem s_asg (i : Nat) {x : Str} {pos' : Pos} (hN : X.N.Nodup) (he : SE X e te t) (hi : X.N[i]? = some x := by rfl) (hx : Loc X.env.scope x := by first | exact Or.inl rfl | exact Or.inr rfl) (hs : swapsWith e (some (.Name x pos')) pos.line X.env = pure false := by rfl)
    (hf : X.fn x = true ∨ X.env.scope.names.lookup x = some .local := by first | exact .inl rfl | exact .inr rfl) : SS X (.Assign [.Name x pos'] e pos) (tAsg te (gName i)) (wAsg i t) := ⟨ps_set hN hi hx he.pe hs hf, snd_asg he.snd⟩
theorem s_asgT {tg : Expr} {tgt : TG} {g : WG} (he : SE X e te t) (hg : SG X tg tgt g) (hs : swapsWithSole [tg] e pos.line X.env = pure false := by rfl) (hw : swappedStores [tg] e X.env = pure none := by rfl)
    (h1 : (assignEach [tg] X.env).map (·.2) = [assign tg X.env] := by rfl) : SS X (.Assign [tg] e pos) (tAsg te tgt) (wAsgT g t) := ⟨ps_asg he.pe hg.pg hs hw h1, snd_asgT hg.snd he.snd⟩
theorem s_par2 (i j : Nat) {x y : Str} {px py pt : Pos} {kt k2 pt2} {ta : TA} {z : WN} (hN : X.N.Nodup) (ha : SN X [a, b] ta z) (hi : X.N[i]? = some x := by rfl) (hj : X.N[j]? = some y := by rfl) (hij : i ≠ j := by decide)
    (hx : X.env.scope.names.lookup x = some .local := by rfl) (hy : X.env.scope.names.lookup y = some .local := by rfl)
    (hw : swappedStores [.Tuple [.Name x px, .Name y py] kt pt] (.Tuple [a, b] k2 pt2) X.env = pure (some [x, y]) := by rfl)
    (hs : swapsWithSole [.Tuple [.Name x px, .Name y py] kt pt] (.Tuple [a, b] k2 pt2) pos.line X.env = pure false := by rfl) (hc : X.calm = true := by rfl) :
    SS X (.Assign [.Tuple [.Name x px, .Name y py] kt pt] (.Tuple [a, b] k2 pt2) pos) (tPar i j ta) (wPar [i, j] z) := ⟨ps_par hc hN hi hj hij hx hy ha.pa hw hs, snd_par2 ha.snd⟩
theorem s_par3 (i j l : Nat) {x y z : Str} {px py pz pt : Pos} {kt k2 pt2} {ta : TA} {zz : WN} (hN : X.N.Nodup) (ha : SN X [a, b, c] ta zz) (hi : X.N[i]? = some x := by rfl) (hj : X.N[j]? = some y := by rfl) (hl : X.N[l]? = some z := by rfl) (hij : i ≠ j := by decide) (hil : i ≠ l := by decide) (hjl : j ≠ l := by decide)
    (hx : X.env.scope.names.lookup x = some .local := by rfl) (hy : X.env.scope.names.lookup y = some .local := by rfl) (hz : X.env.scope.names.lookup z = some .local := by rfl)
    (hw : swappedStores [.Tuple [.Name x px, .Name y py, .Name z pz] kt pt] (.Tuple [a, b, c] k2 pt2) X.env = pure (some [x, y, z]) := by rfl)
    (hs : swapsWithSole [.Tuple [.Name x px, .Name y py, .Name z pz] kt pt] (.Tuple [a, b, c] k2 pt2) pos.line X.env = pure false := by rfl) (hc : X.calm = true := by rfl) :
    SS X (.Assign [.Tuple [.Name x px, .Name y py, .Name z pz] kt pt] (.Tuple [a, b, c] k2 pt2) pos) (tPar3 i j l ta) (wPar [i, j, l] zz) := ⟨ps_par3 hc hN hi hj hl hij hil hjl hx hy hz ha.pa hw hs, snd_par3 ha.snd⟩
/-- .. of names one of which a comprehension reads -/
theorem s_parT {tg : Expr} {k2 pt2} {ta : TA} {z : WN} {n : Nat} (is : List Nat) (ha : SN X es ta z) (hg : PG X tg (gTup X.K n (gNames is))) (hn : is.length = n := by rfl) (hm : n ≤ 1000 := by decide) (hs : swapsWithSole [tg] (.Tuple es k2 pt2) pos.line X.env = pure false := by rfl) (hw : swappedStores [tg] (.Tuple es k2 pt2) X.env = pure none := by rfl)
    (h1 : (assignEach [tg] X.env).map (·.2) = [assign tg X.env] := by rfl) : SS X (.Assign [tg] (.Tuple es k2 pt2) pos) (tAsg (tTup ta) (gTup X.K n (gNames is))) (wPar is z) := ⟨ps_asg (pe_tup ha.pa) hg hs hw h1, snd_parT hn hm ha.snd⟩
def bAddI : D → D → Oz
  | .int i, .int j => ozI (i + j)
  | _, _ => none
def wAugI (i : Nat) (t : WE) : WS := wAug i bAddI t
theorem s_augA (i : Nat) {x : Str} {pos' : Pos} (hN : X.N.Nodup) (he : SE X e te t) (hi : X.N[i]? = some x := by rfl) (hx : Loc X.env.scope x := by first | exact Or.inl rfl | exact Or.inr rfl) (hf : X.fn x = true ∨ X.env.scope.names.lookup x = some .local := by first | exact .inl rfl | exact .inr rfl) :
    SS X (.AugAssign (.Name x pos') .Add e pos) (tAug i te (ipI fun i j => i + j)) (wAugI i t) :=
  ⟨ps_aug hN hi hx he.pe ip_add hf, snd_aug (r := ipI fun i j => i + j) (fun G B H v u d e z k R g g2 o1 o2 hf r => by
    unfold bAddI at hf
    split at hf
    · obtain rfl := ov_int o1
      obtain rfl := ov_int o2
      exact ⟨_, _, rfl, rfl, res_int hf r⟩
    · cases hf) he.snd⟩
theorem s_augS (i : Nat) {x : Str} {pos' : Pos} (hN : X.N.Nodup) (he : SE X e te t) (hi : X.N[i]? = some x := by rfl) (hx : Loc X.env.scope x := by first | exact Or.inl rfl | exact Or.inr rfl) (hf : X.fn x = true ∨ X.env.scope.names.lookup x = some .local := by first | exact .inl rfl | exact .inr rfl) :
    SS X (.AugAssign (.Name x pos') .Sub e pos) (tAug i te (ipI fun i j => i - j)) (wAug i bSub t) :=
  ⟨ps_aug hN hi hx he.pe ip_sub hf, snd_aug (r := ipI fun i j => i - j) (fun G B H v u d e z k R g g2 o1 o2 hf r => by
    unfold bSub at hf
    split at hf
    · obtain rfl := ov_int o1
      obtain rfl := ov_int o2
      exact ⟨_, _, rfl, rfl, res_int hf r⟩
    · cases hf) he.snd⟩
theorem s_expr (he : SE X e te t) (hs : swapsWith e none pos.line X.env = pure false := by rfl) : SS X (.Expr e pos) (tDrop te) (wDrop t) := ⟨ps_expr he.pe hs, snd_drop he.snd⟩
theorem s_for {tg iter : Expr} {wi : TI} {i : WI} {tgt : TG} {g : WG} (hi : SIF X tg iter wi i) (hg : SG X tg tgt g) (hb : SB X sts ts r) (hp : PassesOwn (model X.prog X.w) X.A X.env X.xe := by exact PassesOwn.never) (hc : X.calm = true := by rfl) (hs : ∀ x, foldedSetIterable iter X.env x = pure x := by intro _; rfl) :
    SS X (.For tg iter sts [] pos) (tFor wi tgt ts) (wFor i g r) := ⟨ps_for hp hc hi.pi hg.pg hb.ps hs, snd_for hi.snd hg.snd hb.snd⟩
theorem s_while (hc : ST X c tt p) (hb : SB X sts ts r) (hp : PassesOwn (model X.prog X.w) X.A X.env X.xe := by exact PassesOwn.never) : SS X (.While c sts [] pos) (tWhile tt ts) (wWhile p r) := ⟨ps_while hp hc.pt hb.ps, snd_while hc.snd hb.snd⟩
section
variable {n : Str} {np ap cp : Pos}
theorem s_append (i : Nat) (he : SE X e te t) (hN : X.N[i]? = some n := by rfl) (hv : Vis X.env.scope n := by first | exact Or.inl rfl | exact Or.inr (Or.inl rfl) | exact Or.inr (Or.inr rfl)) (hd : (n == ("__debug__" : Str)) = false := by decide) (hcd : (n == ("__classdict__" : Str)) = false := by decide)
    (hse : starEach [e] X.env = [(false, eval e X.env)] := by rfl)
    (hbase : attributeBase (.Name n np) "append" X.env (eval (.Name n np) X.env) = eval (.Name n np) X.env := by rfl)
    (hfew : ((backTo cp (starEach [e] X.env)).all (fun x => !x.1) && (backToKw cp (keywordEach [] X.env)).all (fun x => x.1.isSome) && decide ([e].length + ([] : List Keyword).length + (if ([] : List Keyword).isEmpty then 0 else 1) < 30)) = true := by rfl)
    (hline : (ap.endLine == cp.line) = true := by rfl) (hplain : (backTo cp (starEach [] X.env)).any (·.1) = false := by rfl)
    (hs : swapsWith (.Call (.Attribute (.Name n np) "append" ap) [e] [] cp) none pos.line X.env = pure false := by rfl) :
    SS X (.Expr (.Call (.Attribute (.Name n np) "append" ap) [e] [] cp) pos) (tDrop (tBM X.K "list" rAppend (tVar i) (tCons te tNil))) (wMut i t fAppend) :=
  ⟨ps_expr (pe_bm PySem.F.plainAttrs_list PySem.F.slot_list_append PySem.F.type_list_append mt_append (pe_var hN hv hd hcd) (pa_cons he.pe pa_nil hse) hbase hfew hline hse hplain) hs, snd_append he.snd⟩
theorem s_extend (i : Nat) (he : SE X e te t) (hN : X.N[i]? = some n := by rfl) (hv : Vis X.env.scope n := by first | exact Or.inl rfl | exact Or.inr (Or.inl rfl) | exact Or.inr (Or.inr rfl)) (hd : (n == ("__debug__" : Str)) = false := by decide) (hcd : (n == ("__classdict__" : Str)) = false := by decide)
    (hse : starEach [e] X.env = [(false, eval e X.env)] := by rfl)
    (hbase : attributeBase (.Name n np) "extend" X.env (eval (.Name n np) X.env) = eval (.Name n np) X.env := by rfl)
    (hfew : ((backTo cp (starEach [e] X.env)).all (fun x => !x.1) && (backToKw cp (keywordEach [] X.env)).all (fun x => x.1.isSome) && decide ([e].length + ([] : List Keyword).length + (if ([] : List Keyword).isEmpty then 0 else 1) < 30)) = true := by rfl)
    (hline : (ap.endLine == cp.line) = true := by rfl) (hplain : (backTo cp (starEach [] X.env)).any (·.1) = false := by rfl)
    (hs : swapsWith (.Call (.Attribute (.Name n np) "extend" ap) [e] [] cp) none pos.line X.env = pure false := by rfl) :
    SS X (.Expr (.Call (.Attribute (.Name n np) "extend" ap) [e] [] cp) pos) (tDrop (tBM X.K "list" rExtend (tVar i) (tCons te tNil))) (wExtend i t) :=
  ⟨ps_expr (pe_bm PySem.F.plainAttrs_list PySem.F.slot_list_extend PySem.F.type_list_extend mt_extend (pe_var hN hv hd hcd) (pa_cons he.pe pa_nil hse) hbase hfew hline hse hplain) hs, snd_extend he.snd⟩
end
end
end VL

namespace VL
open PySem PySem.Spec PyProof.Rows L2
open Evl (Ex)
variable {K : PySem.W.Frag}

/-! ### keys -/
def keyOf : D → Option Key
  | .int i => some (.inl i)
  | .str s => some (.inr s)
  | _ => none
def keysOf : List D → Option (List Key)
  | [] => some []
  | d :: r => match keyOf d, keysOf r with
    | some k, some ks => some (k :: ks)
    | _, _ => none
theorem key_v {G : Hp} {v : V} {d : D} {k : Key} (h : Rp K G v d) (e : keyOf d = some k) : v = kV k := by
  cases h <;> first | (cases e; rfl) | cases e
theorem keys_v {G : Hp} : ∀ {vs : List V} {ds : List D} {ks : List Key}, RpL K G vs ds → keysOf ds = some ks → vs = ks.map kV
  | _, _, _, .nil, e => by cases e; rfl
  | _, _, _, .cons (d := d) (ds := ds) h r, e => by
    unfold keysOf at e
    cases h1 : keyOf d with
    | none => rw [h1] at e; cases e
    | some k =>
      cases h2 : keysOf ds with
      | none => rw [h1, h2] at e; cases e
      | some ks =>
        rw [h1, h2] at e; cases e
        rw [key_v h h1, keys_v r h2]; rfl
section
variable {κ : Type} [DecidableEq κ]
def valD (es : List (κ × D)) (k : κ) : Option D := (es.find? fun kv => decide (kv.1 = k)).map (·.2)
def putD (es : List (κ × D)) (k : κ) (v : D) : List (κ × D) :=
  if (es.any fun kv => decide (kv.1 = k)) = true then es.map (fun kv => if kv.1 = k then (kv.1, v) else kv) else es ++ [(k, v)]
end
def RpO (K : PySem.W.Frag) (G : Hp) : Option V → Option D → Prop
  | some v, some d => Rp K G v d
  | none, none => True
  | _, _ => False
theorem RpK.val {G : Hp} (k : Key) : ∀ {vs : List (Key × V)} {ds : List (Key × D)}, RpK K G vs ds → RpO K G (valV vs k) (valD ds k)
  | _, _, .nil => trivial
  | _, _, .cons (k := j) (vs := vs) (ds := ds) h r => by
    have ih := RpK.val k r
    unfold valV valD at ih ⊢
    rw [List.find?_cons, List.find?_cons]
    by_cases e : j = k
    · simp only [e, decide_true]; exact h
    · simp only [e, decide_false]; exact ih
theorem RpT.val {G : Hp} (k : List Key) : ∀ {vs : List (List Key × V)} {ds : List (List Key × D)}, RpT K G vs ds → RpO K G (valV vs k) (valD ds k)
  | _, _, .nil => trivial
  | _, _, .cons (k := j) (vs := vs) (ds := ds) h r => by
    have ih := RpT.val k r
    unfold valV valD at ih ⊢
    rw [List.find?_cons, List.find?_cons]
    by_cases e : j = k
    · simp only [e, decide_true]; exact h
    · simp only [e, decide_false]; exact ih
theorem RpK.any {G : Hp} (k : Key) : ∀ {vs : List (Key × V)} {ds : List (Key × D)}, RpK K G vs ds → (vs.any fun kv => decide (kv.1 = k)) = ds.any fun kv => decide (kv.1 = k)
  | _, _, .nil => rfl
  | _, _, .cons h r => by rw [List.any_cons, List.any_cons, RpK.any k r]
theorem RpT.any {G : Hp} (k : List Key) : ∀ {vs : List (List Key × V)} {ds : List (List Key × D)}, RpT K G vs ds → (vs.any fun kv => decide (kv.1 = k)) = ds.any fun kv => decide (kv.1 = k)
  | _, _, .nil => rfl
  | _, _, .cons h r => by rw [List.any_cons, List.any_cons, RpT.any k r]
theorem RpK.mapK {G : Hp} {k : Key} {v : V} {d : D} (h : Rp K G v d) : ∀ {vs : List (Key × V)} {ds : List (Key × D)}, RpK K G vs ds → RpK K G (vs.map fun kv => if kv.1 = k then (kv.1, v) else kv) (ds.map fun kv => if kv.1 = k then (kv.1, d) else kv)
  | _, _, .nil => .nil
  | _, _, .cons (k := j) a r => by
    rw [List.map_cons, List.map_cons]
    by_cases e : j = k
    · rw [if_pos e, if_pos e]; exact .cons h (RpK.mapK h r)
    · rw [if_neg e, if_neg e]; exact .cons a (RpK.mapK h r)
theorem RpT.mapK {G : Hp} {k : List Key} {v : V} {d : D} (h : Rp K G v d) : ∀ {vs : List (List Key × V)} {ds : List (List Key × D)}, RpT K G vs ds → RpT K G (vs.map fun kv => if kv.1 = k then (kv.1, v) else kv) (ds.map fun kv => if kv.1 = k then (kv.1, d) else kv)
  | _, _, .nil => .nil
  | _, _, .cons (k := j) a r => by
    rw [List.map_cons, List.map_cons]
    by_cases e : j = k
    · rw [if_pos e, if_pos e]; exact .cons h (RpT.mapK h r)
    · rw [if_neg e, if_neg e]; exact .cons a (RpT.mapK h r)
theorem RpK.app {G : Hp} : ∀ {vs us : List (Key × V)} {ds es : List (Key × D)}, RpK K G vs ds → RpK K G us es → RpK K G (vs ++ us) (ds ++ es)
  | _, _, _, _, .nil, h => h
  | _, _, _, _, .cons a r, h => .cons a (RpK.app r h)
theorem RpT.app {G : Hp} : ∀ {vs us : List (List Key × V)} {ds es : List (List Key × D)}, RpT K G vs ds → RpT K G us es → RpT K G (vs ++ us) (ds ++ es)
  | _, _, _, _, .nil, h => h
  | _, _, _, _, .cons a r, h => .cons a (RpT.app r h)
theorem RpT.length {G : Hp} : ∀ {vs : List (List Key × V)} {ds : List (List Key × D)}, RpT K G vs ds → vs.length = ds.length
  | _, _, .nil => rfl
  | _, _, .cons _ r => by rw [List.length_cons, List.length_cons, RpT.length r]
theorem RpK.put {G : Hp} {k : Key} {v : V} {d : D} (h : Rp K G v d) {vs : List (Key × V)} {ds : List (Key × D)} (r : RpK K G vs ds) : RpK K G (putK vs k v) (putD ds k d) := by
  unfold putK putD
  rw [r.any k]
  split
  · exact r.mapK h
  · exact r.app (.cons h .nil)
theorem RpT.put {G : Hp} {k : List Key} {v : V} {d : D} (h : Rp K G v d) {vs : List (List Key × V)} {ds : List (List Key × D)} (r : RpT K G vs ds) : RpT K G (putK vs k v) (putD ds k d) := by
  unfold putK putD
  rw [r.any k]
  split
  · exact r.mapK h
  · exact r.app (.cons h .nil)
/-- what a dict answers: none: not a dict, or no key of it -/
def getD2 (d k : D) : Option (Option D) := match d with
  | .dk es => (keyOf k).map fun k => valD es k
  | .dt es => match k with
    | .tup ks => (keysOf ks).map fun k => valD es k
    | _ => none
  | _ => none
theorem getD2_ok {G B H : Hp} {v u : V} {d k : D} {o : Option D} (g : Ex G B) (g2 : Ex B H) (o1 : Ov K G B v d) (o2 : Ov K G B u k) (h : getD2 d k = some o) : ∃ a ov, v = .ref a ∧ DGet H a u ov ∧ RpO K G ov o := by
  unfold getD2 at h
  split at h
  · rename_i es
    obtain ⟨a, kvs, rfl, t, r⟩ := o1
    cases hk : keyOf k with
    | none => rw [hk] at h; cases h
    | some key =>
      rw [hk] at h; cases h
      have : u = kV key := by
        cases k with
        | int i => obtain rfl := ov_int o2; cases hk; rfl
        | str i => obtain rfl := ov_str o2; cases hk; rfl
        | _ => cases hk
      subst this
      exact ⟨a, _, rfl, .inl ⟨kvs, key, rd_mono g2 t, rfl, rfl⟩, r.val key⟩
  · rename_i es
    obtain ⟨a, kvs, rfl, t, r⟩ := o1
    split at h
    · rename_i ks
      cases hk : keysOf ks with
      | none => rw [hk] at h; cases h
      | some keys =>
        rw [hk] at h; cases h
        cases (show Rp K G u (.tup ks) from o2) with
        | @tup b vs _ tb rb =>
          have e := keys_v rb hk
          subst e
          exact ⟨a, _, rfl, .inr ⟨kvs, keys, b, .inl (g2 _ _ t), rfl, g2 _ _ (g _ _ tb), rfl⟩, r.val keys⟩
    · cases h
  · cases h

/-! ### d[k], k in d -/
section
variable {X : Cx}
def rIxD : R2 := fun x y H Q => ∃ a v, x = .ref a ∧ DGet H a y (some v) ∧ Q v H
theorem ix_dict (hu : X.A.units + 1 < cLine) : IxR X rIxD := by
  intro value slice pins s σ H x y v u Q I rx ry h hs
  obtain ⟨a, z, rfl, g, q⟩ := h
  obtain rfl : v = Value.ref a := rx
  have hT := dict_typeIs I g
  unfold subscriptTail
  refine wpAny_bind ?_
  rw [getitemInPython_of_ne hT.not_modules]
  refine wpAny_bind (wpAny_specialOf hT PySem.F.slot_dict_getitem.lookup ?_)
  have fin : wpAny (model X.prog X.w) X.A (subscripted slice false (.ref a) u) (fun r s₃ => wpAny (model X.prog X.w) X.A (letTemporaryGo value (.ref a) r >>= fun _ => pure r) (EP X pins σ Q) X.xe s₃) X.xe s := by
    rw [hs]
    exact wpAny_operating (d_getItem hu I g ry fun w' s3 I3 rw' => wpAny_bind (wpAny_letTemporaryGo (wpAny_pure ⟨z, H, I3, rw', q⟩)))
  first
    | exact wpAny_pure (wpAny_bind fin)
    | exact wpAny_bind (wpAny_pure (wpAny_bind fin))
    | exact wpAny_bind fin
def rSubs (K : PySem.W.Frag) : R2 := fun x y H Q => rIx K x y H Q ∨ rIxD x y H Q
theorem ix_all (hu : X.A.units + 1 < cLine) : IxR X (rSubs X.K) := ix_seq.or (ix_dict hu)
def bSubs (d k : D) : Oz := match getD2 d k with
  | some (some z) => some (z, .fz)
  | some none => none
  | none => bIx d k
theorem snd_bSubs : OpS K (rSubs K) bSubs := fun G B H v u d e z k R g g2 o1 o2 hf r => by
  unfold bSubs at hf
  split at hf
  · rename_i z' hz
    cases hf
    obtain ⟨a, ov, rfl, dg, ro⟩ := getD2_ok g g2 o1 o2 hz
    cases ov with
    | none => exact ro.elim
    | some x => exact .inr ⟨a, x, rfl, dg, r.val _ rfl ro⟩
  · cases hf
  · exact .inl (snd_bIx G B H v u d e z k R g g2 o1 o2 hf r)
/-- x in .. -/
def rInT (K : PySem.W.Frag) : R2 := fun x y H Q => ∃ d ds, Dp K H x d ∧ Dp K H y (.tuple ds) ∧ SeqAt.shaped d = true ∧ SeqAt.shaped (.tuple ds) = true ∧ Q (.bl (ds.any fun z => PyData.eqv z d)) H
def rNotInT (K : PySem.W.Frag) : R2 := fun x y H Q => ∃ d ds, Dp K H x d ∧ Dp K H y (.tuple ds) ∧ SeqAt.shaped d = true ∧ SeqAt.shaped (.tuple ds) = true ∧ Q (.bl (!ds.any fun z => PyData.eqv z d)) H
theorem op_inT (hu : X.A.units + 65 < cLine) : OpR X (compareOp .In) (rInT X.K) := by
  intro pins s σ H x y v u Q I rx ry h
  obtain ⟨d, ds, hd, he, sd, se, q⟩ := h
  obtain ⟨as, r1⟩ := Dp.reads I d x v hd rx
  obtain ⟨bs, r2⟩ := Dp.reads I (.tuple ds) y u he ry
  exact SeqAt.in_tuple_reads r2 r1 (SeqAt.canLay_of_shaped se) (SeqAt.canLay_of_shaped sd) (room_in_shaped sd hu) ⟨.bl _, H, I, rfl, q⟩
theorem op_notInT (hu : X.A.units + 65 < cLine) : OpR X (compareOp .NotIn) (rNotInT X.K) := by
  intro pins s σ H x y v u Q I rx ry h
  obtain ⟨d, ds, hd, he, sd, se, q⟩ := h
  obtain ⟨as, r1⟩ := Dp.reads I d x v hd rx
  obtain ⟨bs, r2⟩ := Dp.reads I (.tuple ds) y u he ry
  exact SeqAt.notIn_tuple_reads r2 r1 (SeqAt.canLay_of_shaped se) (SeqAt.canLay_of_shaped sd) (room_in_shaped sd hu) ⟨.bl _, H, I, rfl, q⟩
def rInK : R2 := fun y x H Q => ∃ a o, x = .ref a ∧ DGet H a y o ∧ Q (.bl o.isSome) H
def rNotInK : R2 := fun y x H Q => ∃ a o, x = .ref a ∧ DGet H a y o ∧ Q (.bl (!o.isSome)) H
theorem op_inK (hu : X.A.units + 1 < cLine) : OpR X (compareOp .In) rInK := by
  intro pins s σ H x y v u Q I rx ry h
  obtain ⟨a, o, rfl, g, q⟩ := h
  obtain rfl : u = Value.ref a := ry
  exact d_in hu I g rx fun s3 I3 => ⟨.bl o.isSome, H, I3, rfl, q⟩
theorem op_notInK (hu : X.A.units + 1 < cLine) : OpR X (compareOp .NotIn) rNotInK := by
  intro pins s σ H x y v u Q I rx ry h
  obtain ⟨a, o, rfl, g, q⟩ := h
  obtain rfl : u = Value.ref a := ry
  exact d_notIn hu I g rx fun s3 I3 => ⟨.bl (!o.isSome), H, I3, rfl, q⟩
def rInAll (K : PySem.W.Frag) : R2 := fun x y H Q => rInD K x y H Q ∨ rInT K x y H Q ∨ rInK x y H Q ∨ ∃ (c : Nat) (z : Str), x = .str ⟨#[c]⟩ ∧ y = .str z ∧ Q (.bl (decide (c ∈ z.cps.toList))) H
def rNotInAll (K : PySem.W.Frag) : R2 := fun x y H Q => rNotInD K x y H Q ∨ rNotInT K x y H Q ∨ rNotInK x y H Q ∨ ∃ (c : Nat) (z : Str), x = .str ⟨#[c]⟩ ∧ y = .str z ∧ Q (.bl (!decide (c ∈ z.cps.toList))) H
theorem op_inAll (hu : X.A.units + 65 < cLine) : OpR X (compareOp .In) (rInAll X.K) := (op_inD hu).or ((op_inT hu).or ((op_inK (by omega)).or op_in_sign))
theorem op_notInAll (hu : X.A.units + 65 < cLine) : OpR X (compareOp .NotIn) (rNotInAll X.K) := (op_notInD hu).or ((op_notInT hu).or ((op_notInK (by omega)).or op_notIn_sign))
/-- the answer of in -/
def inD (d e : D) : Option Bool := match e with
  | .lst ds => if okE 20 d = true ∧ okE 20 (.lst ds) = true then some (ds.any fun z => eqv z d) else none
  | .tup ds => if okE 20 d = true ∧ okE 20 (.tup ds) = true then some (ds.any fun z => eqv z d) else none
  | .ft ds => if okE 20 d = true ∧ okE 20 (.ft ds) = true then some (ds.any fun z => eqv z d) else none
  | .fl ds => if okE 20 d = true ∧ okE 20 (.fl ds) = true then some (ds.any fun z => eqv z d) else none
  | .str s => match d with
    | .str x => match x.cps.toList with
      | [c] => some (decide (c ∈ s.cps.toList))
      | _ => none
    | _ => none
  | e => (getD2 e d).map fun o => o.isSome
def bIn (d e : D) : Oz := (inD d e).bind fun c => ozB c
def bNotIn (d e : D) : Oz := (inD d e).bind fun c => ozB (!c)
theorem any_py (d : D) : ∀ ds : List D, ((toPys ds).any fun z => PyData.eqv z (toPy d)) = ds.any fun z => eqv z d
  | [] => rfl
  | x :: r => by
    rw [show toPys (x :: r) = toPy x :: toPys r by rfl, List.any_cons, List.any_cons, any_py d r, eqv_py]
theorem str_one {x : Str} {c : Nat} (h : x.cps.toList = [c]) : x = ⟨#[c]⟩ := by
  obtain ⟨a⟩ := x
  have : a = #[c] := by
    apply Array.ext'
    simpa using h
  rw [this]
theorem inD_py {G B H : Hp} {u v : V} {d e : D} {c : Bool} (g : Ex G B) (g2 : Ex B H) (o1 : Ov K G B v d) (o2 : Ov K G B u e) (h : inD d e = some c) :
    (∃ ds, Dp K H v (toPy d) ∧ Dp K H u (.list ds) ∧ SeqAt.shaped (toPy d) = true ∧ SeqAt.shaped (.list ds) = true ∧ c = ds.any fun z => PyData.eqv z (toPy d)) ∨
    (∃ ds, Dp K H v (toPy d) ∧ Dp K H u (.tuple ds) ∧ SeqAt.shaped (toPy d) = true ∧ SeqAt.shaped (.tuple ds) = true ∧ c = ds.any fun z => PyData.eqv z (toPy d)) ∨
    (∃ a o, u = .ref a ∧ DGet H a v o ∧ c = o.isSome) ∨ ∃ (k : Nat) (z : Str), v = .str ⟨#[k]⟩ ∧ u = .str z ∧ c = decide (k ∈ z.cps.toList) := by
  unfold inD at h
  split at h
  · rename_i ds
    split at h
    · rename_i hk
      cases h
      have := Rp.dp hk.2 ((o2.rp g).mono g2)
      rw [show toPy (.lst ds) = .list (toPys ds) by rfl] at this
      have sh := okE_shaped hk.2
      rw [show toPy (.lst ds) = .list (toPys ds) by rfl] at sh
      exact .inl ⟨toPys ds, Rp.dp hk.1 ((o1.rp g).mono g2), this, okE_shaped hk.1, sh, (any_py d ds).symm⟩
    · cases h
  · rename_i ds
    split at h
    · rename_i hk
      cases h
      have := Rp.dp hk.2 ((o2.rp g).mono g2)
      rw [show toPy (.tup ds) = .tuple (toPys ds) by rfl] at this
      have sh := okE_shaped hk.2
      rw [show toPy (.tup ds) = .tuple (toPys ds) by rfl] at sh
      exact .inr (.inl ⟨toPys ds, Rp.dp hk.1 ((o1.rp g).mono g2), this, okE_shaped hk.1, sh, (any_py d ds).symm⟩)
    · cases h
  · rename_i ds
    split at h
    · rename_i hk
      cases h
      have := Rp.dp hk.2 ((o2.rp g).mono g2)
      rw [show toPy (.ft ds) = .tuple (toPys ds) by rfl] at this
      have sh := okE_shaped hk.2
      rw [show toPy (.ft ds) = .tuple (toPys ds) by rfl] at sh
      exact .inr (.inl ⟨toPys ds, Rp.dp hk.1 ((o1.rp g).mono g2), this, okE_shaped hk.1, sh, (any_py d ds).symm⟩)
    · cases h
  · rename_i ds
    split at h
    · rename_i hk
      cases h
      have := Rp.dp hk.2 ((o2.rp g).mono g2)
      rw [show toPy (.fl ds) = .list (toPys ds) by rfl] at this
      have sh := okE_shaped hk.2
      rw [show toPy (.fl ds) = .list (toPys ds) by rfl] at sh
      exact .inl ⟨toPys ds, Rp.dp hk.1 ((o1.rp g).mono g2), this, okE_shaped hk.1, sh, (any_py d ds).symm⟩
    · cases h
  · rename_i s
    split at h
    · rename_i x
      split at h
      · rename_i k hx
        cases h
        obtain rfl := ov_str o1
        obtain rfl := ov_str o2
        exact .inr (.inr (.inr ⟨k, s, by rw [str_one hx], rfl, rfl⟩))
      · cases h
    · cases h
  · cases hg : getD2 e d with
    | none => rw [hg] at h; cases h
    | some o =>
      rw [hg] at h; cases h
      obtain ⟨a, ov, rfl, dg, ro⟩ := getD2_ok g g2 o2 o1 hg
      refine .inr (.inr (.inl ⟨a, ov, rfl, dg, ?_⟩))
      cases ov <;> cases o <;> first | rfl | exact ro.elim
theorem snd_bIn : OpS K (rInAll K) bIn := fun G B H v u d e z k R g g2 o1 o2 hf r => by
  unfold bIn at hf
  cases hi : inD d e with
  | none => rw [hi] at hf; cases hf
  | some c =>
    rw [hi] at hf
    have q := res_bl (i := c) hf r
    rcases inD_py g g2 o1 o2 hi with ⟨ds, a1, a2, a3, a4, rfl⟩ | ⟨ds, a1, a2, a3, a4, rfl⟩ | ⟨a, o, rfl, a2, rfl⟩ | ⟨k', z', rfl, rfl, rfl⟩
    · exact .inl ⟨_, _, a1, a2, a3, a4, q⟩
    · exact .inr (.inl ⟨_, _, a1, a2, a3, a4, q⟩)
    · exact .inr (.inr (.inl ⟨a, o, rfl, a2, q⟩))
    · exact .inr (.inr (.inr ⟨_, _, rfl, rfl, q⟩))
theorem snd_bNotIn : OpS K (rNotInAll K) bNotIn := fun G B H v u d e z k R g g2 o1 o2 hf r => by
  unfold bNotIn at hf
  cases hi : inD d e with
  | none => rw [hi] at hf; cases hf
  | some c =>
    rw [hi] at hf
    have q := res_bl (i := !c) hf r
    rcases inD_py g g2 o1 o2 hi with ⟨ds, a1, a2, a3, a4, rfl⟩ | ⟨ds, a1, a2, a3, a4, rfl⟩ | ⟨a, o, rfl, a2, rfl⟩ | ⟨k', z', rfl, rfl, rfl⟩
    · exact .inl ⟨_, _, a1, a2, a3, a4, q⟩
    · exact .inr (.inl ⟨_, _, a1, a2, a3, a4, q⟩)
    · exact .inr (.inr (.inl ⟨a, o, rfl, a2, q⟩))
    · exact .inr (.inr (.inr ⟨_, _, rfl, rfl, q⟩))

/-! ### a dict written -/
def mergeD (kvs more : List (Key × D)) : List (Key × D) := more.foldl (fun acc kv => putD acc kv.1 kv.2) kvs
theorem RpK.merge {G : Hp} : ∀ {more : List (Key × V)} {em : List (Key × D)} {kvs : List (Key × V)} {es : List (Key × D)}, RpK K G more em → RpK K G kvs es → RpK K G (mergeK kvs more) (mergeD es em)
  | _, _, _, _, .nil, h => h
  | _, _, kvs, es, .cons (k := k) (v := v) (d := d) (vs := vs) (ds := ds) a r, h => by
    show RpK K G (mergeK (putK kvs k v) vs) (mergeD (putD es k d) ds)
    exact RpK.merge r (h.put a)
abbrev WP := Rho → (List (Key × D) → Rho → Prop) → Prop
def pNil : WP := fun ρ Q => Q [] ρ
def pCons (tk tv : WE) (u : WP) : WP := fun ρ Q => tk ρ fun k _ ρ1 => tv ρ1 (toF fun d ρ2 => u ρ2 fun es ρ3 => match keyOf k with
  | some key => Q ((key, d) :: es) ρ3
  | none => False)
def SndP (K : PySem.W.Frag) (trs : List (TE × TE)) (t : WP) : Prop := ∀ (b : Bs) (G : Hp) (ρ : Rho) (σ : L2.St) (H : Hp) (Q : List (Key × D) → Rho → Prop) (R : List (V × V) → Hp → Prop), Sim K b G ρ σ H → t ρ Q →
  (∀ es ρ' kvs G' H', Q es ρ' → Xt b ρ σ G H ρ' G' H' → Sim K b G' ρ' σ H' → RpK K G' kvs es → R (kvs.map fun kv => (kV kv.1, kv.2)) H') → tPairs trs σ H R
theorem sndP_nil : SndP K [] pNil := fun b G ρ σ H Q R s q k => k [] ρ [] G H q .refl s .nil
theorem sndP_cons {tk tv : TE} {trs : List (TE × TE)} {wk wv : WE} {u : WP} (hk : SndE K tk wk) (hv : SndE K tv wv) (hr : SndP K trs u) : SndP K ((tk, tv) :: trs) (pCons wk wv u) := by
  intro b G ρ σ H Q R s h k
  refine hk b G ρ σ H _ _ s h fun dk ka ρ1 vk G1 H1 q1 x1 s1 r1 => ?_
  have ok1 := r1.ov s1
  refine hv b G1 ρ1 σ H1 _ _ s1 q1 fun d kd ρ2 v G2 H2 q2 x2 s2 r2 => ?_
  refine frozen (R := fun v H' => tPairs trs σ H' fun ps H3 => R ((vk, v) :: ps) H3) q2 x2 s1 s2 r2 fun d ρ3 v G3 q3 x3 s3 r3 => ?_
  refine hr b G3 ρ3 σ H2 _ _ s3 q3 fun es ρ4 kvs G4 H4 q4 x4 s4 r4 => ?_
  cases hkey : keyOf dk with
  | none => rw [hkey] at q4; exact q4.elim
  | some key =>
    rw [hkey] at q4
    have : vk = kV key := by
      cases dk with
      | int i => obtain rfl := ov_int ok1; cases hkey; rfl
      | str i => obtain rfl := ov_str ok1; cases hkey; rfl
      | _ => cases hkey
    subst this
    exact k ((key, d) :: es) ρ4 ((key, v) :: kvs) G4 H4 q4 ((x1.trans x3).trans x4) s4 (.cons (r3.mono x4.g) r4)
def wDisp (t : WP) : WE := fun ρ Q => t ρ fun es ρ1 => es.length ≤ 15 ∧ Q (.dk (mergeD [] es)) .nw ρ1
theorem RpK.len {G : Hp} {vs : List (Key × V)} {ds : List (Key × D)} (h : RpK K G vs ds) : vs.length = ds.length := RpK.length h
theorem snd_disp {trs : List (TE × TE)} {t : WP} (h : SndP K trs t) : SndE K (tDisp trs) (wDisp t) := by
  intro b G ρ σ H Q R s hq k p hp
  have hw := s.aw_ne hp
  have s0 := s.laid (o := .dK []) hp
  refine h b G ρ σ _ _ _ s0 hq fun es ρ1 kvs G1 H1 ⟨hl, q1⟩ x1 s1 r1 => ?_
  have e0 : hd b.aw (upd H p (.dK [])) p = some (.dK []) := by rw [hd_ne hw]; exact upd_same
  have e1 : H1 p = some (.dK []) := (hd_some (x1.h p _ e0)).2
  have no : ∀ (i : Nat) (d : D), ρ1[i]? = some (.ow d) → σ[i]? ≠ some (some (.ref p)) := fun i d e z => s.noown hp i d (x1.own i d e) z
  have g1 : G1 p = none := x1.new p _ e0 (s.fresh hp) fun ⟨i, d, z1, z2⟩ => s.noown hp i d z1 z2
  refine ⟨e1, kvs, rfl, by rw [r1.len]; exact hl, ?_⟩
  have s2 := s1.poke (o := .dK (mergeK [] kvs)) hw (s.fresh0 hp) g1 no
  have hf : hd b.aw H p = none := hd_none hp
  refine k _ .nw ρ1 (.ref p) G1 _ q1 ⟨x1.g, fun a o e => ?_, fun a o e n no' => x1.new a o (hd_new hp a o e) n no', x1.own⟩ s2 ⟨p, rfl, hf, hw, g1, _, upd_same, RpK.merge r1 .nil⟩
  rw [hd_upd hw, upd_ne fun z => by subst z; rw [hf] at e; cases e]
  exact x1.h a o (hd_new hp a o e)
def wDk0 : WE := fun ρ Q => Q (.dk []) .nw ρ
def wDt0 : WE := fun ρ Q => Q (.dt []) .nw ρ
theorem snd_dk0 : SndE K tDNewK wDk0 := fun b G ρ σ H Q R s q k p hp => (res_of s k q).new p _ rfl hp ⟨[], upd_same, .nil⟩
theorem snd_dt0 : SndE K tDNewT wDt0 := fun b G ρ σ H Q R s q k p hp => (res_of s k q).new p _ rfl hp ⟨[], upd_same, .nil⟩

/-! ### d[k] = v, of a dict that a slot owns -/
def putD2 (d k v : D) : Option D := match d with
  | .dk es => if es.length < LIM then (keyOf k).map fun k => .dk (putD es k v) else none
  | .dt es => if es.length < LIM then match k with
    | .tup ks => (keysOf ks).map fun k => .dt (putD es k v)
    | _ => none else none
  | _ => none
/-- value, then the dict's name, then the key -/
def wDPut (j : Nat) (wk wv : WE) : WS := fun P ρ => wv ρ (toF fun v ρ1 => (∃ d, ρ1[j]? = some (.ow d)) ∧ wk ρ1 fun k _ ρ2 => match ρ2[j]? with
  | some (.ow d) => match putD2 d k v with
    | some z => P.nx (ρ2.set j (.ow z))
    | none => False
  | _ => False)
theorem ov_key {G B : Hp} {u : V} {k : D} {key : Key} (o : Ov K G B u k) (h : keyOf k = some key) : u = kV key := by
  cases k with
  | int i => obtain rfl := ov_int o; cases h; rfl
  | str i => obtain rfl := ov_str o; cases h; rfl
  | _ => cases h
theorem snd_dput {j : Nat} {tk tv : TE} {wk wv : WE} (hk : SndE K tk wk) (hv : SndE K tv wv) : SndS K (sDPut (tVar j) tk tv) (wDPut j wk wv) := fun b P E G ρ σ H e s hq => by
  refine hv b G ρ σ H _ _ s hq fun d kd ρ1 v G1 H1 q1 x1 s1 r1 => ?_
  refine frozen (R := fun v H' => tVar j σ H' fun x H2 => tk σ H2 fun y H3 => ∃ a H4, x = .ref a ∧ DPut H3 a y v H4 ∧ E.nx σ H4) q1 x1 s s1 r1 fun d ρ1 v G1 q1 x1 s1 r1 => ?_
  obtain ⟨⟨d0, e0⟩, q1⟩ := q1
  obtain ⟨a, h1, _⟩ := s1.ow j d0 e0
  refine ⟨_, h1, ?_⟩
  refine hk b G1 ρ1 σ H1 _ _ s1 q1 fun k kk ρ2 u G2 H2 q2 x2 s2 r2 => ?_
  have ok := r2.ov s2
  split at q2
  · rename_i dd e2
    split at q2
    · rename_i z ez
      obtain ⟨a', c1, c2, c3, c4, c5⟩ := s2.ow j dd e2
      rw [h1] at c1; cases c1
      have rv := r1.mono x2.g
      cases dd with
      | dk es =>
        obtain ⟨kvs, c6, c7⟩ := c5
        simp only [putD2] at ez
        split at ez
        · rename_i hl
          cases hkey : keyOf k with
          | none => rw [hkey] at ez; cases ez
          | some key =>
            rw [hkey] at ez; cases ez
            obtain rfl := ov_key ok hkey
            exact ⟨a, _, rfl, .inl ⟨kvs, key, c6, rfl, by rw [c7.length]; exact lim_lt hl, rfl⟩, e.nx _ σ G2 _ q2 (s2.put e2 h1 ⟨_, upd_same, c7.put rv⟩)⟩
        · cases ez
      | dt es =>
        obtain ⟨kvs, c6, c7⟩ := c5
        simp only [putD2] at ez
        split at ez
        · rename_i hl
          split at ez
          · rename_i ks
            cases hkey : keysOf ks with
            | none => rw [hkey] at ez; cases ez
            | some keys =>
              rw [hkey] at ez; cases ez
              cases (show Rp K G2 u (.tup ks) from ok) with
              | @tup b' vs _ tb rb =>
                have ek := keys_v rb hkey
                subst ek
                exact ⟨a, _, rfl, .inr ⟨kvs, keys, b', c6, rfl, s2.le _ _ tb, by rw [c7.length]; exact lim_lt hl, rfl⟩, e.nx _ σ G2 _ q2 (s2.put e2 h1 ⟨_, upd_same, c7.put rv⟩)⟩
          · cases ez
        · cases ez
      | _ => simp [putD2] at ez
    · exact q2.elim
  · exact q2.elim
end
end VL

namespace VL
open PySem PySem.Spec PyProof.Rows L2
open Evl (Ex)

/-! ### order of data -/
inductive Sh where
  | int | str | seq (s : Sh) | prod (ss : List Sh)
mutual
def hasSh : Sh → D → Bool
  | .int, .int _ => true
  | .str, .str x => x.cps.all (· < 0x110000)
  | .seq s, .tup xs => xs.all fun x => hasSh s x
  | .prod ss, .tup xs => hasPr ss xs
  | _, _ => false
def hasPr : List Sh → List D → Bool
  | [], [] => true
  | s :: ss, x :: xs => hasSh s x && hasPr ss xs
  | _, _ => false
end
mutual
def dlt : D → D → Bool
  | .int i, .int j => decide (i < j)
  | .str x, .str y => decide (x.cps.toList < y.cps.toList)
  | .tup xs, .tup ys => dlts xs ys
  | _, _ => false
def dlts : List D → List D → Bool
  | [], [] => false
  | [], _ :: _ => true
  | _ :: _, [] => false
  | x :: xs, y :: ys => if eqv x y = true then dlts xs ys else dlt x y
end
mutual
def depSh : Sh → Nat
  | .int => 0
  | .str => 0
  | .seq s => depSh s + 1
  | .prod ss => depShs ss + 1
def depShs : List Sh → Nat
  | [] => 0
  | s :: ss => max (depSh s) (depShs ss)
end
def LtAt (A : Around) (s : Shared) (v u : Value) (c : Bool) : Prop := ∀ (prog : Program) (w : World) (E Q : Value → Shared → Prop), Q (.bool c) s → wpAny (model prog w) A (richCompare .Lt v u) Q E s
def TLt (A : Around) (s : Shared) : List Value → List Value → Bool → Prop
  | [], [], r => r = false
  | [], _ :: _, r => r = true
  | _ :: _, [], r => r = false
  | v :: vs, u :: us, r => ∃ e, SeqAt.EqAt A s v u e ∧ (e = true → TLt A s vs us r) ∧ (e = false → LtAt A s v u r)
section
open PySem.SeqAt
open PySem.AutoSeq1 (wpAny_loadPart')
open PySem.MeetsSeq PySem.MeetsSeq2 PySem.MeetsSeq3
theorem tuple_lt_gen (l b : Addr) (items items2 : Array Value) (n n2 : Nat) (dd dd2 : Option Addr) (sl sl2 : Array (Option Value)) :
    Meets (Builtin.«tuple.__lt__» ⟨[.ref l, .ref b], []⟩)
      (fun A R s => s.heap.get? l = some { cls := .type "tuple", dict := dd, data := .seq items n, slots := sl } ∧ s.heap.get? b = some { cls := .type "tuple", dict := dd2, data := .seq items2 n2, slots := sl2 } ∧
        ∃ r, TLt A.in1 s items.toList items2.toList r ∧ R (.ok (.ret (.bool r))) s) :=
  .of_wp fun prog w A R s h => by
    obtain ⟨hp, g, d, tk, os⟩ := s; obtain ⟨hl, hb, r, ht, h⟩ := h
    have f2 := AutoSeq1.sub_tuple_tuple
    wp_walk using wpAny_loadPart' hl, wpAny_loadPart' hb, wpAny_forIn_list _ (fun rest b s' => b.1 = none ∧ s' = ⟨hp, g, d, tk, os⟩ ∧ ∃ (vs ws : List Value), rest = vs.zip ws ∧
      vs.length + items2.size = ws.length + items.size ∧ TLt A.in1 ⟨hp, g, d, tk, os⟩ vs ws r) _
    case turn =>
      rintro ⟨y, x⟩ rest b s' ⟨hb', rfl, vs, ws, hz, hlen, hT⟩
      cases vs with
      | nil => rw [List.zip_nil_left] at hz; cases hz
      | cons v vs =>
        cases ws with
        | nil => rw [List.zip_nil_right] at hz; cases hz
        | cons u ws =>
          rw [List.zip_cons_cons] at hz
          injection hz with hyx hrest
          injection hyx with hy hx
          subst hy hx
          simp only [List.length_cons] at hlen
          obtain ⟨e, he, h1, h2⟩ := hT
          refine wpAny_bind (he prog w _ _ ?_)
          cases e with
          | true =>
            wp_walk
            exact ⟨rfl, rfl, _, _, hrest, by omega, h1 rfl⟩
          | false =>
            have hri := h2 rfl prog w
            wp_walk using hri
            exact ⟨_, rfl, by simpa using h⟩
    case fin =>
      rintro ⟨b1, b2⟩ s' ⟨hb', rfl, vs, ws, hz, hlen, hT⟩
      simp only at hb'
      subst hb'
      have hv : r = decide (items.size < items2.size) := by
        cases vs with
        | nil =>
          cases ws with
          | nil =>
            simp only [List.length_nil] at hlen
            rw [show r = false from hT]
            exact (decide_eq_false (by omega)).symm
          | cons u ws =>
            simp only [List.length_nil, List.length_cons] at hlen
            rw [show r = true from hT]
            exact (decide_eq_true (by omega)).symm
        | cons v vs =>
          cases ws with
          | nil =>
            simp only [List.length_nil, List.length_cons] at hlen
            rw [show r = false from hT]
            exact (decide_eq_false (by omega)).symm
          | cons u ws =>
            rw [List.zip_cons_cons] at hz
            cases hz
      rw [hv] at h
      wp_walk
      exact ⟨_, rfl, by simpa [Builtin.Tuple.tupleCompareSizes] using h⟩
    case h =>
      exact ⟨rfl, rfl, items.toList, items2.toList, rfl, by simp [Nat.add_comm], ht⟩
end
section
variable {A : Around} {s : Shared}
theorem ltAt_tup {l b : Addr} {items items2 : Array Value} {r : Bool} (hl : IsTup s.heap l items) (hb : IsTup s.heap b items2) (hu : A.units < cLine) (h : TLt A.in1 s items.toList items2.toList r) : LtAt A s (.ref l) (.ref b) r := fun prog w E Q q => by
  obtain ⟨⟨cls, dd, data, sl⟩, ho, hc, n, hd⟩ := id hl
  obtain ⟨⟨cls2, dd2, data2, sl2⟩, ho2, hc2, n2, hd2⟩ := id hb
  simp only at hc hd hc2 hd2
  subst hc hd hc2 hd2
  exact richCompare_meets_room (op := .Lt) ⟨_, ho, rfl⟩ ⟨_, ho2, rfl⟩ PySem.F.slot_tuple_lt PySem.F.entry_tuple_lt (PySem.F.args_tuple_lt_2 _ _) (tuple_lt_gen l b items items2 n n2 dd dd2 sl sl2)
    ⟨ho, ho2, r, h, show Value.bool r ≠ Value.notImplemented ∧ Q (.bool r) s from ⟨(fun x => nomatch x), q⟩⟩ hu
end
end VL

namespace VL
open PySem PySem.Spec PyProof.Rows L2
open Evl (Ex)

structure OrdOn (P : D → Prop) : Prop where
  eq : ∀ d e, P d → P e → (eqv d e = true ↔ d = e)
  irr : ∀ d, P d → dlt d d = false
  tr : ∀ d e f, P d → P e → P f → dlt d e = true → dlt e f = true → dlt d f = true
  tot : ∀ d e, P d → P e → dlt d e = true ∨ d = e ∨ dlt e d = true
structure OrdL (P : List D → Prop) : Prop where
  eq : ∀ d e, P d → P e → (eqvs d e = true ↔ d = e)
  irr : ∀ d, P d → dlts d d = false
  tr : ∀ d e f, P d → P e → P f → dlts d e = true → dlts e f = true → dlts d f = true
  tot : ∀ d e, P d → P e → dlts d e = true ∨ d = e ∨ dlts e d = true
theorem dlts_cons {P : D → Prop} (O : OrdOn P) {x y : D} {xs ys : List D} (hx : P x) (hy : P y) : dlts (x :: xs) (y :: ys) = true ↔ dlt x y = true ∨ (x = y ∧ dlts xs ys = true) := by
  show (if eqv x y = true then dlts xs ys else dlt x y) = true ↔ _
  by_cases h : eqv x y = true
  · rw [if_pos h]
    have e := (O.eq x y hx hy).mp h
    subst e
    rw [O.irr x hx]
    simp
  · rw [if_neg h]
    have e : x ≠ y := fun z => h ((O.eq x y hx hy).mpr z)
    simp [e]
theorem eqvs_cons {x y : D} {xs ys : List D} : eqvs (x :: xs) (y :: ys) = true ↔ eqv x y = true ∧ eqvs xs ys = true := by
  show (eqv x y && eqvs xs ys) = true ↔ _
  simp
theorem ordL_nil : OrdL (fun xs => xs = []) := ⟨fun d e h1 h2 => by subst h1; subst h2; simp [eqvs], fun d h => by subst h; rfl, fun d e f h1 h2 h3 a => by subst h1; subst h2; simp [dlts] at a, fun d e h1 h2 => by subst h1; subst h2; simp⟩
theorem ordL_cons {P : D → Prop} {Q : List D → Prop} (O : OrdOn P) (L : OrdL Q) : OrdL (fun xs => ∃ x r, xs = x :: r ∧ P x ∧ Q r) where
  eq := by
    rintro _ _ ⟨x, xs, rfl, hx, hxs⟩ ⟨y, ys, rfl, hy, hys⟩
    rw [eqvs_cons, O.eq x y hx hy, L.eq xs ys hxs hys]
    simp
  irr := by
    rintro _ ⟨x, xs, rfl, hx, hxs⟩
    cases h : dlts (x :: xs) (x :: xs) with
    | false => rfl
    | true =>
      rcases (dlts_cons O hx hx).mp h with h | ⟨_, h⟩
      · rw [O.irr x hx] at h; cases h
      · rw [L.irr xs hxs] at h; cases h
  tr := by
    rintro _ _ _ ⟨x, xs, rfl, hx, hxs⟩ ⟨y, ys, rfl, hy, hys⟩ ⟨z, zs, rfl, hz, hzs⟩ h1 h2
    rw [dlts_cons O hx hy] at h1
    rw [dlts_cons O hy hz] at h2
    rw [dlts_cons O hx hz]
    rcases h1 with h1 | ⟨rfl, h1⟩
    · rcases h2 with h2 | ⟨rfl, h2⟩
      · exact .inl (O.tr x y z hx hy hz h1 h2)
      · exact .inl h1
    · rcases h2 with h2 | ⟨rfl, h2⟩
      · exact .inl h2
      · exact .inr ⟨rfl, L.tr xs ys zs hxs hys hzs h1 h2⟩
  tot := by
    rintro _ _ ⟨x, xs, rfl, hx, hxs⟩ ⟨y, ys, rfl, hy, hys⟩
    rw [dlts_cons O hx hy, dlts_cons O hy hx]
    rcases O.tot x y hx hy with h | h | h
    · exact .inl (.inl h)
    · subst h
      rcases L.tot xs ys hxs hys with h | h | h
      · exact .inl (.inr ⟨rfl, h⟩)
      · subst h; exact .inr (.inl rfl)
      · exact .inr (.inr (.inr ⟨rfl, h⟩))
    · exact .inr (.inr (.inl h))
theorem ordL_seq {P : D → Prop} (O : OrdOn P) : OrdL (fun xs => ∀ x ∈ xs, P x) where
  eq := by
    intro xs
    induction xs with
    | nil => intro ys _ _; cases ys <;> simp [eqvs]
    | cons x xs ih =>
      intro ys h1 h2
      cases ys with
      | nil => simp [eqvs]
      | cons y ys =>
        rw [eqvs_cons, O.eq x y (h1 x (by simp)) (h2 y (by simp)), ih ys (fun z hz => h1 z (by simp [hz])) (fun z hz => h2 z (by simp [hz]))]
        simp
  irr := by
    intro xs
    induction xs with
    | nil => intro _; rfl
    | cons x xs ih =>
      intro h1
      cases h : dlts (x :: xs) (x :: xs) with
      | false => rfl
      | true =>
        rcases (dlts_cons O (h1 x (by simp)) (h1 x (by simp))).mp h with h | ⟨_, h⟩
        · rw [O.irr x (h1 x (by simp))] at h; cases h
        · rw [ih fun z hz => h1 z (by simp [hz])] at h; cases h
  tr := by
    intro xs
    induction xs with
    | nil =>
      intro ys zs _ _ _ h1 h2
      cases zs with
      | nil => cases ys <;> simp [dlts] at h1 h2
      | cons z zs => rfl
    | cons x xs ih =>
      intro ys zs a1 a2 a3 h1 h2
      cases ys with
      | nil => simp [dlts] at h1
      | cons y ys =>
        cases zs with
        | nil => simp [dlts] at h2
        | cons z zs =>
          have hx := a1 x (by simp)
          have hy := a2 y (by simp)
          have hz := a3 z (by simp)
          rw [dlts_cons O hx hy] at h1
          rw [dlts_cons O hy hz] at h2
          rw [dlts_cons O hx hz]
          rcases h1 with h1 | ⟨rfl, h1⟩
          · rcases h2 with h2 | ⟨rfl, h2⟩
            · exact .inl (O.tr x y z hx hy hz h1 h2)
            · exact .inl h1
          · rcases h2 with h2 | ⟨rfl, h2⟩
            · exact .inl h2
            · exact .inr ⟨rfl, ih ys zs (fun z hz => a1 z (by simp [hz])) (fun z hz => a2 z (by simp [hz])) (fun z hz => a3 z (by simp [hz])) h1 h2⟩
  tot := by
    intro xs
    induction xs with
    | nil => intro ys _ _; cases ys <;> simp [dlts]
    | cons x xs ih =>
      intro ys a1 a2
      cases ys with
      | nil => simp [dlts]
      | cons y ys =>
        have hx := a1 x (by simp)
        have hy := a2 y (by simp)
        rw [dlts_cons O hx hy, dlts_cons O hy hx]
        rcases O.tot x y hx hy with h | h | h
        · exact .inl (.inl h)
        · subst h
          rcases ih ys (fun z hz => a1 z (by simp [hz])) (fun z hz => a2 z (by simp [hz])) with h | h | h
          · exact .inl (.inr ⟨rfl, h⟩)
          · subst h; exact .inr (.inl rfl)
          · exact .inr (.inr (.inr ⟨rfl, h⟩))
        · exact .inr (.inr (.inl h))
theorem ordOn_tup {Q : List D → Prop} (L : OrdL Q) : OrdOn (fun d => ∃ xs, d = .tup xs ∧ Q xs) where
  eq := by
    rintro _ _ ⟨xs, rfl, h1⟩ ⟨ys, rfl, h2⟩
    show eqvs xs ys = true ↔ _
    rw [L.eq xs ys h1 h2]; simp
  irr := by rintro _ ⟨xs, rfl, h1⟩; exact L.irr xs h1
  tr := by rintro _ _ _ ⟨xs, rfl, h1⟩ ⟨ys, rfl, h2⟩ ⟨zs, rfl, h3⟩ a b; exact L.tr xs ys zs h1 h2 h3 a b
  tot := by
    rintro _ _ ⟨xs, rfl, h1⟩ ⟨ys, rfl, h2⟩
    rcases L.tot xs ys h1 h2 with h | h | h
    · exact .inl h
    · exact .inr (.inl (by rw [h]))
    · exact .inr (.inr h)
theorem OrdOn.imp {P P' : D → Prop} (O : OrdOn P) (h : ∀ d, P' d → P d) : OrdOn P' :=
  ⟨fun d e a b => O.eq d e (h d a) (h e b), fun d a => O.irr d (h d a), fun d e f a b c => O.tr d e f (h d a) (h e b) (h f c), fun d e a b => O.tot d e (h d a) (h e b)⟩
theorem OrdL.imp {P P' : List D → Prop} (O : OrdL P) (h : ∀ d, P' d → P d) : OrdL P' :=
  ⟨fun d e a b => O.eq d e (h d a) (h e b), fun d a => O.irr d (h d a), fun d e f a b c => O.tr d e f (h d a) (h e b) (h f c), fun d e a b => O.tot d e (h d a) (h e b)⟩
theorem str_ext {x y : Str} (h : x.cps.toList = y.cps.toList) : x = y := by
  obtain ⟨a⟩ := x
  obtain ⟨c⟩ := y
  have : a = c := Array.ext' h
  rw [this]
mutual
theorem sh_ord : ∀ s : Sh, OrdOn (fun d => hasSh s d = true)
  | .int => by
    have key : ∀ d, hasSh .int d = true → ∃ i, d = .int i := fun d h => by
      cases d <;> simp [hasSh] at h
      exact ⟨_, rfl⟩
    refine ⟨fun d e h1 h2 => ?_, fun d h => ?_, fun d e f h1 h2 h3 => ?_, fun d e h1 h2 => ?_⟩
    · obtain ⟨i, rfl⟩ := key d h1; obtain ⟨j, rfl⟩ := key e h2; simp [eqv]
    · obtain ⟨i, rfl⟩ := key d h; simp [dlt]
    · obtain ⟨i, rfl⟩ := key d h1; obtain ⟨j, rfl⟩ := key e h2; obtain ⟨k, rfl⟩ := key f h3
      simp only [dlt, decide_eq_true_eq]; omega
    · obtain ⟨i, rfl⟩ := key d h1; obtain ⟨j, rfl⟩ := key e h2
      simp only [dlt, decide_eq_true_eq, D.int.injEq]; omega
  | .str => by
    have key : ∀ d, hasSh .str d = true → ∃ i, d = .str i := fun d h => by
      cases d <;> simp [hasSh] at h
      exact ⟨_, rfl⟩
    refine ⟨fun d e h1 h2 => ?_, fun d h => ?_, fun d e f h1 h2 h3 => ?_, fun d e h1 h2 => ?_⟩
    · obtain ⟨i, rfl⟩ := key d h1; obtain ⟨j, rfl⟩ := key e h2; simp [eqv]
    · obtain ⟨i, rfl⟩ := key d h; simp only [dlt]; exact decide_eq_false (List.lt_irrefl _)
    · obtain ⟨i, rfl⟩ := key d h1; obtain ⟨j, rfl⟩ := key e h2; obtain ⟨k, rfl⟩ := key f h3
      simp only [dlt, decide_eq_true_eq]; exact fun a b => List.lt_trans a b
    · obtain ⟨i, rfl⟩ := key d h1; obtain ⟨j, rfl⟩ := key e h2
      simp only [dlt, decide_eq_true_eq, D.str.injEq]
      by_cases a : i.cps.toList < j.cps.toList
      · exact .inl a
      · by_cases c : j.cps.toList < i.cps.toList
        · exact .inr (.inr c)
        · exact .inr (.inl (str_ext (List.le_antisymm (List.not_lt.mp c) (List.not_lt.mp a))))
  | .seq s => (ordOn_tup (ordL_seq (sh_ord s))).imp fun d h => by
    cases d <;> simp [hasSh] at h
    exact ⟨_, rfl, h⟩
  | .prod ss => (ordOn_tup (sh_ordL ss)).imp fun d h => by
    cases d <;> simp [hasSh] at h
    exact ⟨_, rfl, h⟩
theorem sh_ordL : ∀ ss : List Sh, OrdL (fun xs => hasPr ss xs = true)
  | [] => ordL_nil.imp fun xs h => by
    cases xs with
    | nil => rfl
    | cons => simp [hasPr] at h
  | s :: ss => (ordL_cons (sh_ord s) (sh_ordL ss)).imp fun xs h => by
    cases xs with
    | nil => simp [hasPr] at h
    | cons x xs =>
      simp only [hasPr, Bool.and_eq_true] at h
      exact ⟨x, xs, rfl, h.1, h.2⟩
end

/-! ### the sorted list -/
def insD (x : D) : List D → List D
  | [] => [x]
  | y :: r => if dlt x y = true then x :: y :: r else y :: insD x r
def isort : List D → List D
  | [] => []
  | x :: r => insD x (isort r)
def SrtD (l : List D) : Prop := l.Pairwise fun a b => dlt b a = false
theorem insD_perm (x : D) : ∀ l : List D, (insD x l).Perm (x :: l)
  | [] => List.Perm.refl _
  | y :: r => by
    unfold insD
    split
    · exact List.Perm.refl _
    · exact ((insD_perm x r).cons y).trans (List.Perm.swap x y r)
theorem isort_perm : ∀ l : List D, (isort l).Perm l
  | [] => List.Perm.refl _
  | x :: r => (insD_perm x _).trans ((isort_perm r).cons x)
theorem insD_srt {P : D → Prop} (O : OrdOn P) {x : D} (hx : P x) : ∀ l : List D, (∀ y ∈ l, P y) → SrtD l → SrtD (insD x l)
  | [], _, _ => List.pairwise_singleton _ _
  | y :: r, h, s => by
    have hy := h y (by simp)
    obtain ⟨s1, s2⟩ := List.pairwise_cons.mp s
    unfold insD
    split
    · rename_i c
      refine List.pairwise_cons.mpr ⟨fun z hz => ?_, s⟩
      have hz' : P z := h z hz
      cases q : dlt z x with
      | false => rfl
      | true =>
        have t := O.tr z x y hz' hx hy q c
        rcases List.mem_cons.mp hz with rfl | hz
        · rw [O.irr _ hz'] at t; cases t
        · rw [s1 z hz] at t; cases t
    · rename_i c
      refine List.pairwise_cons.mpr ⟨fun z hz => ?_, insD_srt O hx r (fun z hz => h z (by simp [hz])) s2⟩
      rcases List.mem_cons.mp ((insD_perm x r).mem_iff.mp hz) with rfl | hz
      · simpa using c
      · exact s1 z hz
theorem isort_srt {P : D → Prop} (O : OrdOn P) : ∀ l : List D, (∀ y ∈ l, P y) → SrtD (isort l)
  | [], _ => List.Pairwise.nil
  | x :: r, h => insD_srt O (h x (by simp)) _ (fun y hy => h y (by simp [(isort_perm r).mem_iff.mp hy])) (isort_srt O r fun y hy => h y (by simp [hy]))
theorem srt_uniq {P : D → Prop} (O : OrdOn P) : ∀ {l m : List D}, (∀ y ∈ l, P y) → SrtD l → SrtD m → l.Perm m → l = m
  | [], m, _, _, _, p => (List.Perm.eq_nil p.symm).symm
  | x :: l, [], _, _, _, p => absurd p.length_eq (by simp)
  | x :: l, y :: m, h, hl, hm, p => by
    have hx := h x (by simp)
    have hy := h y (p.mem_iff.mpr (by simp))
    obtain ⟨l1, l2⟩ := List.pairwise_cons.mp hl
    obtain ⟨m1, m2⟩ := List.pairwise_cons.mp hm
    have e : x = y := by
      rcases O.tot x y hx hy with a | a | a
      · rcases List.mem_cons.mp (p.mem_iff.mp (List.mem_cons_self (a := x) (l := l))) with c | c
        · exact c
        · rw [m1 x c] at a; cases a
      · exact a
      · rcases List.mem_cons.mp (p.mem_iff.mpr (List.mem_cons_self (a := y) (l := m))) with c | c
        · exact c.symm
        · rw [l1 y c] at a; cases a
    subst e
    rw [srt_uniq O (fun z hz => h z (by simp [hz])) l2 m2 p.cons_inv]

/-! ### < of data that lies in the heap -/
mutual
theorem sh_ok : ∀ (s : Sh) (d : D), hasSh s d = true → (toPy d).canLay0 = true ∧ (toPy d).depth ≤ depSh s
  | .int, .int i, _ => by simp [toPy, PyData.canLay0, PyData.depth]
  | .str, .str x, h => by
    refine ⟨?_, by simp [toPy, PyData.depth]⟩
    have h : x.cps.all (· < 0x110000) = true := by simpa [hasSh] using h
    simpa [toPy, PyData.canLay0, PyData.strOk] using h
  | .seq s, .tup xs, h => by
    have h : ∀ x ∈ xs, hasSh s x = true := by simpa [hasSh] using h
    have key : ∀ ys : List D, (∀ x ∈ ys, hasSh s x = true) → PyData.canLayAll0 (toPys ys) = true ∧ PyData.depthAll (toPys ys) ≤ depSh s := by
      intro ys
      induction ys with
      | nil => intro _; simp [toPys, PyData.canLayAll0, PyData.depthAll]
      | cons y ys ih =>
        intro h
        have a := sh_ok s y (h y (by simp))
        have c := ih fun z hz => h z (by simp [hz])
        exact ⟨by simp [toPys, PyData.canLayAll0, a.1, c.1], by simp only [toPys, PyData.depthAll]; exact Nat.max_le.mpr ⟨a.2, c.2⟩⟩
    have k := key xs h
    exact ⟨by simpa [toPy, PyData.canLay0] using k.1, by simp only [toPy, PyData.depth, depSh]; omega⟩
  | .prod ss, .tup xs, h => by
    have k := sh_oks ss xs (by simpa [hasSh] using h)
    exact ⟨by simpa [toPy, PyData.canLay0] using k.1, by simp only [toPy, PyData.depth, depSh]; omega⟩
  | .int, .non, h | .int, .bl _, h | .int, .str _, h | .int, .tup _, h | .int, .lst _, h | .int, .fl _, h | .int, .ft _, h | .int, .dk _, h | .int, .dt _, h => by simp [hasSh] at h
  | .str, .non, h | .str, .bl _, h | .str, .int _, h | .str, .tup _, h | .str, .lst _, h | .str, .fl _, h | .str, .ft _, h | .str, .dk _, h | .str, .dt _, h => by simp [hasSh] at h
  | .seq _, .non, h | .seq _, .bl _, h | .seq _, .int _, h | .seq _, .str _, h | .seq _, .lst _, h | .seq _, .fl _, h | .seq _, .ft _, h | .seq _, .dk _, h | .seq _, .dt _, h => by simp [hasSh] at h
  | .prod _, .non, h | .prod _, .bl _, h | .prod _, .int _, h | .prod _, .str _, h | .prod _, .lst _, h | .prod _, .fl _, h | .prod _, .ft _, h | .prod _, .dk _, h | .prod _, .dt _, h => by simp [hasSh] at h
theorem sh_oks : ∀ (ss : List Sh) (d : List D), hasPr ss d = true → PyData.canLayAll0 (toPys d) = true ∧ PyData.depthAll (toPys d) ≤ depShs ss
  | [], [], _ => by simp [toPys, PyData.canLayAll0, PyData.depthAll]
  | s :: ss, x :: xs, h => by
    simp only [hasPr, Bool.and_eq_true] at h
    have a := sh_ok s x h.1
    have c := sh_oks ss xs h.2
    refine ⟨by simp [toPys, PyData.canLayAll0, a.1, c.1], ?_⟩
    simp only [toPys, PyData.depthAll, depShs]
    omega
  | [], _ :: _, h => by simp [hasPr] at h
  | _ :: _, [], h => by simp [hasPr] at h
end
/-- the same shape, one lies here, one there -/
def LtSh (s : Sh) : Prop := ∀ (A : Around) (st : Shared) (d e : D) (u v : Value) (as bs : List Addr), hasSh s d = true → hasSh s e = true → Reads st.heap u (toPy d) as → Reads st.heap v (toPy e) bs → A.units + depSh s < cLine → LtAt A st u v (dlt d e)
theorem eq_sh (s : Sh) {A : Around} {st : Shared} {d e : D} {u v : Value} {as bs : List Addr} (h1 : hasSh s d = true) (h2 : hasSh s e = true) (r1 : Reads st.heap u (toPy d) as) (r2 : Reads st.heap v (toPy e) bs) (hu : A.units + depSh s < cLine) : SeqAt.EqAt A st u v (eqv d e) := by
  have a := sh_ok s d h1
  have b := sh_ok s e h2
  rw [← eqv_py]
  exact SeqAt.eqAt_reads _ _ A st u v as bs r1 r2 a.1 b.1 (by have := Nat.min_le_left (toPy d).depth (toPy e).depth; omega)
theorem tlt_seq {s : Sh} (h : LtSh s) {A : Around} {st : Shared} (hu : A.units + depSh s < cLine) : ∀ (xs ys : List D) (vs ws : List Value) (as bs : List Addr), (∀ x ∈ xs, hasSh s x = true) → (∀ x ∈ ys, hasSh s x = true) → ReadsAll st.heap vs (toPys xs) as → ReadsAll st.heap ws (toPys ys) bs → TLt A st vs ws (dlts xs ys)
  | [], [], _, _, _, _, _, _, r1, r2 => by
    cases r1; cases r2; rfl
  | [], y :: ys, _, _, _, _, _, _, r1, r2 => by
    cases r1; cases r2; rfl
  | x :: xs, [], _, _, _, _, _, _, r1, r2 => by
    cases r1; cases r2; rfl
  | x :: xs, y :: ys, _, _, _, _, h1, h2, r1, r2 => by
    cases r1 with
    | cons a1 a2 =>
      cases r2 with
      | cons b1 b2 =>
        have hx := h1 x (by simp)
        have hy := h2 y (by simp)
        refine ⟨eqv x y, eq_sh s hx hy a1 b1 hu, fun e => ?_, fun e => ?_⟩
        · show TLt A st _ _ (if eqv x y = true then dlts xs ys else dlt x y)
          rw [if_pos e]
          exact tlt_seq h hu xs ys _ _ _ _ (fun z hz => h1 z (by simp [hz])) (fun z hz => h2 z (by simp [hz])) a2 b2
        · show LtAt A st _ _ (if eqv x y = true then dlts xs ys else dlt x y)
          rw [if_neg (by rw [e]; simp)]
          exact h A st x y _ _ _ _ hx hy a1 b1 hu
mutual
theorem lt_sh : ∀ s : Sh, LtSh s
  | .int => fun A st d e u v as bs h1 h2 r1 r2 hu => by
    cases d <;> simp [hasSh] at h1
    cases e <;> simp [hasSh] at h2
    cases r1; cases r2
    intro prog w E Q q
    exact (PyProof.Rows.lt_int q : wpAny (model prog w) A (compareOp .Lt _ _) Q E st)
  | .str => fun A st d e u v as bs h1 h2 r1 r2 hu => by
    cases d <;> simp [hasSh] at h1
    cases e <;> simp [hasSh] at h2
    cases r1; cases r2
    intro prog w E Q q
    exact (PyProof.Rows.lt_str q : wpAny (model prog w) A (compareOp .Lt _ _) Q E st)
  | .seq s => fun A st d e u v as bs h1 h2 r1 r2 hu => by
    cases d <;> simp [hasSh] at h1
    cases e <;> simp [hasSh] at h2
    rename_i xs ys
    cases r1 with
    | tuple o1 c1 d1 a1 =>
      cases r2 with
      | tuple o2 c2 d2 a2 =>
        have hu' : A.in1.units + depSh s < cLine := by
          have : A.units + (depSh s + 1) < cLine := hu
          show A.units + 1 + depSh s < cLine
          omega
        exact ltAt_tup ⟨_, o1, c1, _, d1⟩ ⟨_, o2, c2, _, d2⟩ (by omega) (tlt_seq (lt_sh s) hu' xs ys _ _ _ _ h1 h2 a1 a2)
  | .prod ss => fun A st d e u v as bs h1 h2 r1 r2 hu => by
    cases d <;> simp [hasSh] at h1
    cases e <;> simp [hasSh] at h2
    rename_i xs ys
    cases r1 with
    | tuple o1 c1 d1 a1 =>
      cases r2 with
      | tuple o2 c2 d2 a2 =>
        have hu' : A.in1.units + depShs ss < cLine := by
          have : A.units + (depShs ss + 1) < cLine := hu
          show A.units + 1 + depShs ss < cLine
          omega
        exact ltAt_tup ⟨_, o1, c1, _, d1⟩ ⟨_, o2, c2, _, d2⟩ (by omega) (tlt_prod ss A.in1 st xs ys _ _ _ _ hu' h1 h2 a1 a2)
theorem tlt_prod : ∀ (ss : List Sh) (A : Around) (st : Shared) (xs ys : List D) (vs ws : List Value) (as bs : List Addr), A.units + depShs ss < cLine → hasPr ss xs = true → hasPr ss ys = true → ReadsAll st.heap vs (toPys xs) as → ReadsAll st.heap ws (toPys ys) bs → TLt A st vs ws (dlts xs ys)
  | [], A, st, xs, ys, vs, ws, as, bs, hu, h1, h2, r1, r2 => by
    cases xs with
    | cons => simp [hasPr] at h1
    | nil =>
      cases ys with
      | cons => simp [hasPr] at h2
      | nil => cases r1; cases r2; rfl
  | s :: ss, A, st, xs, ys, vs, ws, as, bs, hu, h1, h2, r1, r2 => by
    cases xs with
    | nil => simp [hasPr] at h1
    | cons x xs =>
      cases ys with
      | nil => simp [hasPr] at h2
      | cons y ys =>
        simp only [hasPr, Bool.and_eq_true] at h1 h2
        have hs : A.units + depSh s < cLine ∧ A.units + depShs ss < cLine := by
          simp only [depShs] at hu
          omega
        cases r1 with
        | cons a1 a2 =>
          cases r2 with
          | cons b1 b2 =>
            refine ⟨eqv x y, eq_sh s h1.1 h2.1 a1 b1 hs.1, fun e => ?_, fun e => ?_⟩
            · show TLt A st _ _ (if eqv x y = true then dlts xs ys else dlt x y)
              rw [if_pos e]
              exact tlt_prod ss A st xs ys _ _ _ _ hs.2 h1.2 h2.2 a2 b2
            · show LtAt A st _ _ (if eqv x y = true then dlts xs ys else dlt x y)
              rw [if_neg (by rw [e]; simp)]
              exact lt_sh s A st x y _ _ _ _ h1.1 h2.1 a1 b1 hs.1
end
end VL

namespace VL
open PySem PySem.Spec PyProof.Rows L2
open Evl (Ex)

/-- tuples among it stand, none of them empty -/
def notEmp : D → Bool
  | .tup [] => false
  | _ => true
section
variable {prog : Program} {w : World} {A : Around} {s : Shared}
theorem katlex {sh : Nat → Sh} {b : Bool} {n m : Nat} (hb : b = true → sh 0 = .int ∨ sh 0 = .str) {Q : Bool → Shared → Prop} : ∀ (xs ys : List D) (vs ws : List Value) (as bs : List Addr) (i : Nat),
    (∀ (j : Nat) (x : D), xs[j]? = some x → hasSh (sh (i + j)) x = true) → (∀ (j : Nat) (x : D), ys[j]? = some x → hasSh (sh (i + j)) x = true) → (∀ j, A.units + depSh (sh j) < cLine) →
    ReadsAll s.heap vs (toPys xs) as → ReadsAll s.heap ws (toPys ys) bs → vs.length + m = ws.length + n → Q (dlts xs ys) s → PySem.W.KatLex prog w A b (decide (n < m)) Q (vs.zip ws) i s
  | [], [], _, _, _, _, i, _, _, _, r1, r2, hl, q => by
    cases r1; cases r2
    simp only [List.length_nil] at hl
    rw [decide_eq_false (by omega)]
    exact PySem.W.kat_nil q
  | [], y :: ys, _, _, _, _, i, _, _, _, r1, r2, hl, q => by
    cases r1
    cases r2 with
    | cons b1 b2 =>
      simp only [List.length_nil, List.length_cons] at hl
      rw [decide_eq_true (by omega)]
      exact PySem.W.kat_nil q
  | x :: xs, [], _, _, _, _, i, _, _, _, r1, r2, hl, q => by
    cases r2
    cases r1 with
    | cons b1 b2 =>
      simp only [List.length_nil, List.length_cons] at hl
      rw [decide_eq_false (by omega)]
      exact PySem.W.kat_nil q
  | x :: xs, y :: ys, _, _, _, _, i, h1, h2, hu, r1, r2, hl, q => by
    cases r1 with
    | @cons v vs _ _ _ _ a1 a2 =>
      cases r2 with
      | @cons u us _ _ _ _ b1 b2 =>
        have hx : hasSh (sh i) x = true := h1 0 x rfl
        have hy : hasSh (sh i) y = true := h2 0 y rfl
        have q : Q (if eqv x y = true then dlts xs ys else dlt x y) s := q
        rw [List.zip_cons_cons]
        refine PySem.W.kat_cons (eq_sh (sh i) hx hy a1 b1 (hu i) prog w _ _ ?_)
        refine PySem.W.kat_go (fun e => ?_) (fun e => ?_)
        · rw [if_pos e] at q
          simp only [List.length_cons] at hl
          exact PySem.W.kat_yes (katlex hb xs ys _ _ _ _ (i + 1) (fun j z hz => by have := h1 (j + 1) z (by simpa using hz); rwa [show i + 1 + j = i + (j + 1) by omega]) (fun j z hz => by have := h2 (j + 1) z (by simpa using hz); rwa [show i + 1 + j = i + (j + 1) by omega]) hu a2 b2 (by omega) q)
        · rw [if_neg (by rw [e]; simp)] at q
          refine PySem.W.kat_no ?_
          by_cases hbi : (b && i == 0) = true
          · rw [hbi]
            simp only [Bool.and_eq_true, beq_iff_eq] at hbi
            obtain ⟨hb1, rfl⟩ := hbi
            rcases hb hb1 with e0 | e0
            · rw [e0] at hx hy
              cases x <;> simp [hasSh] at hx
              cases y <;> simp [hasSh] at hy
              cases a1; cases b1
              exact oneLt_int q
            · rw [e0] at hx hy
              cases x <;> simp [hasSh] at hx
              cases y <;> simp [hasSh] at hy
              cases a1; cases b1
              exact oneLt_str q
          · rw [show (b && i == 0) = false by simpa using hbi]
            exact PySem.W.kat_one _ _ (lt_sh (sh i) A s x y _ _ _ _ hx hy a1 b1 (hu i) prog w _ _ (show PySem.W.BoolBack Q (Value.bool (dlt x y)) s from q))
theorem reads_ints : ∀ {ds : List D} {vs : List Value} {as : List Addr}, (∀ d ∈ ds, hasSh .int d = true) → ReadsAll s.heap vs (toPys ds) as → ∃ ns, IntsAre vs ns
  | [], _, _, _, r => by cases r; exact ⟨[], .nil⟩
  | d :: ds, _, _, h, r => by
    cases r with
    | cons a1 a2 =>
      obtain ⟨ns, hn⟩ := reads_ints (fun z hz => h z (by simp [hz])) a2
      have hd := h d (by simp)
      cases d <;> simp [hasSh] at hd
      cases a1
      exact ⟨_, .cons _ _ hn⟩
theorem reads_strs : ∀ {ds : List D} {vs : List Value} {as : List Addr}, (∀ d ∈ ds, hasSh .str d = true) → ReadsAll s.heap vs (toPys ds) as → ∃ ns, StrsAre vs ns
  | [], _, _, _, r => by cases r; exact ⟨[], .nil⟩
  | d :: ds, _, _, h, r => by
    cases r with
    | cons a1 a2 =>
      obtain ⟨ns, hn⟩ := reads_strs (fun z hz => h z (by simp [hz])) a2
      have hd := h d (by simp)
      cases d <;> simp [hasSh] at hd
      cases a1
      exact ⟨_, .cons _ _ hn⟩
theorem reads_at : ∀ {ds : List D} {vs : List Value} {as : List Addr} {v : Value}, ReadsAll s.heap vs (toPys ds) as → v ∈ vs → ∃ d bs, d ∈ ds ∧ Reads s.heap v (toPy d) bs
  | [], _, _, v, r, h => by cases r; simp at h
  | d :: ds, _, _, v, r, h => by
    cases r with
    | cons a1 a2 =>
      rcases List.mem_cons.mp h with rfl | h
      · exact ⟨d, _, by simp, a1⟩
      · obtain ⟨e, bs, h1, h2⟩ := reads_at a2 h
        exact ⟨e, bs, by simp [h1], h2⟩
theorem reads_len : ∀ {ds : List D} {vs : List Value} {as : List Addr}, ReadsAll s.heap vs (toPys ds) as → vs.length = ds.length
  | [], _, _, r => by cases r; rfl
  | d :: ds, _, _, r => by
    cases r with
    | cons a1 a2 => rw [List.length_cons, List.length_cons, reads_len a2]
def tyName : Sh → String
  | .int => "int"
  | .str => "str"
  | _ => "tuple"
theorem type_sh {sh : Sh} {d : D} {v : Value} {as : List Addr} (h : hasSh sh d = true) (r : Reads s.heap v (toPy d) as) : PySem.W.Looks (model prog w) s.heap (typeOf v) (.type (tyName sh)) := by
  cases sh with
  | int => cases d <;> simp [hasSh] at h; cases r; exact PySem.W.Looks.now
  | str => cases d <;> simp [hasSh] at h; cases r; exact PySem.W.Looks.now
  | seq s' =>
    cases d <;> simp [hasSh] at h
    cases r with
    | tuple o1 c1 d1 a1 =>
      have z : PySem.W.Looks (model prog w) s.heap (typeOf (.ref _)) _ := (PySem.W.Looks.ld o1).andThen .now
      rw [c1] at z
      exact z
  | prod s' =>
    cases d <;> simp [hasSh] at h
    cases r with
    | tuple o1 c1 d1 a1 =>
      have z : PySem.W.Looks (model prog w) s.heap (typeOf (.ref _)) _ := (PySem.W.Looks.ld o1).andThen .now
      rw [c1] at z
      exact z
/-- the shapes of a tuple's items, by place -/
def itSh : Sh → Nat → Sh
  | .seq s, _ => s
  | .prod ss, i => ss.getD i .int
  | _, _ => .int
theorem pr_at : ∀ {ss : List Sh} {xs : List D} {j : Nat} {x : D}, hasPr ss xs = true → xs[j]? = some x → hasSh (ss.getD j .int) x = true
  | [], [], _, _, _, h => by simp at h
  | [], _ :: _, _, _, h, _ => by simp [hasPr] at h
  | _ :: _, [], _, _, h, _ => by simp [hasPr] at h
  | s :: ss, y :: ys, 0, x, h, e => by
    simp only [hasPr, Bool.and_eq_true] at h
    have e : y = x := Option.some.inj e
    subst e
    exact h.1
  | s :: ss, y :: ys, j + 1, x, h, e => by
    simp only [hasPr, Bool.and_eq_true] at h
    have := pr_at (j := j) h.2 (by simpa using e)
    simpa using this
theorem it_at {sh : Sh} {xs : List D} {j : Nat} {x : D} (h : hasSh sh (.tup xs) = true) (e : xs[j]? = some x) : hasSh (itSh sh j) x = true := by
  cases sh with
  | int => simp [hasSh] at h
  | str => simp [hasSh] at h
  | seq s =>
    have h : ∀ x ∈ xs, hasSh s x = true := by simpa [hasSh] using h
    exact h x (List.mem_of_getElem? e)
  | prod ss => exact pr_at (by simpa [hasSh] using h) e
theorem dep_getD : ∀ (ss : List Sh) (j : Nat), depSh (ss.getD j .int) ≤ depShs ss
  | [], _ => by simp [depSh]
  | s :: ss, 0 => by simp only [List.getD_cons_zero, depShs]; omega
  | s :: ss, j + 1 => by
    have := dep_getD ss j
    simp only [List.getD_cons_succ, depShs]; omega
theorem dep_it (sh : Sh) (j : Nat) : depSh (itSh sh j) ≤ depSh sh := by
  cases sh with
  | int => simp [itSh, depSh]
  | str => simp [itSh, depSh]
  | seq s => simp [itSh, depSh]
  | prod ss => have := dep_getD ss j; simp only [itSh, depSh]; omega
theorem firsts_sh {sh : Sh} (ht : sh ≠ .int ∧ sh ≠ .str) : ∀ {ds : List D} {vs : List Value} {as : List Addr}, (∀ d ∈ ds, hasSh sh d = true ∧ notEmp d = true) → ReadsAll s.heap vs (toPys ds) as →
    ∃ fs : List Value, PySem.W.KatTups s.heap vs fs ∧ fs.length = vs.length ∧ ∀ f ∈ fs, ∃ d bs, hasSh (itSh sh 0) d = true ∧ Reads s.heap f (toPy d) bs
  | [], _, _, _, r => by
    cases r
    exact ⟨[], PySem.W.KatTups.nil, rfl, fun _ h => by simp at h⟩
  | d :: ds, _, _, h, r => by
    cases r with
    | cons a1 a2 =>
      obtain ⟨fs, k, hl, hf⟩ := firsts_sh ht (fun z hz => h z (by simp [hz])) a2
      obtain ⟨hd, hn⟩ := h d (by simp)
      obtain ⟨xs, rfl⟩ : ∃ xs, d = .tup xs := by
        cases sh with
        | int => exact absurd rfl ht.1
        | str => exact absurd rfl ht.2
        | seq _ => cases d <;> simp [hasSh] at hd; exact ⟨_, rfl⟩
        | prod _ => cases d <;> simp [hasSh] at hd; exact ⟨_, rfl⟩
      cases a1 with
      | @tuple a o its n _ _ o1 c1 d1 r1 =>
        cases xs with
        | nil => simp [notEmp] at hn
        | cons x xs =>
          cases hi : its.toList with
          | nil => rw [hi] at r1; cases r1
          | cons f fr =>
            rw [hi] at r1
            cases r1 with
            | cons b1 b2 =>
              have hf0 : its[0]? = some f := by rw [← Array.getElem?_toList, hi]; rfl
              refine ⟨f :: fs, PySem.W.KatTups.cons o1 c1 d1 hf0 k, by simp [hl], fun g hg => ?_⟩
              rcases List.mem_cons.mp hg with rfl | hg
              · exact ⟨x, _, it_at hd rfl, b1⟩
              · exact hf g hg
open Classical in
noncomputable def pk (h : Heap) (sh : Sh) (d0 : D) (u : Value) : D := if hx : ∃ d, hasSh sh d = true ∧ ∃ as, Reads h u (toPy d) as then hx.choose else d0
theorem pk_sh {h : Heap} {sh : Sh} {d0 : D} (h0 : hasSh sh d0 = true) (u : Value) : hasSh sh (pk h sh d0 u) = true := by
  unfold pk
  split
  · rename_i hx; exact hx.choose_spec.1
  · exact h0
theorem toPy_inj {sh : Sh} {d e : D} (h1 : hasSh sh d = true) (h2 : hasSh sh e = true) (h : toPy d = toPy e) : d = e := by
  refine ((sh_ord sh).eq d e h1 h2).mp ?_
  rw [← eqv_py, h, eqv_py]
  exact ((sh_ord sh).eq e e h2 h2).mpr rfl
theorem pk_eq {h : Heap} {sh : Sh} {d0 d : D} {u : Value} {as : List Addr} (hd : hasSh sh d = true) (r : Reads h u (toPy d) as) : pk h sh d0 u = d := by
  have hx : ∃ d, hasSh sh d = true ∧ ∃ as, Reads h u (toPy d) as := ⟨d, hd, as, r⟩
  unfold pk
  rw [dif_pos hx]
  obtain ⟨h1, as', r'⟩ := hx.choose_spec
  exact toPy_inj h1 hd (PySem.SeqAt.Reads.unique _ _ _ _ _ (sh_ok sh _ h1).1 r' r)
theorem pk_map {h : Heap} {sh : Sh} {d0 : D} : ∀ {ds : List D} {vs : List Value} {as : List Addr}, (∀ d ∈ ds, hasSh sh d = true) → ReadsAll h vs (toPys ds) as → vs.map (pk h sh d0) = ds
  | [], _, _, _, r => by cases r; rfl
  | d :: ds, _, _, hh, r => by
    cases r with
    | cons a1 a2 => rw [List.map_cons, pk_eq (hh d (by simp)) a1, pk_map (fun z hz => hh z (by simp [hz])) a2]
theorem swo_sh {h : Heap} {sh : Sh} {d0 : D} (h0 : hasSh sh d0 = true) : SrtO.Swo (fun u v => dlt (pk h sh d0 u) (pk h sh d0 v)) := by
  have O := sh_ord sh
  refine ⟨fun x y q => ?_, fun x y z q1 q2 => ?_⟩
  · cases p : dlt (pk h sh d0 y) (pk h sh d0 x) with
    | false => rfl
    | true =>
      have := O.tr _ _ _ (pk_sh h0 x) (pk_sh h0 y) (pk_sh h0 x) q p
      rw [O.irr _ (pk_sh h0 x)] at this; cases this
  · cases p : dlt (pk h sh d0 z) (pk h sh d0 x) with
    | false => rfl
    | true =>
      rcases O.tot (pk h sh d0 y) (pk h sh d0 x) (pk_sh h0 y) (pk_sh h0 x) with a | a | a
      · rw [q1] at a; cases a
      · rw [← a] at p; rw [q2] at p; cases p
      · have := O.tr _ _ _ (pk_sh h0 z) (pk_sh h0 x) (pk_sh h0 y) p a
        rw [q2] at this; cases this
/-- what keyKind and keyLt do on such a list -/
theorem sh_cmp {h : Heap} {sh : Sh} {d0 : D} {ds : List D} {vs : List Value} {as : List Addr} (hr : ReadsAll s.heap vs (toPys ds) as) (hk : ∀ b o, h.get? b = some o → s.heap.get? b = some o) (hr0 : ReadsAll h vs (toPys ds) as) (hs : ∀ d ∈ ds, hasSh sh d = true ∧ notEmp d = true) (h2 : 2 ≤ vs.length) (hu : A.units + depSh sh + 1 < cLine) :
    ∃ κ, (∀ (Q : SortKind → Shared → Prop) (E : Value → Shared → Prop), Q κ s → wpAny (model prog w) A (keyKind' vs.toArray) Q E s) ∧ SrtO.Cmp prog w A s κ (fun p => p.1 ∈ vs) (SrtO.lt2 fun u v => dlt (pk h sh d0 u) (pk h sh d0 v)) := by
  have hs1 : ∀ d ∈ ds, hasSh sh d = true := fun d hd => (hs d hd).1
  obtain ⟨v1, v2, vr, rfl⟩ : ∃ v1 v2 vr, vs = v1 :: v2 :: vr := by
    match vs, h2 with
    | v1 :: v2 :: vr, _ => exact ⟨v1, v2, vr, rfl⟩
  have pka : ∀ v ∈ v1 :: v2 :: vr, ∃ d bs, hasSh sh d = true ∧ Reads s.heap v (toPy d) bs ∧ pk h sh d0 v = d := fun v hv => by
    obtain ⟨d, bs, hm, r⟩ := reads_at (s := { s with heap := h }) hr0 hv
    exact ⟨d, bs, hs1 d hm, PyProof.Rows.Reads.keeps hk r, pk_eq (hs1 d hm) r⟩
  cases sh with
  | int =>
    obtain ⟨ns, hn⟩ := reads_ints hs1 hr
    refine ⟨oneType', fun Q E q => by rw [keyKind_ints hn]; exact wpAny_pure q, fun p q hp hq => ?_⟩
    obtain ⟨d, _, hd, r, e⟩ := pka _ hp
    obtain ⟨d', _, hd', r', e'⟩ := pka _ hq
    show wpAny (model prog w) A (keyLt' oneType' p.1 q.1) (fun r s' => s' = s ∧ r = dlt (pk h .int d0 p.1) (pk h .int d0 q.1)) (fun _ _ => False) s
    rw [e, e']
    generalize p.1 = u at r ⊢
    generalize q.1 = v at r' ⊢
    cases d <;> simp [hasSh] at hd
    cases d' <;> simp [hasSh] at hd'
    cases r; cases r'
    exact PySem.W.kat_lt_int ⟨rfl, rfl⟩
  | str =>
    obtain ⟨ns, hn⟩ := reads_strs hs1 hr
    refine ⟨oneType', fun Q E q => by rw [keyKind_strs hn]; exact wpAny_pure q, fun p q hp hq => ?_⟩
    obtain ⟨d, _, hd, r, e⟩ := pka _ hp
    obtain ⟨d', _, hd', r', e'⟩ := pka _ hq
    show wpAny (model prog w) A (keyLt' oneType' p.1 q.1) (fun r s' => s' = s ∧ r = dlt (pk h .str d0 p.1) (pk h .str d0 q.1)) (fun _ _ => False) s
    rw [e, e']
    generalize p.1 = u at r ⊢
    generalize q.1 = v at r' ⊢
    cases d <;> simp [hasSh] at hd
    cases d' <;> simp [hasSh] at hd'
    cases r; cases r'
    exact PySem.W.kas_lt_str ⟨rfl, rfl⟩
  | seq s' => exact go (.seq s') ⟨(fun z => nomatch z), (fun z => nomatch z)⟩ hr hr0 hs hu pka
  | prod s' => exact go (.prod s') ⟨(fun z => nomatch z), (fun z => nomatch z)⟩ hr hr0 hs hu pka
where
  go {h : Heap} {d0 : D} {ds : List D} {v1 v2 : Value} {vr : List Value} {as : List Addr} (sh : Sh) (ht : sh ≠ .int ∧ sh ≠ .str) (hr : ReadsAll s.heap (v1 :: v2 :: vr) (toPys ds) as) (hr0 : ReadsAll h (v1 :: v2 :: vr) (toPys ds) as) (hs : ∀ d ∈ ds, hasSh sh d = true ∧ notEmp d = true) (hu : A.units + depSh sh + 1 < cLine)
      (pka : ∀ v ∈ v1 :: v2 :: vr, ∃ d bs, hasSh sh d = true ∧ Reads s.heap v (toPy d) bs ∧ pk h sh d0 v = d) :
      ∃ κ, (∀ (Q : SortKind → Shared → Prop) (E : Value → Shared → Prop), Q κ s → wpAny (model prog w) A (keyKind' (v1 :: v2 :: vr).toArray) Q E s) ∧ SrtO.Cmp prog w A s κ (fun p => p.1 ∈ v1 :: v2 :: vr) (SrtO.lt2 fun u v => dlt (pk h sh d0 u) (pk h sh d0 v)) := by
    obtain ⟨fs, k, hl, hf⟩ := firsts_sh ht hs hr
    refine ⟨tuples' (Value.type (tyName (itSh sh 0)) != Value.type "tuple"), fun Q E q => ?_, fun p q hp hq => ?_⟩
    · refine PySem.W.kat_kind (T := Value.type (tyName (itSh sh 0))) k (by rw [hl]; simp) (fun f hm => ?_) (by cases itSh sh 0 <;> rfl) q
      obtain ⟨d, bs, h1, h2⟩ := hf f hm
      exact type_sh h1 h2
    · obtain ⟨d, _, hd, r, e⟩ := pka _ hp
      obtain ⟨d', _, hd', r', e'⟩ := pka _ hq
      show wpAny (model prog w) A (keyLt' (tuples' (Value.type (tyName (itSh sh 0)) != Value.type "tuple")) p.1 q.1) (fun r s' => s' = s ∧ r = dlt (pk h sh d0 p.1) (pk h sh d0 q.1)) (fun _ _ => False) s
      rw [e, e']
      generalize p.1 = u at r ⊢
      generalize q.1 = v at r' ⊢
      have tup : ∀ d, hasSh sh d = true → ∃ xs, d = .tup xs := fun d hd => by
        cases sh with
        | int => exact absurd rfl ht.1
        | str => exact absurd rfl ht.2
        | seq _ => cases d <;> simp [hasSh] at hd; exact ⟨_, rfl⟩
        | prod _ => cases d <;> simp [hasSh] at hd; exact ⟨_, rfl⟩
      obtain ⟨xs, rfl⟩ := tup d hd
      obtain ⟨ys, rfl⟩ := tup d' hd'
      cases r with
      | tuple o1 c1 d1 a1 =>
        cases r' with
        | tuple o2 c2 d2 a2 =>
          refine PySem.W.kat_lt o1 d1 o2 d2 (katlex (sh := itSh sh) (fun hb => ?_) xs ys _ _ _ _ 0 (fun j x hx => by rw [Nat.zero_add]; exact it_at hd hx) (fun j x hx => by rw [Nat.zero_add]; exact it_at hd' hx) (fun j => by have := dep_it sh j; omega) a1 a2 (by simp [Nat.add_comm]) ⟨rfl, rfl⟩)
          cases hh : itSh sh 0 with
          | int => exact .inl rfl
          | str => exact .inr rfl
          | seq _ => rw [hh] at hb; simp only [tyName] at hb; exact absurd hb (by decide)
          | prod _ => rw [hh] at hb; simp only [tyName] at hb; exact absurd hb (by decide)
end
end VL

namespace VL
open PySem PySem.Spec PyProof.Rows L2
open Evl (Ex)
variable {K : PySem.W.Frag}

/-! ### calls whose answer is told by a relation -/
def ClP (K : PySem.W.Frag) (r : List V → Hp → VK → Prop) (P : List D → D → Kd → Prop) : Prop := ∀ (G B H : Hp) (vs : List V) (ds : List D) (z : D) (k : Kd) (R : VK), Ex G B → Ex B H → Paired (Ov K G B) vs ds → P ds z k → Res K G H z k R → r vs H R
def wClP (P : List D → D → Kd → Prop) (t : WA) : WE := fun ρ Q => t ρ fun ds ρ1 => ∃ z k, P ds z k ∧ Q z k ρ1
theorem snd_clP {r : List V → Hp → VK → Prop} {P : List D → D → Kd → Prop} {ta : TA} {t : WA} (hr : ClP K r P) (h : SndO K ta t) : SndE K (tCB r ta) (wClP P t) := by
  intro b G ρ σ H Q R s hq k
  refine h b G ρ σ H _ _ s hq fun ds ρ1 vs G1 H1 q1 x1 s1 r1 => ?_
  obtain ⟨z, kd, p, q1⟩ := q1
  exact hr G1 (hd b.aw H1) H1 vs ds z kd R s1.sub hd_le r1 p (res_of s1 (fun d k' ρ' v G' H' q x s r => k d k' ρ' v G' H' q (x1.trans x) s (r.back x1.h)) q1)

/-! ### sorted -/
theorem notEmp_ok (n : Nat) : ∀ (d : D) (sh : Sh), hasSh sh d = true → depSh sh ≤ n → okE n d = true := by
  induction n with
  | zero =>
    intro d sh h hn
    cases sh with
    | int => cases d <;> simp [hasSh] at h; rfl
    | str => cases d <;> simp [hasSh] at h; simpa [okE] using h
    | seq s => simp [depSh] at hn
    | prod s => simp [depSh] at hn
  | succ n ih =>
    intro d sh h hn
    cases sh with
    | int => cases d <;> simp [hasSh] at h; rfl
    | str => cases d <;> simp [hasSh] at h; simpa [okE] using h
    | seq s =>
      cases d <;> simp [hasSh] at h
      rename_i xs
      simp only [depSh] at hn
      show okEs n xs = true
      induction xs with
      | nil => rfl
      | cons x xs ih2 =>
        simp only [okEs, Bool.and_eq_true]
        exact ⟨ih x s (h x (by simp)) (by omega), ih2 fun z hz => h z (by simp [hz])⟩
    | prod ss =>
      cases d <;> simp [hasSh] at h
      rename_i xs
      simp only [depSh] at hn
      show okEs n xs = true
      induction xs generalizing ss with
      | nil => rfl
      | cons x xs ih2 =>
        cases ss with
        | nil => simp [hasPr] at h
        | cons s ss =>
          simp only [hasPr, Bool.and_eq_true] at h
          simp only [depShs] at hn
          simp only [okEs, Bool.and_eq_true]
          exact ⟨ih x s h.1 (by omega), ih2 ss (by omega) h.2⟩
section
variable {X : Cx}
def SShp (sh : Sh) (xs : List D) : Prop := depSh sh ≤ 15 ∧ ∀ d ∈ xs, hasSh sh d = true ∧ notEmp d = true
def rSortD (K : PySem.W.Frag) : List V → Hp → VK → Prop := fun xs H Q => ∃ a vs ds sh, xs = [V.ref a] ∧ SqL K H a vs ∧ RpL K H vs ds ∧ SShp sh ds ∧ ∀ p us, H p = none → (∀ G, RpL K G vs ds → RpL K G us (isort ds)) → Q (.ref p) (upd H p (.lst us))
theorem okEs_sh {sh : Sh} {ds : List D} (h : SShp sh ds) : okEs 15 ds = true := by
  obtain ⟨h1, h2⟩ := h
  induction ds with
  | nil => rfl
  | cons d ds ih =>
    simp only [okEs, Bool.and_eq_true]
    exact ⟨notEmp_ok 15 d sh (h2 d (by simp)).1 h1, ih fun z hz => h2 z (by simp [hz])⟩
/-- the items of a sorted list stand for the items of the sorted data -/
theorem perm_rp {K : PySem.W.Frag} {h : Heap} {sh : Sh} {d0 : D} {vs : List V} {ds : List D} {its : List Value} (rv : Vals vs its) (hm : its.map (pk h sh d0) = ds) : ∀ {out : List Value}, (∀ u ∈ out, u ∈ its) → ∃ us : List V, Vals us out ∧ ∀ G, RpL K G vs ds → RpL K G us (out.map (pk h sh d0))
  | [], _ => ⟨[], .nil, fun _ _ => .nil⟩
  | u :: out, hmem => by
    obtain ⟨us, h1, h2⟩ := perm_rp rv hm (out := out) fun z hz => hmem z (by simp [hz])
    obtain ⟨i, hi⟩ := List.getElem?_of_mem (hmem u (by simp))
    have hl : i < vs.length := by
      rw [rv.length]
      exact (List.getElem?_eq_some_iff.mp hi).1
    obtain ⟨u', e1, e2⟩ := rv.get (List.getElem?_eq_getElem hl)
    rw [hi] at e1; cases e1
    refine ⟨vs[i] :: us, .cons e2 h1, fun G r => .cons ?_ (h2 G r)⟩
    have : ds[i]? = some (pk h sh d0 u) := by rw [← hm, List.getElem?_map, hi]; rfl
    obtain ⟨v, c1, c2⟩ := r.get this
    rw [List.getElem?_eq_getElem hl] at c1; cases c1
    exact c2
theorem cr_sortD (hu : X.A.units + 64 < cLine) : CallR X (.builtin "sorted") (rSortD X.K) := by
  intro pins s σ H vs us Q I r h
  obtain ⟨a, xs, ds, sh, rfl, hs, hr, hsh, q⟩ := h
  obtain ⟨its, rv, hl, hz⟩ := I.list hs
  obtain ⟨u, rfl, ru⟩ := vals1 r
  obtain rfl : u = Value.ref a := ru
  have hok := okEs_sh hsh
  obtain ⟨as, rd⟩ := Dp.readsAll I (toPys ds) xs its (RpL.dp hok hr) rv
  cases hd : ds with
  | nil =>
    subst hd
    have hxe : xs = [] := by cases hr; rfl
    subst hxe
    have hie : its = [] := by cases rv; rfl
    subst hie
    refine SrtO.sorted_ord (vs := []) (ltv := fun _ _ => false) ⟨fun _ _ h => (by cases h), fun _ _ _ _ _ => rfl⟩ hl.isList (Nat.zero_le _) (fun h2 => absurd h2 (by simp)) fun out h1 h2 => ?_
    have ho : out = [] := List.Perm.eq_nil h2.perm
    subst ho
    have hd := PyProof.Rows.sortedAll_at s.heap [] ([] : List Value).toArray
    obtain ⟨n, hn⟩ := hd
    have ln : s.heap.objs.size ≤ s.heap.objs.size + 1 := Nat.le_succ _
    exact ⟨.ref (s.heap.objs.size + 1), upd H (s.heap.objs.size + 1) (.lst []), I.laid (t' := s.toks) (fun b o e => PyProof.Rows.sortedAll_old e) ln ⟨Nat.zero_le _, [], n, .nil, hn⟩, rfl, q _ [] (I.hok.fresh ln) fun G _ => .nil⟩
  | cons d0 dr =>
    have h0 : hasSh sh d0 = true := (hsh.2 d0 (by rw [hd]; simp)).1
    have hm : its.map (pk s.heap sh d0) = ds := pk_map (fun d hd => (hsh.2 d hd).1) rd
    refine SrtO.sorted_ord (swo_sh (h := s.heap) h0) hl.isList (by rw [← rv.length]; exact hz) (fun h2 h₁ a' ha kk => fun h' keep => ?_) fun out h1 h2 => ?_
    · have kp : ∀ b o, s.heap.get? b = some o → h'.get? b = some o := fun b o e => keep b o (kk b o e).1 (kk b o e).2
      exact sh_cmp (s := { s with heap := h' }) (PyProof.Rows.ReadsAll.keeps kp rd) kp rd hsh.2 h2 (by
        have e : X.A.in1.in1.units = X.A.units + 1 + 1 := rfl
        have := hsh.1
        rw [e]; omega)
    · have hd := PyProof.Rows.sortedAll_at s.heap its out.toArray
      obtain ⟨n, hn⟩ := hd
      have ln : s.heap.objs.size ≤ s.heap.objs.size + 1 := Nat.le_succ _
      obtain ⟨us, e1, e2⟩ := perm_rp (h := s.heap) (sh := sh) (d0 := d0) rv hm (out := out) fun u hu => h2.perm.mem_iff.mp hu
      have esort : out.map (pk s.heap sh d0) = isort ds := by
        have O := sh_ord sh
        refine srt_uniq O (fun y hy => ?_) ?_ (isort_srt O ds fun y hy => (hsh.2 y hy).1) ?_
        · obtain ⟨u, _, rfl⟩ := List.mem_map.mp hy
          exact pk_sh h0 u
        · exact List.pairwise_map.mpr h1
        · have := h2.perm.map (pk s.heap sh d0)
          rw [hm] at this
          exact this.trans (isort_perm ds).symm
      rw [esort] at e2
      have hlen : us.length ≤ sizeLine := by
        rw [e1.length, h2.perm.length_eq, ← rv.length]
        exact hz
      exact ⟨.ref (s.heap.objs.size + 1), upd H (s.heap.objs.size + 1) (.lst us), I.laid (t' := s.toks) (fun b o e => PyProof.Rows.sortedAll_old e) ln ⟨hlen, out, n, e1, hn⟩, rfl, q _ us (I.hok.fresh ln) e2⟩
def PSort (ds : List D) (z : D) (k : Kd) : Prop := ∃ xs sh, ds = [.lst xs] ∧ SShp sh xs ∧ z = .lst (isort xs) ∧ k = .nw
theorem snd_sort : ClP K (rSortD K) PSort := fun G B H vs ds z k R g g2 o p r => by
  obtain ⟨xs, sh, rfl, hs, rfl, rfl⟩ := p
  cases o with
  | cons o1 o2 =>
    cases o2
    obtain ⟨a, us, rfl, t, l⟩ := o1
    exact ⟨a, us, xs, sh, rfl, .inl (.inl (g2 _ _ t)), l.mono (g.trans g2), hs, fun p ws hp hw => r.new p _ rfl hp ⟨ws, upd_same, hw G l⟩⟩
end

/-! ### <, max, min of data -/
mutual
def ordOk : D → D → Bool
  | .int _, .int _ => true
  | .str _, .str _ => true
  | .tup xs, .tup ys => ordOks xs ys
  | _, _ => false
def ordOks : List D → List D → Bool
  | x :: xs, y :: ys => ordOk x y && ordOks xs ys
  | [], _ => true
  | _ :: _, [] => true
end
mutual
theorem ord_alike : ∀ (d e : D), ordOk d e = true → PySem.W.alike (toPy d) (toPy e) = true ∧ PySem.W.dataLt (toPy d) (toPy e) = dlt d e ∧ toPy d ≠ .none
  | .int i, e, h => by cases e <;> simp [ordOk] at h; exact ⟨by simp [toPy, PySem.W.alike], by simp only [toPy, PySem.W.dataLt_int, dlt], by simp [toPy]⟩
  | .str i, e, h => by cases e <;> simp [ordOk] at h; exact ⟨by simp [toPy, PySem.W.alike], by simp only [toPy, PySem.W.dataLt_str, dlt], by simp [toPy]⟩
  | .tup xs, e, h => by
    cases e <;> simp [ordOk] at h
    rename_i ys
    have a := ord_alikes xs ys h
    exact ⟨by simpa [toPy, PySem.W.alike] using a.1, by simp only [toPy, PySem.W.dataLt_tuple, dlt]; exact a.2, by simp [toPy]⟩
  | .non, e, h => by simp [ordOk] at h
  | .bl _, e, h => by simp [ordOk] at h
  | .lst _, e, h => by simp [ordOk] at h
  | .fl _, e, h => by simp [ordOk] at h
  | .ft _, e, h => by simp [ordOk] at h
  | .dk _, e, h => by simp [ordOk] at h
  | .dt _, e, h => by simp [ordOk] at h
theorem ord_alikes : ∀ (d e : List D), ordOks d e = true → PySem.W.alikeAll (toPys d) (toPys e) = true ∧ PyProof.Rows.lexLt PyProof.Rows.itemOrd (PySem.W.keyToksAll (toPys d)) (PySem.W.keyToksAll (toPys e)) = dlts d e
  | [], [], _ => ⟨by simp [toPys, PySem.W.alikeAll], by
      simp only [toPys, dlts]
      exact PyProof.Rows.lex_irrefl _⟩
  | [], y :: ys, _ => ⟨by simp [toPys, PySem.W.alikeAll], by
      simp only [toPys, dlts]
      rfl⟩
  | x :: xs, [], _ => ⟨by simp [toPys, PySem.W.alikeAll], by
      simp only [toPys, dlts]
      rfl⟩
  | x :: xs, y :: ys, h => by
    simp only [ordOks, Bool.and_eq_true] at h
    have a := ord_alike x y h.1
    have c := ord_alikes xs ys h.2
    refine ⟨by simp [toPys, PySem.W.alikeAll, a.1, c.1], ?_⟩
    simp only [toPys]
    rw [PySem.W.dataLt_cons a.1, eqv_py, c.2, a.2.1]
    rfl
end
/-- the four orders, of ints and of data that are alike -/
def cmpD (f : Int → Int → Bool) (g : D → D → Bool) : D → D → Oz
  | .int i, .int j => ozB (f i j)
  | d, e => if okE 20 d = true ∧ okE 20 e = true ∧ ordOk d e = true then ozB (g d e) else none
abbrev bLtD : D → D → Oz := cmpD (fun i j => decide (i < j)) dlt
abbrev bGtD : D → D → Oz := cmpD (fun i j => decide (j < i)) fun d e => dlt e d
abbrev bLeD : D → D → Oz := cmpD (fun i j => decide (i ≤ j)) fun d e => !dlt e d
abbrev bGeD : D → D → Oz := cmpD (fun i j => decide (j ≤ i)) fun d e => !dlt d e
def rCmpD (K : PySem.W.Frag) (f : Int → Int → Bool) (g : PyData → PyData → Bool) : R2 := fun x y H Q => rI0 (fun i j => .bl (f i j)) x y H Q ∨ ∃ d e, Dp K H x d ∧ Dp K H y e ∧ d.depth ≤ 64 ∧ PySem.W.alike d e = true ∧ d ≠ .none ∧ Q (.bl (g d e)) H
section
variable {X : Cx}
theorem op_cmpD {op : CmpOp} {f : Int → Int → Bool} {g : PyData → PyData → Bool} (h1 : OpR X (compareOp op) (rI0 fun i j => .bl (f i j)))
    (h2 : ∀ {s : Shared} {a b : Value} {da db : PyData} {as bs : List Addr} {Q : Value → Shared → Prop}, Reads s.heap a da as → Reads s.heap b db bs → PySem.W.alike da db = true → da ≠ .none → X.A.units + min da.depth db.depth < cLine → Q (.bool (g da db)) s → wpAny (model X.prog X.w) X.A (compareOp op a b) Q X.xe s)
    (hu : X.A.units + 64 < cLine) : OpR X (compareOp op) (rCmpD X.K f g) := h1.or fun pins s σ H x y v u Q I rx ry h => by
  obtain ⟨d, e, hd, he, dd, al, nn, q⟩ := h
  obtain ⟨as, r1⟩ := Dp.reads I d x v hd rx
  obtain ⟨bs, r2⟩ := Dp.reads I e y u he ry
  exact h2 r1 r2 al nn (by have := Nat.min_le_left d.depth e.depth; omega) ⟨.bl _, H, I, rfl, q⟩
def gLt (d e : PyData) : Bool := PySem.W.dataLt d e
def gGt (d e : PyData) : Bool := PySem.W.dataLt e d
def gLe (d e : PyData) : Bool := !PySem.W.dataLt e d
def gGe (d e : PyData) : Bool := !PySem.W.dataLt d e
theorem op_ltD (hu : X.A.units + 64 < cLine) : OpR X (compareOp .Lt) (rCmpD X.K (fun i j => decide (i < j)) gLt) := op_cmpD op_lt (fun r1 r2 a n h q => PySem.W.lt_data r1 r2 a n h q) hu
theorem op_gtD (hu : X.A.units + 64 < cLine) : OpR X (compareOp .Gt) (rCmpD X.K (fun i j => decide (j < i)) gGt) := op_cmpD op_gt (fun r1 r2 a n h q => PySem.W.gt_data r1 r2 a n h q) hu
theorem op_leD (hu : X.A.units + 64 < cLine) : OpR X (compareOp .LtE) (rCmpD X.K (fun i j => decide (i ≤ j)) gLe) := op_cmpD op_le (fun r1 r2 a n h q => PySem.W.le_data r1 r2 a n h q) hu
theorem op_geD (hu : X.A.units + 64 < cLine) : OpR X (compareOp .GtE) (rCmpD X.K (fun i j => decide (j ≤ i)) gGe) := op_cmpD op_ge (fun r1 r2 a n h q => PySem.W.ge_data r1 r2 a n h q) hu
theorem ordOk_symm : ∀ (d e : D), ordOk d e = true → ordOk e d = true
  | .int _, e, h => by cases e <;> simp [ordOk] at h ⊢
  | .str _, e, h => by cases e <;> simp [ordOk] at h ⊢
  | .tup xs, e, h => by
    cases e <;> simp [ordOk] at h ⊢
    rename_i ys
    exact go xs ys h
  | .non, e, h => by simp [ordOk] at h
  | .bl _, e, h => by simp [ordOk] at h
  | .lst _, e, h => by simp [ordOk] at h
  | .fl _, e, h => by simp [ordOk] at h
  | .ft _, e, h => by simp [ordOk] at h
  | .dk _, e, h => by simp [ordOk] at h
  | .dt _, e, h => by simp [ordOk] at h
where
  go : ∀ (xs ys : List D), ordOks xs ys = true → ordOks ys xs = true
  | [], [], _ => rfl
  | [], _ :: _, _ => rfl
  | _ :: _, [], _ => rfl
  | x :: xs, y :: ys, h => by
    simp only [ordOks, Bool.and_eq_true] at h ⊢
    exact ⟨ordOk_symm x y h.1, go xs ys h.2⟩
theorem snd_cmpD {f : Int → Int → Bool} {g : D → D → Bool} {g' : PyData → PyData → Bool} (hg : ∀ d e, ordOk d e = true → g' (toPy d) (toPy e) = g d e) : OpS K (rCmpD K f g') (cmpD f g) := fun G B H v u d e z k R gg g2 o1 o2 hf r => by
  unfold cmpD at hf
  split at hf
  · obtain rfl := ov_int o1
    obtain rfl := ov_int o2
    exact .inl ⟨_, _, rfl, rfl, res_bl hf r⟩
  · split at hf
    · rename_i h
      obtain ⟨h1, h2, h3⟩ := h
      have a := ord_alike d e h3
      refine .inr ⟨_, _, Rp.dp h1 ((o1.rp gg).mono g2), Rp.dp h2 ((o2.rp gg).mono g2), by have := (okE_lay 20 d h1).2; omega, a.1, a.2.2, ?_⟩
      rw [hg d e h3]
      exact res_bl hf r
    · cases hf
theorem snd_ltD : OpS K (rCmpD K (fun i j => decide (i < j)) gLt) bLtD := snd_cmpD fun d e h => (ord_alike d e h).2.1
theorem snd_gtD : OpS K (rCmpD K (fun i j => decide (j < i)) gGt) bGtD := snd_cmpD fun d e h => (ord_alike e d (ordOk_symm d e h)).2.1
theorem snd_leD : OpS K (rCmpD K (fun i j => decide (i ≤ j)) gLe) bLeD := snd_cmpD fun d e h => by unfold gLe; rw [(ord_alike e d (ordOk_symm d e h)).2.1]
theorem snd_geD : OpS K (rCmpD K (fun i j => decide (j ≤ i)) gGe) bGeD := snd_cmpD fun d e h => by unfold gGe; rw [(ord_alike d e h).2.1]

/-! max, min of a list, a tuple -/
def maxDD (x : D) (xs : List D) : D := xs.foldl (fun a y => if dlt a y = true then y else a) x
def minDD (x : D) (xs : List D) : D := xs.foldl (fun a y => if dlt y a = true then y else a) x
def allOrd (xs : List D) : Bool := okEs 20 xs && xs.all fun x => xs.all fun y => ordOk x y
theorem allOrd_mem {xs : List D} (h : allOrd xs = true) {x y : D} (hx : x ∈ xs) (hy : y ∈ xs) : ordOk x y = true := by
  unfold allOrd at h
  simp only [Bool.and_eq_true, List.all_eq_true] at h
  exact h.2 x hx y hy
theorem fold_mem {f : D → D → D} (hf : ∀ a y, f a y = y ∨ f a y = a) : ∀ (xs : List D) (x : D), xs.foldl f x ∈ x :: xs
  | [], x => by simp
  | y :: ys, x => by
    rw [List.foldl_cons]
    have := fold_mem hf ys (f x y)
    rcases List.mem_cons.mp this with h | h
    · rw [h]
      rcases hf x y with e | e <;> rw [e] <;> simp
    · simp [h]
theorem maxDD_mem (x : D) (xs : List D) : maxDD x xs ∈ x :: xs := fold_mem (fun a y => by split <;> simp) xs x
theorem minDD_mem (x : D) (xs : List D) : minDD x xs ∈ x :: xs := fold_mem (fun a y => by split <;> simp) xs x
theorem maxDD_py {P : List D} (h : allOrd P = true) : ∀ (xs : List D) (x : D), x ∈ P → (∀ y ∈ xs, y ∈ P) → PySem.W.maxD (toPy x) (toPys xs) = toPy (maxDD x xs)
  | [], x, _, _ => rfl
  | y :: ys, x, hx, hy => by
    have h1 := (ord_alike x y (allOrd_mem h hx (hy y (by simp)))).2.1
    show PySem.W.maxD (if PySem.W.dataLt (toPy x) (toPy y) = true then toPy y else toPy x) (toPys ys) = toPy (maxDD (if dlt x y = true then y else x) ys)
    rw [h1]
    by_cases c : dlt x y = true
    · rw [if_pos c, if_pos c]; exact maxDD_py h ys y (hy y (by simp)) fun z hz => hy z (by simp [hz])
    · rw [if_neg c, if_neg c]; exact maxDD_py h ys x hx fun z hz => hy z (by simp [hz])
theorem minDD_py {P : List D} (h : allOrd P = true) : ∀ (xs : List D) (x : D), x ∈ P → (∀ y ∈ xs, y ∈ P) → PySem.W.minD (toPy x) (toPys xs) = toPy (minDD x xs)
  | [], x, _, _ => rfl
  | y :: ys, x, hx, hy => by
    have h1 := (ord_alike y x (allOrd_mem h (hy y (by simp)) hx)).2.1
    show PySem.W.minD (if PySem.W.dataLt (toPy y) (toPy x) = true then toPy y else toPy x) (toPys ys) = toPy (minDD (if dlt y x = true then y else x) ys)
    rw [h1]
    by_cases c : dlt y x = true
    · rw [if_pos c, if_pos c]; exact minDD_py h ys y (hy y (by simp)) fun z hz => hy z (by simp [hz])
    · rw [if_neg c, if_neg c]; exact minDD_py h ys x hx fun z hz => hy z (by simp [hz])
mutual
theorem py_inj : ∀ (d e : D), ordOk d d = true → ordOk e e = true → toPy d = toPy e → d = e
  | .int i, e, _, h2, h => by cases e <;> simp [toPy] at h; rw [h]
  | .str i, e, _, h2, h => by cases e <;> simp [toPy] at h; rw [h]
  | .tup xs, e, h1, h2, h => by
    cases e with
    | tup ys =>
      simp only [toPy, PyData.tuple.injEq] at h
      rw [py_injs xs ys (by simpa [ordOk] using h1) (by simpa [ordOk] using h2) h]
    | ft ys => simp [ordOk] at h2
    | _ => simp [toPy] at h
  | .non, e, h1, _, _ => by simp [ordOk] at h1
  | .bl _, e, h1, _, _ => by simp [ordOk] at h1
  | .lst _, e, h1, _, _ => by simp [ordOk] at h1
  | .fl _, e, h1, _, _ => by simp [ordOk] at h1
  | .ft _, e, h1, _, _ => by simp [ordOk] at h1
  | .dk _, e, h1, _, _ => by simp [ordOk] at h1
  | .dt _, e, h1, _, _ => by simp [ordOk] at h1
theorem py_injs : ∀ (d e : List D), ordOks d d = true → ordOks e e = true → toPys d = toPys e → d = e
  | [], [], _, _, _ => rfl
  | [], _ :: _, _, _, h => by simp [toPys] at h
  | _ :: _, [], _, _, h => by simp [toPys] at h
  | x :: xs, y :: ys, h1, h2, h => by
    simp only [ordOks, Bool.and_eq_true] at h1 h2
    simp only [toPys, List.cons.injEq] at h
    rw [py_inj x y h1.1 h2.1 h.1, py_injs xs ys h1.2 h2.2 h.2]
end
theorem toPys_map : ∀ xs : List D, toPys xs = xs.map toPy
  | [] => rfl
  | x :: xs => by rw [List.map_cons, ← toPys_map xs]; rfl
theorem depthAll_mem : ∀ (xs : List D) (n : Nat), okEs n xs = true → PyData.depthAll (toPys xs) ≤ n := fun xs n h => (okEs_lay n xs h).2
theorem alike_all {xs : List D} (h : allOrd xs = true) : PySem.W.AlikeAll (toPys xs) := by
  rw [toPys_map]
  refine ⟨fun x hx y hy => ?_, fun x hx => ?_⟩
  · obtain ⟨a, ha, rfl⟩ := List.mem_map.mp hx
    obtain ⟨b, hb, rfl⟩ := List.mem_map.mp hy
    exact (ord_alike a b (allOrd_mem h ha hb)).1
  · obtain ⟨a, ha, rfl⟩ := List.mem_map.mp hx
    exact (ord_alike a a (allOrd_mem h ha ha)).2.2
def cMax : List D → Oz
  | [.lst (x :: xs)] => if allOrd (x :: xs) = true then some (maxDD x xs, .fz) else none
  | [.tup (x :: xs)] => if allOrd (x :: xs) = true then some (maxDD x xs, .fz) else none
  | [.int i, .int j] => ozI (if j > i then j else i)
  | _ => none
def cMin : List D → Oz
  | [.lst (x :: xs)] => if allOrd (x :: xs) = true then some (minDD x xs, .fz) else none
  | [.tup (x :: xs)] => if allOrd (x :: xs) = true then some (minDD x xs, .fz) else none
  | [.int i, .int j] => ozI (if j < i then j else i)
  | _ => none
/-- by the items' values: v stands at the place whose datum is the best -/
def rBestD (K : PySem.W.Frag) (best : D → List D → D) : List V → Hp → VK → Prop := fun xs H Q => ∃ a vs x ds, xs = [V.ref a] ∧ (SqL K H a vs ∨ SqT K H a vs) ∧ RpL K H vs (x :: ds) ∧ allOrd (x :: ds) = true ∧ ∀ (i : Nat) v, vs[i]? = some v → (x :: ds)[i]? = some (best x ds) → Q v H
theorem best_of {G : Hp} {vs : List V} {ds : List D} {i : Nat} {v : V} {d : D} (r : RpL K G vs ds) (e1 : vs[i]? = some v) (e2 : ds[i]? = some d) : Rp K G v d := by
  obtain ⟨v', c1, c2⟩ := r.get e2
  rw [e1] at c1; cases c1
  exact c2
theorem item_best {s : Shared} {X : Cx} {pins : List (Addr × Obj)} {σ : L2.St} {H : Hp} (I : Inv X pins σ H s) {vs : List V} {its : List Value} {ds : List D} {as : List Addr} {best : D} (rv : Vals vs its) (rd : ReadsAll s.heap its (toPys ds) as) (h : allOrd ds = true) (hb : best ∈ ds) {i : Nat} {v : Value} {h' : Heap} {bs : List Addr} (hi : its[i]? = some v)
    (hr : Reads h' v (toPy best) bs) (hk : ∀ b o, s.heap.get? b = some o → h'.get? b = some o) : ∃ x, vs[i]? = some x ∧ RelV x v ∧ ds[i]? = some best := by
  have hl : i < its.length := (List.getElem?_eq_some_iff.mp hi).1
  have hlv : i < vs.length := by rw [rv.length]; exact hl
  obtain ⟨u', e1, e2⟩ := rv.get (List.getElem?_eq_getElem hlv)
  rw [hi] at e1; cases e1
  have hld : i < ds.length := by rw [← reads_len rd]; exact hl
  obtain ⟨bs', r', _⟩ := PySem.W.readsAll_at rd i v hi
  have e3 : (toPys ds).getD i .none = toPy ds[i] := by
    rw [toPys_map, List.getD_eq_getElem?_getD, List.getElem?_map, List.getElem?_eq_getElem hld]; rfl
  rw [e3] at r'
  have hm : ds[i] ∈ ds := List.getElem_mem hld
  have hlay : (toPy ds[i]).canLay0 = true := by
    have ho : okEs 20 ds = true := by
      unfold allOrd at h
      simp only [Bool.and_eq_true] at h
      exact h.1
    have : ∀ (l : List D), okEs 20 l = true → ∀ d ∈ l, okE 20 d = true := by
      intro l
      induction l with
      | nil => intro _ d hd; simp at hd
      | cons y ys ih =>
        intro ho d hd
        simp only [okEs, Bool.and_eq_true] at ho
        rcases List.mem_cons.mp hd with rfl | hd
        · exact ho.1
        · exact ih ho.2 d hd
    exact (okE_lay 20 _ (this ds ho _ hm)).1
  have e4 := PySem.SeqAt.Reads.unique _ _ _ _ _ hlay (PyProof.Rows.Reads.keeps hk r') hr
  have e5 := py_inj _ _ (allOrd_mem h hm hm) (allOrd_mem h hb hb) e4
  exact ⟨_, List.getElem?_eq_getElem hlv, e2, by rw [List.getElem?_eq_getElem hld, e5]⟩
theorem allOrd_ok {ds : List D} (h : allOrd ds = true) : okEs 20 ds = true := by
  unfold allOrd at h
  simp only [Bool.and_eq_true] at h
  exact h.1
theorem cr_maxB (hc : X.calm = true) (hu : X.A.units + 64 < cLine) : CallR X (.builtin "max") (rBestD X.K maxDD) := by
  intro pins s σ H vs us Q I r h
  obtain ⟨a, xs, x, ds, rfl, hs, hr, ho, q⟩ := h
  obtain ⟨u, rfl, ru⟩ := vals1 r
  obtain rfl : u = Value.ref a := ru
  have hok := allOrd_ok ho
  have hdep : X.A.units + 1 + PyData.depthAll (toPys (x :: ds)) < cLine := by have := (okEs_lay 20 _ hok).2; omega
  rcases hs with hs | hs
  · obtain ⟨its, rv, hl, hz⟩ := I.list hs
    obtain ⟨as, rd⟩ := Dp.readsAll I (toPys (x :: ds)) xs its (RpL.dp hok hr) rv
    refine PySem.W.max_list_data (x := toPy x) (xs := toPys ds) (I.ok.hd hc) hl.isList (show ReadsAll s.heap its (toPy x :: toPys ds) as from rd) (alike_all ho) hdep fun i v h' tk bs hi hrd hk => ?_
    rw [maxDD_py ho ds x (by simp) (fun y hy => by simp [hy])] at hrd
    obtain ⟨y, e1, e2, e3⟩ := item_best I rv rd ho (maxDD_mem x ds) (by simpa using hi) hrd hk
    exact ⟨y, H, I.kept (t' := tk) hk, e2, q i y e1 e3⟩
  · obtain ⟨its, rv, hl, hz⟩ := I.tuple hs
    obtain ⟨as, rd⟩ := Dp.readsAll I (toPys (x :: ds)) xs its (RpL.dp hok hr) rv
    refine PySem.W.max_tuple_data (x := toPy x) (xs := toPys ds) (I.ok.hd hc) (show s.heap.IsTuple a its.toArray from hl) (show ReadsAll s.heap its (toPy x :: toPys ds) as from rd) (alike_all ho) hdep fun i v h' tk bs hi hrd hk => ?_
    rw [maxDD_py ho ds x (by simp) (fun y hy => by simp [hy])] at hrd
    obtain ⟨y, e1, e2, e3⟩ := item_best I rv rd ho (maxDD_mem x ds) (by simpa using hi) hrd hk
    exact ⟨y, H, I.kept (t' := tk) hk, e2, q i y e1 e3⟩
theorem cr_minB (hc : X.calm = true) (hu : X.A.units + 64 < cLine) : CallR X (.builtin "min") (rBestD X.K minDD) := by
  intro pins s σ H vs us Q I r h
  obtain ⟨a, xs, x, ds, rfl, hs, hr, ho, q⟩ := h
  obtain ⟨u, rfl, ru⟩ := vals1 r
  obtain rfl : u = Value.ref a := ru
  have hok := allOrd_ok ho
  have hdep : X.A.units + 1 + PyData.depthAll (toPys (x :: ds)) < cLine := by have := (okEs_lay 20 _ hok).2; omega
  rcases hs with hs | hs
  · obtain ⟨its, rv, hl, hz⟩ := I.list hs
    obtain ⟨as, rd⟩ := Dp.readsAll I (toPys (x :: ds)) xs its (RpL.dp hok hr) rv
    refine PySem.W.min_list_data (x := toPy x) (xs := toPys ds) (I.ok.hd hc) hl.isList (show ReadsAll s.heap its (toPy x :: toPys ds) as from rd) (alike_all ho) hdep fun i v h' tk bs hi hrd hk => ?_
    rw [minDD_py ho ds x (by simp) (fun y hy => by simp [hy])] at hrd
    obtain ⟨y, e1, e2, e3⟩ := item_best I rv rd ho (minDD_mem x ds) (by simpa using hi) hrd hk
    exact ⟨y, H, I.kept (t' := tk) hk, e2, q i y e1 e3⟩
  · obtain ⟨its, rv, hl, hz⟩ := I.tuple hs
    obtain ⟨as, rd⟩ := Dp.readsAll I (toPys (x :: ds)) xs its (RpL.dp hok hr) rv
    refine PySem.W.min_tuple_data (x := toPy x) (xs := toPys ds) (I.ok.hd hc) (show s.heap.IsTuple a its.toArray from hl) (show ReadsAll s.heap its (toPy x :: toPys ds) as from rd) (alike_all ho) hdep fun i v h' tk bs hi hrd hk => ?_
    rw [minDD_py ho ds x (by simp) (fun y hy => by simp [hy])] at hrd
    obtain ⟨y, e1, e2, e3⟩ := item_best I rv rd ho (minDD_mem x ds) (by simpa using hi) hrd hk
    exact ⟨y, H, I.kept (t' := tk) hk, e2, q i y e1 e3⟩
def rMaxD (K : PySem.W.Frag) : List V → Hp → VK → Prop := fun xs H Q => rBestD K maxDD xs H Q ∨ ∃ i j, xs = [.int i, .int j] ∧ Q (.int (if j > i then j else i)) H
def rMinD (K : PySem.W.Frag) : List V → Hp → VK → Prop := fun xs H Q => rBestD K minDD xs H Q ∨ ∃ i j, xs = [.int i, .int j] ∧ Q (.int (if j < i then j else i)) H
theorem cr_maxD (hc : X.calm = true) (hu : X.A.units + 64 < cLine) : CallR X (.builtin "max") (rMaxD X.K) := (cr_maxB hc hu).or (call_max2 hc)
theorem cr_minD (hc : X.calm = true) (hu : X.A.units + 64 < cLine) : CallR X (.builtin "min") (rMinD X.K) := (cr_minB hc hu).or (call_min2 hc)
theorem snd_cMax : ClS K (rMaxD K) cMax := fun G B H vs ds z k R g g2 o hf r => by
  unfold cMax at hf
  split at hf
  · split at hf
    · rename_i x xs h
      cases hf
      cases o with
      | cons o1 o2 =>
        cases o2
        obtain ⟨a, us, rfl, t, l⟩ := o1
        exact .inl ⟨a, us, x, xs, rfl, .inl (.inl (.inl (g2 _ _ t))), l.mono (g.trans g2), h, fun i v e1 e2 => r.val v rfl (best_of l e1 e2)⟩
    · cases hf
  · split at hf
    · rename_i x xs h
      cases hf
      cases o with
      | cons o1 o2 =>
        cases o2
        cases (show Rp K G _ (.tup (x :: xs)) from o1) with
        | @tup a us _ t l => exact .inl ⟨a, us, x, xs, rfl, .inr (exT (g.trans g2) t), l.mono (g.trans g2), h, fun i v e1 e2 => r.val v rfl (best_of l e1 e2)⟩
    · cases hf
  · cases o with
    | cons o1 o2 =>
      cases o2 with
      | cons o2 o3 =>
        cases o3
        obtain rfl := ov_int o1
        obtain rfl := ov_int o2
        exact .inr ⟨_, _, rfl, res_int hf r⟩
  · cases hf
theorem snd_cMin : ClS K (rMinD K) cMin := fun G B H vs ds z k R g g2 o hf r => by
  unfold cMin at hf
  split at hf
  · split at hf
    · rename_i x xs h
      cases hf
      cases o with
      | cons o1 o2 =>
        cases o2
        obtain ⟨a, us, rfl, t, l⟩ := o1
        exact .inl ⟨a, us, x, xs, rfl, .inl (.inl (.inl (g2 _ _ t))), l.mono (g.trans g2), h, fun i v e1 e2 => r.val v rfl (best_of l e1 e2)⟩
    · cases hf
  · split at hf
    · rename_i x xs h
      cases hf
      cases o with
      | cons o1 o2 =>
        cases o2
        cases (show Rp K G _ (.tup (x :: xs)) from o1) with
        | @tup a us _ t l => exact .inl ⟨a, us, x, xs, rfl, .inr (exT (g.trans g2) t), l.mono (g.trans g2), h, fun i v e1 e2 => r.val v rfl (best_of l e1 e2)⟩
    · cases hf
  · cases o with
    | cons o1 o2 =>
      cases o2 with
      | cons o2 o3 =>
        cases o3
        obtain rfl := ov_int o1
        obtain rfl := ov_int o2
        exact .inr ⟨_, _, rfl, res_int hf r⟩
  · cases hf

/-! sum of a list of ints -/
def intsOf : List D → Option (List Int)
  | [] => some []
  | .int i :: r => (intsOf r).map fun ns => i :: ns
  | _ => none
theorem ints_v {G : Hp} : ∀ {vs : List V} {ds : List D} {ns : List Int}, RpL K G vs ds → intsOf ds = some ns → vs = ns.map V.int
  | _, _, _, .nil, h => by cases h; rfl
  | _, _, _, .cons (d := d) (ds := ds) a r, h => by
    cases a <;> simp only [intsOf] at h <;> first | cases h; done | skip
    cases hi : intsOf ds with
    | none => rw [hi] at h; cases h
    | some ms =>
      rw [hi] at h; cases h
      rw [ints_v r hi]; rfl
def cSum : List D → Oz
  | [.lst ds] => (intsOf ds).bind fun ns => ozI ns.sum
  | _ => none
theorem snd_cSum : ClS K (rSum K) cSum := fun G B H vs ds z k R g g2 o hf r => by
  unfold cSum at hf
  split at hf
  · rename_i ds
    cases o with
    | cons o1 o2 =>
      cases o2
      obtain ⟨a, us, rfl, t, l⟩ := o1
      cases hi : intsOf ds with
      | none => rw [hi] at hf; cases hf
      | some ns =>
        rw [hi] at hf
        have e := ints_v l hi
        subst e
        exact ⟨a, ns, rfl, .inl (.inl (g2 _ _ t)), res_int hf r⟩
  · cases hf
end
end VL

namespace VL
open PySem PySem.Spec PyProof.Rows L2
open Evl (Ex)
section
variable {X : Cx} {e a b c : Expr} {es : List Expr} {te ta tb tc : TE} {t u w : WE} {pos : Pos} {st : Stmt} {sts : List Stmt} {ts us : TS} {r s : WS} {tt tu : TT} {p q : WT} {k : Nat}
theorem u64 (hr : Room k X.A) : X.A.units + 64 < cLine := hr.units
theorem u65 (hr : Room k X.A) : X.A.units + 65 < cLine := by have := hr.un; omega
theorem u1 (hr : Room k X.A) : X.A.units + 1 < cLine := by have := hr.un; omega
theorem e_subs (hr : Room k X.A) (ha : SE X a ta t) (hb : SE X b tb u) (hs : PlainIx b := by intro _ _; rfl) : SE X (.Subscript a b pos) (tOp (rSubs X.K) ta tb) (wBin bSubs t u) := ⟨pe_ix (ix_all (u1 hr)) ha.pe hb.pe hs, snd_op snd_bSubs ha.snd hb.snd⟩
/-! comparisons by kinds -/
theorem e_eq (hr : Room k X.A) (ha : SE X a ta t) (hb : SE X b tb u) : SE X (.Compare a [.Eq] [b] pos) (tOp (rEqD X.K) ta tb) (wBin bEq t u) := e_cmp (op_eqD (u64 hr)) snd_bEq ha hb (nomark _)
theorem e_ne (hr : Room k X.A) (ha : SE X a ta t) (hb : SE X b tb u) : SE X (.Compare a [.NotEq] [b] pos) (tOp (rNeD X.K) ta tb) (wBin bNe t u) := e_cmp (op_neD (u64 hr)) snd_bNe ha hb (nomark _)
theorem e_lt (hr : Room k X.A) (ha : SE X a ta t) (hb : SE X b tb u) : SE X (.Compare a [.Lt] [b] pos) (tOp (rCmpD X.K (fun i j => decide (i < j)) gLt) ta tb) (wBin bLtD t u) := e_cmp (op_ltD (u64 hr)) snd_ltD ha hb (nomark _)
theorem e_gt (hr : Room k X.A) (ha : SE X a ta t) (hb : SE X b tb u) : SE X (.Compare a [.Gt] [b] pos) (tOp (rCmpD X.K (fun i j => decide (j < i)) gGt) ta tb) (wBin bGtD t u) := e_cmp (op_gtD (u64 hr)) snd_gtD ha hb (nomark _)
theorem e_le (hr : Room k X.A) (ha : SE X a ta t) (hb : SE X b tb u) : SE X (.Compare a [.LtE] [b] pos) (tOp (rCmpD X.K (fun i j => decide (i ≤ j)) gLe) ta tb) (wBin bLeD t u) := e_cmp (op_leD (u64 hr)) snd_leD ha hb (nomark _)
theorem e_ge (hr : Room k X.A) (ha : SE X a ta t) (hb : SE X b tb u) : SE X (.Compare a [.GtE] [b] pos) (tOp (rCmpD X.K (fun i j => decide (j ≤ i)) gGe) ta tb) (wBin bGeD t u) := e_cmp (op_geD (u64 hr)) snd_geD ha hb (nomark _)
theorem e_in (hr : Room k X.A) (ha : SE X a ta t) (hb : SE X b tb u) (hm : behindInMarks .In b = false := by rfl) : SE X (.Compare a [.In] [b] pos) (tOp (rInAll X.K) ta tb) (wBin bIn t u) := e_cmp (op_inAll (u65 hr)) snd_bIn ha hb hm
theorem e_notin (hr : Room k X.A) (ha : SE X a ta t) (hb : SE X b tb u) (hm : behindInMarks .NotIn b = false := by rfl) : SE X (.Compare a [.NotIn] [b] pos) (tOp (rNotInAll X.K) ta tb) (wBin bNotIn t u) := e_cmp (op_notInAll (u65 hr)) snd_bNotIn ha hb hm
theorem e_is (ha : SE X a ta t) (hb : SE X b tb u) : SE X (.Compare a [.Is] [b] pos) (tOp (fun x y H Q => y = .non ∧ Q (.bl (decide (x = .non))) H) ta tb) (wBin bIs t u) := e_cmp op_isN snd_bIs ha hb (nomark _)
theorem e_isnot (ha : SE X a ta t) (hb : SE X b tb u) : SE X (.Compare a [.IsNot] [b] pos) (tOp (fun x y H Q => y = .non ∧ Q (.bl (!decide (x = .non))) H) ta tb) (wBin bIsNot t u) := e_cmp op_notN snd_bIsNot ha hb (nomark _)
theorem t_eq (hr : Room k X.A) (ha : SE X a ta t) (hb : SE X b tb u) : ST X (.Compare a [.Eq] [b] pos) (tTest (tOp (rEqD X.K) ta tb)) (wTest (wBin bEq t u)) := t_cmp (op_eqD (u64 hr)) snd_bEq ha hb (nomark _)
theorem t_ne (hr : Room k X.A) (ha : SE X a ta t) (hb : SE X b tb u) : ST X (.Compare a [.NotEq] [b] pos) (tTest (tOp (rNeD X.K) ta tb)) (wTest (wBin bNe t u)) := t_cmp (op_neD (u64 hr)) snd_bNe ha hb (nomark _)
theorem t_lt (hr : Room k X.A) (ha : SE X a ta t) (hb : SE X b tb u) : ST X (.Compare a [.Lt] [b] pos) (tTest (tOp (rCmpD X.K (fun i j => decide (i < j)) gLt) ta tb)) (wTest (wBin bLtD t u)) := t_cmp (op_ltD (u64 hr)) snd_ltD ha hb (nomark _)
theorem t_gt (hr : Room k X.A) (ha : SE X a ta t) (hb : SE X b tb u) : ST X (.Compare a [.Gt] [b] pos) (tTest (tOp (rCmpD X.K (fun i j => decide (j < i)) gGt) ta tb)) (wTest (wBin bGtD t u)) := t_cmp (op_gtD (u64 hr)) snd_gtD ha hb (nomark _)
theorem t_le (hr : Room k X.A) (ha : SE X a ta t) (hb : SE X b tb u) : ST X (.Compare a [.LtE] [b] pos) (tTest (tOp (rCmpD X.K (fun i j => decide (i ≤ j)) gLe) ta tb)) (wTest (wBin bLeD t u)) := t_cmp (op_leD (u64 hr)) snd_leD ha hb (nomark _)
theorem t_ge (hr : Room k X.A) (ha : SE X a ta t) (hb : SE X b tb u) : ST X (.Compare a [.GtE] [b] pos) (tTest (tOp (rCmpD X.K (fun i j => decide (j ≤ i)) gGe) ta tb)) (wTest (wBin bGeD t u)) := t_cmp (op_geD (u64 hr)) snd_geD ha hb (nomark _)
theorem t_in (hr : Room k X.A) (ha : SE X a ta t) (hb : SE X b tb u) (hm : behindInMarks .In b = false := by rfl) : ST X (.Compare a [.In] [b] pos) (tTest (tOp (rInAll X.K) ta tb)) (wTest (wBin bIn t u)) := t_cmp (op_inAll (u65 hr)) snd_bIn ha hb hm
theorem t_notin (hr : Room k X.A) (ha : SE X a ta t) (hb : SE X b tb u) (hm : behindInMarks .NotIn b = false := by rfl) : ST X (.Compare a [.NotIn] [b] pos) (tTest (tOp (rNotInAll X.K) ta tb)) (wTest (wBin bNotIn t u)) := t_cmp (op_notInAll (u65 hr)) snd_bNotIn ha hb hm
theorem t_is (ha : SE X a ta t) (hb : SE X b tb u) : ST X (.Compare a [.Is] [b] pos) (tTest (tOp (fun x y H Q => y = .non ∧ Q (.bl (decide (x = .non))) H) ta tb)) (wTest (wBin bIs t u)) := t_cmp op_isN snd_bIs ha hb (nomark _)
theorem t_isnot (ha : SE X a ta t) (hb : SE X b tb u) : ST X (.Compare a [.IsNot] [b] pos) (tTest (tOp (fun x y H Q => y = .non ∧ Q (.bl (!decide (x = .non))) H) ta tb)) (wTest (wBin bIsNot t u)) := t_cmp op_notN snd_bIsNot ha hb (nomark _)
/-! dicts -/
structure SP (X : Cx) (pos : Pos) (ks : List (Option Expr)) (vs : List Expr) (trs : List (TE × TE)) (t : WP) : Prop where
  pp : PPs X pos ks vs trs
  snd : SndP X.K trs t
theorem p_nil : SP X pos [] [] [] pNil := ⟨pps_nil, sndP_nil⟩
theorem p_cons {ks : List (Option Expr)} {vs : List Expr} {trs : List (TE × TE)} {y : WP} (ha : SE X a ta t) (hb : SE X b tb u) (hr : SP X pos ks vs trs y) : SP X pos (some a :: ks) (b :: vs) ((ta, tb) :: trs) (pCons t u y) := ⟨pps_cons ha.pe hb.pe hr.pp, sndP_cons ha.snd hb.snd hr.snd⟩
theorem e_disp {ks : List (Option Expr)} {vs : List Expr} {trs : List (TE × TE)} {y : WP} (h : SP X pos ks vs trs y) (hall : ks.all (·.isSome) = true := by rfl) (hl : ks.length = vs.length := by rfl) (h0 : ks ≠ [] := by intro z; cases z) (h15 : ks.length ≤ 15 := by decide) : SE X (.Dict ks vs pos) (tDisp trs) (wDisp y) := ⟨pe_disp h.pp hall hl h0 h15, snd_disp h.snd⟩
theorem e_dk0 : SE X (.Dict [] [] pos) tDNewK wDk0 := ⟨pe_dnewK, snd_dk0⟩
theorem e_dt0 : SE X (.Dict [] [] pos) tDNewT wDt0 := ⟨pe_dnewT, snd_dt0⟩
theorem s_dput (j : Nat) {n : Str} {np pos' : Pos} (hr : Room k X.A) (hk : SE X b tb u) (hv : SE X a ta t) (hN : X.N[j]? = some n := by rfl) (hv' : Vis X.env.scope n := by first | exact Or.inl rfl | exact Or.inr (Or.inl rfl) | exact Or.inr (Or.inr rfl)) (hd : (n == ("__debug__" : Str)) = false := by decide) (hcd : (n == ("__classdict__" : Str)) = false := by decide)
    (hs : swapsWith a (some (.Subscript (.Name n np) b pos')) pos.line X.env = pure false := by rfl) : SS X (.Assign [.Subscript (.Name n np) b pos'] a pos) (sDPut (tVar j) tb ta) (wDPut j u t) := ⟨ps_dput (u1 hr) (pe_var hN hv' hd hcd) hk.pe hv.pe hs, snd_dput hk.snd hv.snd⟩
/-! built-ins by name -/
section
variable {xa : TA} {x : WA} {pp : Pos}
theorem c_len (hm : X.mg "len" = none) (ha : SO X (e :: es) xa x) (hg : Gl X "len" := by rfl) (he : starEach (e :: es) X.env = (false, eval e X.env) :: starEach es X.env := by rfl) (hpl : (backTo pos (starEach es X.env)).any (·.1) = false := by rfl) : SE X (.Call (.Name "len" pp) (e :: es) [] pos) (tCB (rLenD X.K) xa) (wCl cLen x) :=
  e_callB cr_lenD snd_cLen hm PySem.boot_len ha hg (by decide) (by decide) he hpl
theorem c_sum (hm : X.mg "sum" = none) (ha : SO X (e :: es) xa x) (hg : Gl X "sum" := by rfl) (he : starEach (e :: es) X.env = (false, eval e X.env) :: starEach es X.env := by rfl) (hpl : (backTo pos (starEach es X.env)).any (·.1) = false := by rfl) (hc : X.calm = true := by rfl) : SE X (.Call (.Name "sum" pp) (e :: es) [] pos) (tCB (rSum X.K) xa) (wCl cSum x) :=
  e_callB (cr_sum hc) snd_cSum hm (by decide +kernel) ha hg (by decide) (by decide) he hpl
theorem c_max (hr : Room k X.A) (hm : X.mg "max" = none) (ha : SO X (e :: es) xa x) (hg : Gl X "max" := by rfl) (he : starEach (e :: es) X.env = (false, eval e X.env) :: starEach es X.env := by rfl) (hpl : (backTo pos (starEach es X.env)).any (·.1) = false := by rfl) (hc : X.calm = true := by rfl) : SE X (.Call (.Name "max" pp) (e :: es) [] pos) (tCB (rMaxD X.K) xa) (wCl cMax x) :=
  e_callB (cr_maxD hc (u64 hr)) snd_cMax hm (by decide +kernel) ha hg (by decide) (by decide) he hpl
theorem c_min (hr : Room k X.A) (hm : X.mg "min" = none) (ha : SO X (e :: es) xa x) (hg : Gl X "min" := by rfl) (he : starEach (e :: es) X.env = (false, eval e X.env) :: starEach es X.env := by rfl) (hpl : (backTo pos (starEach es X.env)).any (·.1) = false := by rfl) (hc : X.calm = true := by rfl) : SE X (.Call (.Name "min" pp) (e :: es) [] pos) (tCB (rMinD X.K) xa) (wCl cMin x) :=
  e_callB (cr_minD hc (u64 hr)) snd_cMin hm (by decide +kernel) ha hg (by decide) (by decide) he hpl
def rAbs : List V → Hp → VK → Prop := fun xs H Q => ∃ i, xs = [.int i] ∧ Q (.int (if i < 0 then -i else i)) H
theorem c_abs (hm : X.mg "abs" = none) (ha : SO X (e :: es) xa x) (hg : Gl X "abs" := by rfl) (he : starEach (e :: es) X.env = (false, eval e X.env) :: starEach es X.env := by rfl) (hpl : (backTo pos (starEach es X.env)).any (·.1) = false := by rfl) : SE X (.Call (.Name "abs" pp) (e :: es) [] pos) (tCB rAbs xa) (wCl cAbs x) :=
  e_callB call_abs snd_cAbs hm (by decide +kernel) ha hg (by decide) (by decide) he hpl
theorem c_sorted (hr : Room k X.A) (hm : X.mg "sorted" = none) (ha : SO X (e :: es) xa x) (hg : Gl X "sorted" := by rfl) (he : starEach (e :: es) X.env = (false, eval e X.env) :: starEach es X.env := by rfl) (hpl : (backTo pos (starEach es X.env)).any (·.1) = false := by rfl) : SE X (.Call (.Name "sorted" pp) (e :: es) [] pos) (tCB (rSortD X.K) xa) (wClP PSort x) :=
  ⟨pe_callB (cr_sortD (u64 hr)) hg hm (by decide +kernel) ha.pa (by decide) (by decide) he hpl, snd_clP snd_sort ha.snd⟩
def rInt1 : List V → Hp → VK → Prop := fun xs H Q => (∃ i, xs = [.int i] ∧ Q (.int i) H) ∨ ∃ k, xs = [.bl k] ∧ Q (.int (if k then 1 else 0)) H
theorem c_int (hm : X.mg "int" = none) (ha : SO X (e :: es) xa x) (hg : Gl X "int" := by rfl) (he : starEach (e :: es) X.env = (false, eval e X.env) :: starEach es X.env := by rfl) (hpl : (backTo pos (starEach es X.env)).any (·.1) = false := by rfl) : SE X (.Call (.Name "int" pp) (e :: es) [] pos) (tCB rInt1 xa) (wCl cInt x) :=
  e_callT call_int1 snd_cInt hm (by decide +kernel) ha hg (by decide) (by decide) he hpl
def rTup1 (K : PySem.W.Frag) : List V → Hp → VK → Prop := fun xs H Q => ∃ p ys, xs = [.ref p] ∧ ((SqL K H p ys ∧ ∀ l, H l = none → Q (.ref l) (upd H l (.tup ys))) ∨ (SqT K H p ys ∧ Q (.ref p) H))
theorem c_tuple (hm : X.mg "tuple" = none) (ha : SO X (e :: es) xa x) (hg : Gl X "tuple" := by rfl) (he : starEach (e :: es) X.env = (false, eval e X.env) :: starEach es X.env := by rfl) (hpl : (backTo pos (starEach es X.env)).any (·.1) = false := by rfl) : SE X (.Call (.Name "tuple" pp) (e :: es) [] pos) (tCB (rTup1 X.K) xa) (wCl cTuple x) :=
  e_callT call_tuple_of snd_cTuple hm (by decide +kernel) ha hg (by decide) (by decide) he hpl
def rList (K : PySem.W.Frag) : List V → Hp → VK → Prop := fun xs H Q => (∃ p ys, xs = [.ref p] ∧ (SqL K H p ys ∨ SqT K H p ys) ∧ ∀ l, H l = none → Q (.ref l) (upd H l (.lst ys)))
theorem c_list (hm : X.mg "list" = none) (ha : SO X (e :: es) xa x) (hg : Gl X "list" := by rfl) (he : starEach (e :: es) X.env = (false, eval e X.env) :: starEach es X.env := by rfl) (hpl : (backTo pos (starEach es X.env)).any (·.1) = false := by rfl) : SE X (.Call (.Name "list" pp) (e :: es) [] pos) (tCB (rList X.K) xa) (wCl cList x) :=
  e_callT call_list_of snd_cList hm (by decide +kernel) ha hg (by decide) (by decide) he hpl
/-! list(range(..)), tuple(range(..)) -/
abbrev WR := Rho → (Int → Int → Rho → Prop) → Prop
def wRg1 (t : WE) : WR := fun ρ Q => t ρ fun d _ ρ1 => match d with
  | .int n => Q 0 n ρ1
  | _ => False
def wRg2 (t u : WE) : WR := fun ρ Q => t ρ fun d _ ρ1 => u ρ1 fun e _ ρ2 => match d, e with
  | .int i, .int j => Q i j ρ2
  | _, _ => False
def SndR (K : PySem.W.Frag) (tr : L2.St → Hp → (Int → Int → Hp → Prop) → Prop) (t : WR) : Prop := ∀ (b : Bs) (G : Hp) (ρ : Rho) (σ : L2.St) (H : Hp) (Q : Int → Int → Rho → Prop) (R : Int → Int → Hp → Prop), Sim K b G ρ σ H → t ρ Q →
  (∀ i j ρ' G' H', Q i j ρ' → Xt b ρ σ G H ρ' G' H' → Sim K b G' ρ' σ H' → R i j H') → tr σ H R
structure SR (X : Cx) (e : Expr) (tr : L2.St → Hp → (Int → Int → Hp → Prop) → Prop) (t : WR) : Prop where
  pr : PRg X e tr
  snd : SndR X.K tr t
theorem r_1 (hm : X.mg "range" = none) (ha : SE X a ta t) (hg : Gl X "range" := by rfl) (na : starEach [a] X.env = (false, eval a X.env) :: starEach [] X.env := by rfl) : SR X (.Call (.Name "range" pp) [a] [] pos) (tRg1 ta) (wRg1 t) :=
  ⟨prg_1 hg hm ha.pe na, fun b G ρ σ H Q R s hq k => by
    refine ha.snd b G ρ σ H _ _ s hq fun d kd ρ1 v G1 H1 q1 x1 s1 r1 => ?_
    have o := r1.ov s1
    split at q1
    · obtain rfl := ov_int o
      exact ⟨_, rfl, k _ _ _ _ _ q1 x1 s1⟩
    · exact q1.elim⟩
theorem r_2 (hm : X.mg "range" = none) (ha : SE X a ta t) (hb : SE X b tb u) (hg : Gl X "range" := by rfl) (na : starEach [a, b] X.env = (false, eval a X.env) :: starEach [b] X.env := by rfl) (nb : starEach [b] X.env = (false, eval b X.env) :: starEach [] X.env := by rfl) (hp : (backTo pos (starEach [b] X.env)).any (·.1) = false := by rfl) : SR X (.Call (.Name "range" pp) [a, b] [] pos) (tRg2 ta tb) (wRg2 t u) :=
  ⟨prg_2 hg hm ha.pe hb.pe na nb hp, fun b G ρ σ H Q R s hq k => by
    refine ha.snd b G ρ σ H _ _ s hq fun d kd ρ1 v G1 H1 q1 x1 s1 r1 => ?_
    refine hb.snd b G1 ρ1 σ H1 _ _ s1 q1 fun e ke ρ2 u G2 H2 q2 x2 s2 r2 => ?_
    have o1 := (r1.ov s1).mono x2.g x2.h
    have o2 := r2.ov s2
    split at q2
    · obtain rfl := ov_int o1
      obtain rfl := ov_int o2
      exact ⟨_, _, rfl, rfl, k _ _ _ _ _ q2 (x1.trans x2) s2⟩
    · exact q2.elim⟩
theorem rp_rng {K : PySem.W.Frag} {G : Hp} (i j : Int) : RpL K G (rgV i j) (rng i (j - i).toNat) := by
  unfold rgV rng
  induction List.range (j - i).toNat with
  | nil => exact .nil
  | cons n r ih => exact .cons (.int _) ih
def rgOk (i j : Int) : Prop := i62 i ∧ i62 j ∧ (j - i).toNat ≤ LIM
theorem rgOk_of {i j : Int} (h : rgOk i j) : RgOk i j := by
  obtain ⟨⟨a1, a2⟩, ⟨a3, a4⟩, a5⟩ := h
  unfold LIM at a5
  exact ⟨by omega, by omega, by omega, by omega, by omega⟩
def wLstRg (t : WR) : WE := fun ρ Q => t ρ fun i j ρ1 => rgOk i j ∧ Q (.lst (rng i (j - i).toNat)) .nw ρ1
def wTupRg (t : WR) : WE := fun ρ Q => t ρ fun i j ρ1 => rgOk i j ∧ Q (.tup (rng i (j - i).toNat)) .fz ρ1
theorem c_listRg {tr : L2.St → Hp → (Int → Int → Hp → Prop) → Prop} {y : WR} (hm : X.mg "list" = none) (he : SR X e tr y) (hg : Gl X "list" := by rfl) (na : starEach [e] X.env = (false, eval e X.env) :: starEach [] X.env := by rfl) (hc : X.calm = true := by rfl) : SE X (.Call (.Name "list" pp) [e] [] pos) (tLstRg tr) (wLstRg y) :=
  ⟨pe_listRg hc hg hm he.pr na, fun b G ρ σ H Q R s hq k => he.snd b G ρ σ H _ _ s hq fun i j ρ1 G1 H1 q1 x1 s1 => ⟨rgOk_of q1.1, fun p hp =>
    (res_of s1 (fun d k' ρ' v G' H' q x s r => k d k' ρ' v G' H' q (x1.trans x) s (r.back x1.h)) q1.2).new p _ rfl hp ⟨_, upd_same, rp_rng i j⟩⟩⟩
theorem c_tupRg {tr : L2.St → Hp → (Int → Int → Hp → Prop) → Prop} {y : WR} (hm : X.mg "tuple" = none) (he : SR X e tr y) (hg : Gl X "tuple" := by rfl) (na : starEach [e] X.env = (false, eval e X.env) :: starEach [] X.env := by rfl) (hc : X.calm = true := by rfl) : SE X (.Call (.Name "tuple" pp) [e] [] pos) (tTupRg tr) (wTupRg y) :=
  ⟨pe_tupRg hc hg hm he.pr na, fun b G ρ σ H Q R s hq k => he.snd b G ρ σ H _ _ s hq fun i j ρ1 G1 H1 q1 x1 s1 => ⟨rgOk_of q1.1, fun p hp =>
    (res_of s1 (fun d k' ρ' v G' H' q x s r => k d k' ρ' v G' H' q (x1.trans x) s (r.back x1.h)) q1.2).tup p _ _ rfl rfl hp (rp_rng i j)⟩⟩
end
end
end VL

namespace VL
open PySem PySem.Spec PyProof.Rows L2
open Evl (Ex)
variable {K : PySem.W.Frag}
/-- a constant of the module -/
def GlobOk (K : PySem.W.Frag) (mg : Str → Option Value) (x : Str) (d : D) : Prop := ∃ (u : Value) (v : V), mg x = some u ∧ RelV v u ∧ ∀ G, Rp K G v d

/-! ### slices -/
abbrev WPt := Rho → (Option Int → Rho → Prop) → Prop
def wPNone : WPt := fun ρ Q => Q none ρ
def wPSome (t : WE) : WPt := fun ρ Q => t ρ fun d _ ρ1 => match d with
  | .int i => Q (some i) ρ1
  | _ => False
def SndPt (K : PySem.W.Frag) (to : TO) (t : WPt) : Prop := ∀ (b : Bs) (G : Hp) (ρ : Rho) (σ : L2.St) (H : Hp) (Q : Option Int → Rho → Prop) (R : Option Int → Hp → Prop), Sim K b G ρ σ H → t ρ Q →
  (∀ o ρ' G' H', Q o ρ' → Xt b ρ σ G H ρ' G' H' → Sim K b G' ρ' σ H' → R o H') → to σ H R
structure SQ (X : Cx) (e : Option Expr) (to : TO) (t : WPt) : Prop where
  po : PO X e to
  snd : SndPt X.K to t
def cutD (xs : List D) (lo hi : Option Int) : List D := (xs.drop (HT.sIx xs.length 0 lo)).take (HT.sIx xs.length xs.length hi - HT.sIx xs.length 0 lo)
def dSlice (d : D) (lo hi : Option Int) : Oz := match d with
  | .lst xs => some (.lst (cutD xs lo hi), .nw)
  | .tup xs => some (.tup (cutD xs lo hi), .fz)
  | .str z => if z.length ≤ LIM then some (.str (cutS z lo hi), .fz) else none
  | _ => none
def wSlice (t : WE) (p q : WPt) : WE := fun ρ Q => t ρ fun d _ ρ1 => p ρ1 fun lo ρ2 => q ρ2 fun hi ρ3 => oB (dSlice d lo hi) fun z k => Q z k ρ3
def SlS (K : PySem.W.Frag) (r : V → Option Int → Option Int → Hp → VK → Prop) (f : D → Option Int → Option Int → Oz) : Prop := ∀ (G B H : Hp) (v : V) (d z : D) (lo hi : Option Int) (k : Kd) (R : VK), Ex G B → Ex B H → Ov K G B v d → f d lo hi = some (z, k) → Res K G H z k R → r v lo hi H R
theorem snd_slice {r : V → Option Int → Option Int → Hp → VK → Prop} {te : TE} {tl th : TO} {t : WE} {p q : WPt} (hr : SlS K r dSlice) (ha : SndE K te t) (hl : SndPt K tl p) (hh : SndPt K th q) : SndE K (tSl r te tl th) (wSlice t p q) := by
  intro b G ρ σ H Q R s h k
  refine ha b G ρ σ H _ _ s h fun d ka ρ1 v G1 H1 q1 x1 s1 r1 => ?_
  refine hl b G1 ρ1 σ H1 _ _ s1 q1 fun lo ρ2 G2 H2 q2 x2 s2 => ?_
  refine hh b G2 ρ2 σ H2 _ _ s2 q2 fun hi ρ3 G3 H3 q3 x3 s3 => ?_
  have x23 := x2.trans x3
  have o1 := (r1.ov s1).mono x23.g x23.h
  cases hf : dSlice d lo hi with
  | none => rw [hf] at q3; exact q3.elim
  | some zk =>
    obtain ⟨z, kd⟩ := zk
    rw [hf] at q3
    exact hr G3 (hd b.aw H3) H3 v d z lo hi kd R s3.sub hd_le o1 hf (res_of s3 (fun d k' ρ' v G' H' q x s r => k d k' ρ' v G' H' q ((x1.trans x23).trans x) s (r.back (x1.trans x23).h)) q3)
def rSlice (K : PySem.W.Frag) : V → Option Int → Option Int → Hp → VK → Prop := fun x lo hi H Q => rSlL K x lo hi H Q ∨ rSlA K x lo hi H Q ∨ rSlS x lo hi H Q
theorem RpL.cut {G : Hp} {vs : List V} {ds : List D} (h : RpL K G vs ds) (lo hi : Option Int) : RpL K G (cutV vs lo hi) (cutD ds lo hi) := by
  unfold cutV cutD
  rw [h.length]
  exact (h.drop _).take _
theorem cut_whole {ds : List D} {lo hi : Option Int} (h : HT.sIx ds.length 0 lo = 0 ∧ HT.sIx ds.length ds.length hi = ds.length) : cutD ds lo hi = ds := by
  unfold cutD
  rw [h.1, h.2]
  simp
theorem snd_dSlice : SlS K (rSlice K) dSlice := fun G B H v d z lo hi k R g g2 o hf r => by
  unfold dSlice at hf
  split at hf
  · cases hf
    obtain ⟨a, vs, rfl, t, l⟩ := o
    exact .inl ⟨a, vs, rfl, .inl (.inl (g2 _ _ t)), fun p hp => r.new p _ rfl hp ⟨_, upd_same, l.cut lo hi⟩⟩
  · rename_i xs
    cases hf
    cases (show Rp K G v (.tup xs) from o) with
    | @tup a vs _ t l =>
      refine .inr (.inl ⟨a, vs, rfl, exT (g.trans g2) t, fun e => ?_, fun _ p hp => r.tup p _ _ rfl rfl hp (l.cut lo hi)⟩)
      rw [l.length] at e
      exact r.val _ rfl (by rw [cut_whole e]; exact .tup t l)
  · obtain rfl := ov_str o
    split at hf
    · rename_i hl
      cases hf
      exact .inr (.inr ⟨_, rfl, lim_le hl, r.val _ rfl (.str _)⟩)
    · cases hf
  · cases hf
section
variable {X : Cx} {e a : Expr} {te ta : TE} {t u : WE} {pos p2 : Pos} {lo hi : Option Expr} {tl th : TO} {p q : WPt}
theorem q_none : SQ X none tNoPart wPNone := ⟨po_none, fun b G ρ σ H Q R s q k => k none ρ G H q .refl s⟩
theorem q_some (h : SE X e te t) : SQ X (some e) (tPart te) (wPSome t) := ⟨po_some h.pe, fun b G ρ σ H Q R s hq k => by
  refine h.snd b G ρ σ H _ _ s hq fun d kd ρ1 v G1 H1 q1 x1 s1 r1 => ?_
  have o := r1.ov s1
  split at q1
  · obtain rfl := ov_int o
    exact ⟨_, rfl, k _ _ _ _ q1 x1 s1⟩
  · exact q1.elim⟩
theorem e_slice (ha : SE X e te t) (hl : SQ X lo tl p) (hh : SQ X hi th q) : SE X (.Subscript e (.Slice lo hi none p2) pos) (tSl (rSlice X.K) te tl th) (wSlice t p q) := ⟨pe_slice (sl_list.or (sl_tupA.or sl_str)) ha.pe hl.po hh.po, snd_slice snd_dSlice ha.snd hl.snd hh.snd⟩
end
end VL

namespace VL
open PySem PySem.Spec PyProof.Rows L2
open Evl (Ex)
variable {K : PySem.W.Frag}
/-! ### the next draw: any number in its range -/
def nxAt : TE := tDGet (tVar 0) (tC (.str "at"))
def nxDr : TE := tDGet (tVar 0) (tC (.str "draws"))
def tNx (K : PySem.W.Frag) : TS :=
  tSeq (sDAug (tVar 0) (tC (.str "at")) (tC (.int 1)) L2.rAdd)
    (tSeq (tIfS (tTest (tOp (rI0 fun i j => .bl (decide (j < i))) nxAt (tCB (rLenD K) (tCons nxDr tNil)))) (tRet (tC (.int 0))) tNext)
      (tRet (tOp (rI (fun _ j => j ≠ 0) fun i j => .int (i.fmod j)) (tCB rInt1 (tCons (tOp (rIx K) nxDr (tOp (rI0 fun i j => .int (i - j)) nxAt (tC (.int 1)))) tNil)) (tVar 1))))
/-- a draw out of 0 .. m-1 -/
def spNext : FS := fun as q => ∃ m : Int, as = [.w, .d (.int m)] ∧ 0 < m ∧ ∀ r : Int, 0 ≤ r → r < m → q (.int r) .fz
section
variable {P : Program} {w : World} {mg : Str → Option Value} {base : Heap}
theorem get_at {ad : Addr} {t : Int} {H : Hp} {a : Addr} (h : H a = some (.dK [(.inr "draws", .ref ad), (.inr "at", .int t)])) : DGet H a (.str "at") (some (.int t)) := DGet.k (k := .inr "at") h
theorem get_dr {ad : Addr} {t : Int} {H : Hp} {a : Addr} (h : H a = some (.dK [(.inr "draws", .ref ad), (.inr "at", .int t)])) : DGet H a (.str "draws") (some (.ref ad)) := DGet.k (k := .inr "draws") h
theorem put_at {ad : Addr} {t u : Int} {H : Hp} {a : Addr} (h : H a = some (.dK [(.inr "draws", .ref ad), (.inr "at", .int t)])) : DPut H a (.str "at") (.int u) (upd H a (.dK [(.inr "draws", .ref ad), (.inr "at", .int u)])) := DPut.k (k := .inr "at") h (by rw [sizeLine_eq]; show 2 < 16777216; decide)
theorem next_ok {st : Stmt} {f : Addr} {fd : FuncData} (F : Fun K "_law_next" "_law_next" st f fd) (S : FnScope ["w", "many"] ["w", "many"] (defScope st))
    (hb : ∀ (cdv : Value) (A : Around) (outer : List Env) (s : Shared) (H : Hp) (E : XK), Room 0 (A.deeper (envOfC "_law_next" (defScope st) s.heap.objs.size f cdv)) → PSs (cxOf CX0 P w K mg base ["w", "many"] "_law_next" (defScope st) f cdv A outer s H E).nox (defBody st) (tNx K)) :
    FnOk P w K mg base CX0 1 f fd ["w", "many"] (toSp K spNext) := by
  refine F.ok S (fun vs H Q E h => ?_) fun cdv A outer s H vs Q E hr h => ?_
  · obtain ⟨aw, G, as, q, _, _, r, ⟨m, rfl, _⟩, _⟩ := h
    rw [Paired.len r]; rfl
  · obtain ⟨aw, G, as, q, g, hw, r, ⟨m, rfl, hm, hq⟩, back⟩ := h
    obtain ⟨v0, v1, rfl, r0, r1⟩ : ∃ v0 v1, vs = [v0, v1] ∧ RpA K ⟨aw, G, hd aw H⟩ G v0 .w ∧ RpA K ⟨aw, G, hd aw H⟩ G v1 (.d (.int m)) := by
      cases r with
      | cons a r => cases r with
        | cons b r => cases r with
          | nil => exact ⟨_, _, rfl, a, b⟩
    obtain ⟨a, ea, rfl⟩ := r0
    obtain rfl : v1 = .int m := ov_int (B := H) (Rp.ov (show Rp K G v1 (.int m) from r1) (g.trans hd_le))
    have ea : aw = some a := ea
    obtain ⟨ad, t, ns, h1, h2, h3, h4⟩ := hw a ea
    have hdk : hd aw (upd H a (.dK [(.inr "draws", .ref ad), (.inr "at", .int (t + 1))])) = hd aw H := by
      funext c
      unfold hd
      by_cases hc : aw = some c
      · rw [if_pos hc, if_pos hc]
      · rw [if_neg hc, if_neg hc]
        exact upd_ne fun z => hc (z ▸ ea)
    have H5 : (upd H a (.dK [(.inr "draws", .ref ad), (.inr "at", .int (t + 1))])) a = some (.dK [(.inr "draws", .ref ad), (.inr "at", .int (t + 1))]) := upd_same
    have e5 : Ex G (upd H a (.dK [(.inr "draws", .ref ad), (.inr "at", .int (t + 1))])) := (by rw [hdk]; exact g : Ex G (hd aw (upd H a (.dK [(.inr "draws", .ref ad), (.inr "at", .int (t + 1))])))).trans hd_le
    have sl : SqL K (upd H a (.dK [(.inr "draws", .ref ad), (.inr "at", .int (t + 1))])) ad (ns.map V.int) := Evl.ex_l e5 h3
    have fin : ∀ r : Int, 0 ≤ r → r < m → Q (.int r) (upd H a (.dK [(.inr "draws", .ref ad), (.inr "at", .int (t + 1))])) := fun r r0 r1 =>
      back (.int r) .fz (.int r) G _ (hq r r0 r1) (Ex.refl _) (by rw [hdk]; exact g) (by rw [hdk]; exact Ex.refl _) (fun _ _ _ e => e) (fun b eb => by
        obtain rfl : b = a := Option.some.inj (eb.symm.trans ea)
        exact ⟨ad, t + 1, ns, upd_same, by omega, h3, h4⟩) (.int r)
    refine ⟨tNx K, hb cdv A outer s H E hr, ?_⟩
    refine ⟨.ref a, rfl, a, .int t, rfl, get_at h1, t, 1, rfl, rfl, _, put_at h1, ?_⟩
    refine ⟨.ref a, rfl, a, _, rfl, get_at H5, .ref a, rfl, a, _, rfl, get_dr H5, .inl ⟨ad, _, rfl, .inl sl, t + 1, _, rfl, rfl, ?_⟩⟩
    refine ⟨_, rfl, ?_⟩
    rw [List.length_map]
    by_cases hl : (ns.length : Int) < t + 1
    · refine ite2 (fun _ => ?_) (fun e => absurd (decide_eq_true hl) e)
      exact fin 0 (by omega) hm
    · refine ite2 (fun e => absurd (of_decide_eq_true e) hl) (fun _ => ?_)
      have hlt : t.toNat < ns.length := by omega
      have e1 : atI (ns.map V.int) (t + 1 - 1) = some (.int ns[t.toNat]) := by
        rw [show t + 1 - 1 = ((t.toNat : Nat) : Int) by omega]
        exact atI_nat (by rw [List.getElem?_map, List.getElem?_eq_getElem hlt]; rfl)
      refine ⟨.ref a, rfl, a, _, rfl, get_dr H5, .ref a, rfl, a, _, rfl, get_at H5, t + 1, 1, rfl, rfl, .inl ⟨ad, _, _, _, rfl, rfl, sl, e1, .inl ⟨_, rfl, ?_⟩⟩⟩
      refine ⟨.int m, rfl, _, m, rfl, rfl, by omega, ?_⟩
      exact fin _ (Int.fmod_nonneg_of_pos _ hm) (Int.fmod_lt_of_pos _ hm)
end
theorem lim1 : (1 ≤ LIM) = True := eq_true (by unfold LIM; decide)
theorem lim2 : (2 ≤ LIM) = True := eq_true (by unfold LIM; decide)
theorem lim3 : (3 ≤ LIM) = True := eq_true (by unfold LIM; decide)
theorem lim4 : (4 ≤ LIM) = True := eq_true (by unfold LIM; decide)
theorem lim5 : (5 ≤ LIM) = True := eq_true (by unfold LIM; decide)
theorem lim6 : (6 ≤ LIM) = True := eq_true (by unfold LIM; decide)
theorem lim7 : (7 ≤ LIM) = True := eq_true (by unfold LIM; decide)
theorem lim8 : (8 ≤ LIM) = True := eq_true (by unfold LIM; decide)
end VL

namespace VL
open PySem PySem.Spec PyProof.Rows L2
open Evl (Ex)
/-! ### pure steps -/
theorem gs0 {α : Type} {x : α} {l : List α} : (x :: l)[0]? = some x := rfl
theorem gs1 {α : Type} {x : α} {l : List α} {n : Nat} : (x :: l)[n + 1]? = l[n]? := rfl
/-- ints at least 0 -/
def NN (ds : List D) : Prop := ∀ d ∈ ds, ∃ i : Int, d = .int i ∧ 0 ≤ i
theorem NN.snoc {ds : List D} {i : Int} (h : NN ds) (h0 : 0 ≤ i) : NN (ds ++ [.int i]) := fun d hd => by
  rcases List.mem_append.mp hd with h1 | h1
  · exact h d h1
  · obtain rfl := List.mem_singleton.mp h1
    exact ⟨i, rfl, h0⟩
def tD60 : WS := wIf (wTest (wBin bGtD (wVar 6) (wCon (.int 0)))) (wSeq (wMut 2 (wBin bMod (wCl cInt (wCons (wVar 6) wNil)) (wCon (.int 997))) fAppend)
  (wAsg 6 (wBin bDiv (wVar 6) (wCon (.int 997))))) wNext
def tDb : WS := wSeq (wAsg 5 (wCl cAbs (wCons (wCl cInt (wCons (wBin bSubs (wVar 0) (wVar 4)) wNil)) wNil)))
  (wSeq (wAsg 3 (wBin bMod (wCl cInt (wCons (wBin bAdd (wBin bAdd (wBin bMul (wVar 3) (wCon (.int 48271))) (wBin bMod (wVar 5) (wCon (.int 1000003)))) (wVar 4)) wNil)) (wCon (.int 65537))))
  (wSeq (wAsg 6 (wCon (.int 0)))
  (wSeq (wIf (wTest (wBin bGeD (wVar 5) (wBin bPow (wCon (.int 10)) (wCon (.int 18))))) (wAsg 6 (wVar 5)) (wSeq (wMut 2 (wBin bMod (wCl cInt (wCons (wVar 5) wNil)) (wCon (.int 997))) fAppend)
  (wMut 2 (wBin bMod (wBin bMod (wCl cInt (wCons (wBin bAdd (wBin bMul (wVar 3) (wCon (.int 69621))) (wCon (.int 5))) wNil)) (wCon (.int 65521))) (wCon (.int 997))) fAppend)))
  (wFor (wiR1 (wCons (wCon (.int 60)) wNil)) (wgName 7) tD60))))
def tDc : WS := wSeq (wAsg 3 (wBin bMod (wCl cInt (wCons (wBin bAdd (wBin bAdd (wBin bMul (wVar 3) (wCon (.int 16807))) (wVar 4)) (wCon (.int 1))) wNil)) (wCon (.int 65537))))
  (wMut 2 (wBin bMod (wCl cInt (wCons (wVar 3) wNil)) (wCon (.int 997))) fAppend)
def tDr : WS :=
  wSeq (wAsg 2 (wLst wNil))
  (wSeq (wAsg 3 (wCon (.int 7)))
  (wSeq (wFor (wiR1 (wCons (wCl cLen (wCons (wVar 0) wNil)) wNil)) (wgName 4) tDb)
  (wSeq (wFor (wiR1 (wCons (wVar 1) wNil)) (wgName 4) tDc)
  (wRet (wSlice (wVar 2) wPNone (wPSome (wVar 1)))))))
/-- the draws of a script -/
def spDraws : FS := fun as q => ∃ (ns : List Int) (m : Int), as = [.d (.fl (ns.map .int)), .d (.int m)] ∧ ns.length ≤ 63 ∧ 0 ≤ m ∧ m ≤ 10000 ∧ ∀ xs : List Int, (∀ x ∈ xs, 0 ≤ x) → q (.lst (xs.map .int)) .nw
theorem d60 {P : PEnds} {s m mx k c : Slot} : ∀ (xs : List D) (ds : List D) (rest : Int) (t : Slot), NN ds → ds.length + xs.length ≤ 60000 → 
    (∀ (ds' : List D) (r' : Int) (t' : Slot), NN ds' → ds'.length ≤ ds.length + xs.length → P.nx [s, m, .ow (.lst ds'), mx, k, c, .fz (.int r'), t']) → wLoop (wgName 7) tD60 P xs [s, m, .ow (.lst ds), mx, k, c, .fz (.int rest), t]
  | [], ds, rest, t, hn, hl, h => h ds rest t hn (Nat.le_refl _)
  | x :: xs, ds, rest, t, hn, hl, h => by
    have l1 : ds.length < LIM := by unfold LIM; simp at hl; omega
    unfold wLoop tD60
    simp (maxSteps := 4000000) only [wSeq, wAsg, wgN, wVar, wCon, wBin, wUn, wCl, wCons, wNil, wConsF, wTup, wLst, wTest, wIf, wFor, wiR1, wiR2, wgName, oB, toF, toN, wRet, wRetN, wNext, wDrop, wMut, fAppend, wPar, nCons, nNil, setAll, sl, wAugI, wAug, bAddI, bSub, bAdd, wAnd, wOr, wNot, wAndV, wOrV, wNotV, wBl, wIfE, wCall, xCons, xNil, xW, Kd.ret, wiF, wiO, seqOf, wgTup, wgCons, wgNil, wAsgT, wSlice, wPSome, wPNone, dSlice, bMul, bMod, bDiv, bPow, cInt, cAbs, cLen, cTuple, cList, cmpD, ozI, ozB, uNeg, wComp, wipeR, restR, wYes, wBreak, wCont, wLstRg, wTupRg, wRg1, wRg2, wExtend, bIs, bIsNot, isNonD, List.set_cons_zero, List.set_cons_succ, List.getElem?_cons_zero, List.getElem?_cons_succ, List.getD_cons_zero, List.getD_cons_succ, List.length_cons, List.length_nil, if_true, if_false, reduceCtorEq, ite_true, ite_false, and_true, true_and, rho0, VL.A.slot, List.map_cons, List.map_nil, List.cons_append, List.nil_append, List.replicate, Nat.add_eq, Nat.reduceAdd, Nat.reduceSub, Bool.false_eq_true, decide_eq_true_eq, Nat.zero_le, Nat.zero_add, lim1, lim2, lim3, lim4, lim5, lim6, lim7, lim8, Bool.not_true, Bool.not_false, decide_true, decide_false]
    by_cases h0 : 0 < rest
    · simp only [h0, if_true, decide_true]
      refine ⟨⟨_, rfl⟩, ?_⟩
      simp [l1]
      refine d60 xs _ _ _ (hn.snoc (Int.fmod_nonneg_of_pos _ (by decide))) (by simp at hl ⊢; omega) fun ds' r' t' a b => h ds' r' t' a (by simp at b ⊢; omega)
    · simp only [h0, if_false, decide_false]
      exact d60 xs _ _ _ hn (by simp at hl; omega) fun ds' r' t' a b => h ds' r' t' a (by simp at b ⊢; omega)
theorem atI_map {ns : List Int} {k : Nat} (h : k < ns.length) : atI (ns.map D.int) (k : Int) = some (.int ns[k]) := atI_nat (by rw [List.getElem?_map, List.getElem?_eq_getElem h]; rfl)
theorem subs_fl {xs : List D} {i : Int} {d : D} (h : atI xs i = some d) : bSubs (.fl xs) (.int i) = some (d, .fz) := by
  simp [bSubs, getD2, bIx, h]
theorem subs_lst {xs : List D} {i : Int} {d : D} (h : atI xs i = some d) : bSubs (.lst xs) (.int i) = some (d, .fz) := by
  simp [bSubs, getD2, bIx, h]
theorem subs_tup {xs : List D} {i : Int} {d : D} (h : atI xs i = some d) : bSubs (.tup xs) (.int i) = some (d, .fz) := by
  simp [bSubs, getD2, bIx, h]
theorem fm997 (i : Int) : 0 ≤ i.fmod 997 := Int.fmod_nonneg_of_pos _ (by decide)
theorem dB {P : PEnds} {ns : List Int} {m : Slot} (hns : ns.length ≤ 63) : ∀ (xs : List D) (ds : List D) (mx : Int) (k c r t : Slot), (∀ x ∈ xs, ∃ i : Nat, i < ns.length ∧ x = .int (i : Int)) → NN ds → ds.length + 62 * xs.length ≤ 40000 →
    (∀ (ds' : List D) (mx' : Int) (k' c' r' t' : Slot), NN ds' → ds'.length ≤ ds.length + 62 * xs.length → P.nx [.fz (.fl (ns.map .int)), m, .ow (.lst ds'), .fz (.int mx'), k', c', r', t']) → wLoop (wgName 4) tDb P xs [.fz (.fl (ns.map .int)), m, .ow (.lst ds), .fz (.int mx), k, c, r, t]
  | [], ds, mx, k, c, r, t, hx, hn, hl, h => h ds mx k c r t hn (Nat.le_refl _)
  | x :: xs, ds, mx, k, c, r, t, hx, hn, hl, h => by
    obtain ⟨i, hi, rfl⟩ := hx x (by simp)
    have l1 : ds.length < LIM := by unfold LIM; simp at hl; omega
    have l2 : ds.length + 1 < LIM := by unfold LIM; simp at hl; omega
    unfold wLoop tDb
    have e1 := subs_fl (atI_map hi)
    have e2 : (0 : Int) + (i : Int) = i := by omega
    have l60 : (rng 0 (60 : Int).toNat).length = 60 := by simp [rng]
    simp (maxSteps := 4000000) only [wSeq, wAsg, wgN, wVar, wCon, wBin, wUn, wCl, wCons, wNil, wConsF, wTup, wLst, wTest, wIf, wFor, wiR1, wiR2, wgName, oB, toF, toN, wRet, wRetN, wNext, wDrop, wMut, fAppend, wPar, nCons, nNil, setAll, sl, wAugI, wAug, bAddI, bSub, bAdd, wAnd, wOr, wNot, wAndV, wOrV, wNotV, wBl, wIfE, wCall, xCons, xNil, xW, Kd.ret, wiF, wiO, seqOf, wgTup, wgCons, wgNil, wAsgT, wSlice, wPSome, wPNone, dSlice, bMul, bMod, bDiv, bPow, cInt, cAbs, cLen, cTuple, cList, cmpD, ozI, ozB, uNeg, wComp, wipeR, restR, wYes, wBreak, wCont, wLstRg, wTupRg, wRg1, wRg2, wExtend, bIs, bIsNot, isNonD, List.set_cons_zero, List.set_cons_succ, List.getElem?_cons_zero, List.getElem?_cons_succ, List.getD_cons_zero, List.getD_cons_succ, List.length_cons, List.length_nil, if_true, if_false, reduceCtorEq, ite_true, ite_false, and_true, true_and, rho0, VL.A.slot, List.map_cons, List.map_nil, List.cons_append, List.nil_append, List.replicate, Nat.add_eq, Nat.reduceAdd, Nat.reduceSub, Bool.false_eq_true, decide_eq_true_eq, Nat.zero_le, Nat.zero_add, lim1, lim2, lim3, lim4, lim5, lim6, lim7, lim8, Bool.not_true, Bool.not_false, decide_true, decide_false, e1, bAdd, e2]
    generalize rng 0 (60 : Int).toNat = X60 at l60 ⊢
    have c1 : (mx.natAbs < 1000000000 ∨ (48271 : Int).natAbs < 1000000000) := .inr (by decide)
    simp only [c1, if_true, show (1000003 : Int) ≠ 0 by decide, show (65537 : Int) ≠ 0 by decide, ne_eq, not_false_eq_true]
    have hp : (0 : Int) ≤ 10 ∧ (18 : Int) ≤ 1000 ∧ (10 : Int).natAbs < 1000000 := by decide
    have c2 : (0 : Int) ≤ 18 ∧ (18 : Int) ≤ 1000 ∧ (10 : Int).natAbs < 1000000 := by decide
    simp only [bPow, ozI, c2, and_self, if_true, cmpD, ozB]
    by_cases h0 : (10 : Int) ^ (18 : Int).toNat ≤ (if ns[i] < 0 then -ns[i] else ns[i])
    · simp only [h0, decide_true, if_true]
      refine ⟨by unfold i62; decide, ?_⟩
      refine d60 _ _ _ _ hn (by rw [l60]; simp at hl; omega) fun ds' r' t' a b => ?_
      rw [l60] at b
      exact dB hns xs ds' _ _ _ _ _ (fun x hx' => hx x (by simp [hx'])) a (by simp at hl; omega) fun ds'' mx' k' c' r'' t'' a' b' => h ds'' mx' k' c' r'' t'' a' (by simp; omega)
    · simp only [h0, decide_false, if_false, Bool.false_eq_true]
      refine ⟨⟨_, rfl⟩, ?_⟩
      simp only [show (997 : Int) ≠ 0 by decide, ne_eq, not_false_eq_true, if_true, l1]
      refine ⟨⟨_, rfl⟩, ?_⟩
      have c3 : ∀ z : Int, (z.natAbs < 1000000000 ∨ (69621 : Int).natAbs < 1000000000) := fun z => .inr (by decide)
      simp only [c3, if_true, show (65521 : Int) ≠ 0 by decide, ne_eq, not_false_eq_true, List.length_append, List.length_cons, List.length_nil, Nat.zero_add, l2]
      refine ⟨by unfold i62; decide, ?_⟩
      refine d60 _ _ _ _ ?_ ?_ fun ds' r' t' a b => ?_
      · exact NN.snoc (NN.snoc hn (fm997 _)) (fm997 _)
      · rw [l60]
        simp only [List.length_append, List.length_cons, List.length_nil, Nat.zero_add] at hl ⊢
        omega
      rw [l60] at b
      simp only [List.length_append, List.length_cons, List.length_nil, Nat.zero_add] at b
      exact dB hns xs ds' _ _ _ _ _ (fun x hx' => hx x (by simp [hx'])) a (by simp at hl; omega) fun ds'' mx' k' c' r'' t'' a' b' => h ds'' mx' k' c' r'' t'' a' (by simp; omega)
theorem dC {P : PEnds} {s m : Slot} {c r t : Slot} : ∀ (xs : List D) (ds : List D) (mx : Int) (k : Slot), (∀ x ∈ xs, ∃ i : Int, x = .int i) → NN ds → ds.length + xs.length ≤ 60000 →
    (∀ (ds' : List D) (mx' : Int) (k' : Slot), NN ds' → P.nx [s, m, .ow (.lst ds'), .fz (.int mx'), k', c, r, t]) → wLoop (wgName 4) tDc P xs [s, m, .ow (.lst ds), .fz (.int mx), k, c, r, t]
  | [], ds, mx, k, hx, hn, hl, h => h ds mx k hn
  | x :: xs, ds, mx, k, hx, hn, hl, h => by
    obtain ⟨i, rfl⟩ := hx x (by simp)
    have l1 : ds.length < LIM := by unfold LIM; simp at hl; omega
    unfold wLoop tDc
    simp (maxSteps := 4000000) only [wSeq, wAsg, wgN, wVar, wCon, wBin, wUn, wCl, wCons, wNil, wConsF, wTup, wLst, wTest, wIf, wFor, wiR1, wiR2, wgName, oB, toF, toN, wRet, wRetN, wNext, wDrop, wMut, fAppend, wPar, nCons, nNil, setAll, sl, wAugI, wAug, bAddI, bSub, bAdd, wAnd, wOr, wNot, wAndV, wOrV, wNotV, wBl, wIfE, wCall, xCons, xNil, xW, Kd.ret, wiF, wiO, seqOf, wgTup, wgCons, wgNil, wAsgT, wSlice, wPSome, wPNone, dSlice, bMul, bMod, bDiv, bPow, cInt, cAbs, cLen, cTuple, cList, cmpD, ozI, ozB, uNeg, wComp, wipeR, restR, wYes, wBreak, wCont, wLstRg, wTupRg, wRg1, wRg2, wExtend, bIs, bIsNot, isNonD, List.set_cons_zero, List.set_cons_succ, List.getElem?_cons_zero, List.getElem?_cons_succ, List.getD_cons_zero, List.getD_cons_succ, List.length_cons, List.length_nil, if_true, if_false, reduceCtorEq, ite_true, ite_false, and_true, true_and, rho0, VL.A.slot, List.map_cons, List.map_nil, List.cons_append, List.nil_append, List.replicate, Nat.add_eq, Nat.reduceAdd, Nat.reduceSub, Bool.false_eq_true, decide_eq_true_eq, Nat.zero_le, Nat.zero_add, lim1, lim2, lim3, lim4, lim5, lim6, lim7, lim8, Bool.not_true, Bool.not_false, decide_true, decide_false, bAdd]
    have c1 : (mx.natAbs < 1000000000 ∨ (16807 : Int).natAbs < 1000000000) := .inr (by decide)
    simp only [c1, if_true, show (65537 : Int) ≠ 0 by decide, show (997 : Int) ≠ 0 by decide, ne_eq, not_false_eq_true]
    refine ⟨⟨_, rfl⟩, ?_⟩
    simp only [l1, if_true]
    exact dC xs _ _ _ (fun x hx' => hx x (by simp [hx'])) (hn.snoc (Int.fmod_nonneg_of_pos _ (by decide))) (by simp at hl ⊢; omega) h
theorem nn_ints : ∀ {ds : List D}, NN ds → ∃ xs : List Int, ds = xs.map .int ∧ ∀ x ∈ xs, 0 ≤ x
  | [], _ => ⟨[], rfl, by simp⟩
  | d :: ds, h => by
    obtain ⟨i, rfl, h0⟩ := h d (by simp)
    obtain ⟨xs, rfl, h1⟩ := nn_ints (ds := ds) fun d hd => h d (by simp [hd])
    exact ⟨i :: xs, rfl, by simpa using ⟨h0, h1⟩⟩
theorem rng_mem {lo : Int} {n : Nat} {x : D} (h : x ∈ rng lo n) : ∃ i : Nat, i < n ∧ x = .int (lo + i) := by
  unfold rng at h
  obtain ⟨i, h1, rfl⟩ := List.mem_map.mp h
  exact ⟨i, List.mem_range.mp h1, rfl⟩
theorem rng_len {lo : Int} {n : Nat} : (rng lo n).length = n := by simp [rng]
theorem draws_pure (as : List A) (q : D → Kd → Prop) (h : spDraws as q) : as.length = 2 ∧ tDr ⟨fun _ => q .non .fz, q, fun _ => False, fun _ => False⟩ (rho0 8 as) := by
  obtain ⟨ns, m, rfl, h1, h2, h3, hq⟩ := h
  refine ⟨rfl, ?_⟩
  unfold tDr
  simp (maxSteps := 4000000) only [wSeq, wAsg, wgN, wVar, wCon, wBin, wUn, wCl, wCons, wNil, wConsF, wTup, wLst, wTest, wIf, wFor, wiR1, wiR2, wgName, oB, toF, toN, wRet, wRetN, wNext, wDrop, wMut, fAppend, wPar, nCons, nNil, setAll, sl, wAugI, wAug, bAddI, bSub, bAdd, wAnd, wOr, wNot, wAndV, wOrV, wNotV, wBl, wIfE, wCall, xCons, xNil, xW, Kd.ret, wiF, wiO, seqOf, wgTup, wgCons, wgNil, wAsgT, wSlice, wPSome, wPNone, dSlice, bMul, bMod, bDiv, bPow, cInt, cAbs, cLen, cTuple, cList, cmpD, ozI, ozB, uNeg, wComp, wipeR, restR, wYes, wBreak, wCont, wLstRg, wTupRg, wRg1, wRg2, wExtend, bIs, bIsNot, isNonD, List.set_cons_zero, List.set_cons_succ, List.getElem?_cons_zero, List.getElem?_cons_succ, List.getD_cons_zero, List.getD_cons_succ, List.length_cons, List.length_nil, if_true, if_false, reduceCtorEq, ite_true, ite_false, and_true, true_and, rho0, VL.A.slot, List.map_cons, List.map_nil, List.cons_append, List.nil_append, List.replicate, Nat.add_eq, Nat.reduceAdd, Nat.reduceSub, Bool.false_eq_true, decide_eq_true_eq, Nat.zero_le, Nat.zero_add, lim1, lim2, lim3, lim4, lim5, lim6, lim7, lim8, Bool.not_true, Bool.not_false, decide_true, decide_false]
  refine ⟨by unfold i62; rw [List.length_map]; omega, ?_⟩
  rw [List.length_map, Int.toNat_natCast]
  refine dB h1 _ _ _ _ _ _ _ (fun x hx => ?_) (fun d hd => by cases hd) (by rw [rng_len]; simp; omega) fun ds' mx' k' c' r' t' a b => ?_
  · obtain ⟨i, hi, rfl⟩ := rng_mem hx
    exact ⟨i, hi, by rw [Int.zero_add]⟩
  · rw [rng_len] at b
    refine ⟨by unfold i62; omega, ?_⟩
    refine dC _ _ _ _ (fun x hx => ?_) a (by rw [rng_len]; simp at b; omega) fun ds'' mx'' k'' a' => ?_
    · obtain ⟨i, hi, rfl⟩ := rng_mem hx
      exact ⟨_, rfl⟩
    · simp (maxSteps := 4000000) only [wSeq, wAsg, wgN, wVar, wCon, wBin, wUn, wCl, wCons, wNil, wConsF, wTup, wLst, wTest, wIf, wFor, wiR1, wiR2, wgName, oB, toF, toN, wRet, wRetN, wNext, wDrop, wMut, fAppend, wPar, nCons, nNil, setAll, sl, wAugI, wAug, bAddI, bSub, bAdd, wAnd, wOr, wNot, wAndV, wOrV, wNotV, wBl, wIfE, wCall, xCons, xNil, xW, Kd.ret, wiF, wiO, seqOf, wgTup, wgCons, wgNil, wAsgT, wSlice, wPSome, wPNone, dSlice, bMul, bMod, bDiv, bPow, cInt, cAbs, cLen, cTuple, cList, cmpD, ozI, ozB, uNeg, wComp, wipeR, restR, wYes, wBreak, wCont, wLstRg, wTupRg, wRg1, wRg2, wExtend, bIs, bIsNot, isNonD, List.set_cons_zero, List.set_cons_succ, List.getElem?_cons_zero, List.getElem?_cons_succ, List.getD_cons_zero, List.getD_cons_succ, List.length_cons, List.length_nil, if_true, if_false, reduceCtorEq, ite_true, ite_false, and_true, true_and, rho0, VL.A.slot, List.map_cons, List.map_nil, List.cons_append, List.nil_append, List.replicate, Nat.add_eq, Nat.reduceAdd, Nat.reduceSub, Bool.false_eq_true, decide_eq_true_eq, Nat.zero_le, Nat.zero_add, lim1, lim2, lim3, lim4, lim5, lim6, lim7, lim8, Bool.not_true, Bool.not_false, decide_true, decide_false]
      have hn : NN (cutD ds'' none (some m)) := fun d hd => by
        unfold cutD at hd
        exact a' d (List.mem_of_mem_drop (List.mem_of_mem_take hd))
      obtain ⟨xs, hx, hnn⟩ := nn_ints hn
      rw [hx]
      exact hq xs hnn
end VL

namespace VL
open PySem PySem.Spec PyProof.Rows L2
open Evl (Ex)
variable {K : PySem.W.Frag}
/-- what every law promises -/
def spLaw (K : PySem.W.Frag) : Sp := fun vs H Q _ => ∃ (a : Addr) (ns : List Int), vs = [.ref a] ∧ SqL K H a (ns.map V.int) ∧ ns.length ≤ 63 ∧ ∀ H', Q (.bl true) H'
/-- w = {'draws': _law_draws(script, m), 'at': 0} -/
def wHead (m : Int) : WS := wAsg 1 (wDisp (pCons (wCon (.str "draws")) (wCall spDraws (xCons (wVar 0) (xCons (wCon (.int m)) xNil))) (pCons (wCon (.str "at")) (wCon (.int 0)) pNil)))
def wD (xs : List Int) : D := .dk [(.inr "draws", .lst (xs.map .int)), (.inr "at", .int 0)]
theorem head_pure {m : Int} (h0 : 0 ≤ m) (h1 : m ≤ 10000) {ns : List Int} (hl : ns.length ≤ 63) {P : PEnds} {ρ : Rho} (h : ∀ xs : List Int, (∀ x ∈ xs, 0 ≤ x) → P.nx (.fz (.fl (ns.map .int)) :: .ow (wD xs) :: ρ)) : wHead m P (.fz (.fl (ns.map .int)) :: .un :: ρ) := by
  unfold wHead wDisp pCons pNil
  simp (maxSteps := 4000000) only [wSeq, wAsg, wgN, wVar, wCon, wBin, wUn, wCl, wCons, wNil, wConsF, wTup, wLst, wTest, wIf, wFor, wiR1, wiR2, wgName, oB, toF, toN, wRet, wRetN, wNext, wDrop, wMut, fAppend, wPar, nCons, nNil, setAll, sl, wAugI, wAug, bAddI, bSub, bAdd, wAnd, wOr, wNot, wAndV, wOrV, wNotV, wBl, wIfE, wCall, xCons, xNil, xW, Kd.ret, wiF, wiO, seqOf, wgTup, wgCons, wgNil, wAsgT, wSlice, wPSome, wPNone, dSlice, bMul, bMod, bDiv, bPow, cInt, cAbs, cLen, cTuple, cList, cmpD, ozI, ozB, uNeg, wComp, wipeR, restR, wYes, wBreak, wCont, wLstRg, wTupRg, wRg1, wRg2, wExtend, bIs, bIsNot, isNonD, List.set_cons_zero, List.set_cons_succ, List.getElem?_cons_zero, List.getElem?_cons_succ, List.getD_cons_zero, List.getD_cons_succ, List.length_cons, List.length_nil, if_true, if_false, reduceCtorEq, ite_true, ite_false, and_true, true_and, rho0, VL.A.slot, List.map_cons, List.map_nil, List.cons_append, List.nil_append, List.replicate, Nat.add_eq, Nat.reduceAdd, Nat.reduceSub, Bool.false_eq_true, decide_eq_true_eq, Nat.zero_le, Nat.zero_add, lim1, lim2, lim3, lim4, lim5, lim6, lim7, lim8, Bool.not_true, Bool.not_false, decide_true, decide_false, keyOf, toF]
  refine ⟨ns, m, rfl, hl, h0, h1, fun xs hx => ⟨by decide, ?_⟩⟩
  exact h xs hx
theorem rp_ints {G : Hp} : ∀ {vs : List V} {xs : List Int}, RpL K G vs (xs.map .int) → vs = xs.map .int
  | [], [], _ => rfl
  | _, x :: xs, .cons a r => by
    rw [List.map_cons, ← rp_ints r]
    cases a
    rfl
  | _ :: _, [], r => by cases r
theorem rp_of_ints {G : Hp} : ∀ {xs : List Int}, RpL K G (xs.map V.int) (xs.map D.int)
  | [] => .nil
  | x :: xs => .cons (.int x) rp_of_ints
theorem ret_true {b : Bs} {G H : Hp} {k : Kd} {v : V} (r : Rr K b G H k v (.bl true)) : v = .bl true := by
  cases k with
  | fz => cases (show Rp K G v (.bl true) from r); rfl
  | nw => obtain ⟨a, _, _, _, _, h⟩ := r; exact h.elim
  | br i => exact r.elim
section
variable {P : Program} {w : World} {mg : Str → Option Value} {base : Heap}
theorem law_ok {st : Stmt} {f : Addr} {fd : FuncData} {N : List Str} {n k : Nat} {m : Int} {t : WS} (h0 : 0 ≤ m) (h1 : m ≤ 10000) (hn : N.length = n + 2) (F : Fun K "law" "law" st f fd) (S : FnScope N ["script"] (defScope st))
    (hb : ∀ (cdv : Value) (A : Around) (outer : List Env) (s : Shared) (H : Hp) (E : XK), Room k (A.deeper (envOfC "law" (defScope st) s.heap.objs.size f cdv)) →
      ∃ ts us, PSs (cxOf CX0 P w K mg base N "law" (defScope st) f cdv A outer s H E).nox (defBody st) (tSeq ts us) ∧ SndS K ts (wHead m) ∧ SndS K us t)
    (hs : ∀ ns : List Int, ns.length ≤ 63 → t ⟨fun _ => False, fun d _ => d = .bl true, fun _ => False, fun _ => False⟩ (.fz (.fl (ns.map .int)) :: .w :: List.replicate n .un)) : FnOk P w K mg base CX0 (k + 1) f fd ["script"] (spLaw K) := by
  refine F.ok S (fun vs H Q E h => ?_) fun cdv A outer s H vs Q E hr h => ?_
  · obtain ⟨a, ns, rfl, _⟩ := h
    rfl
  · obtain ⟨a, ns, rfl, hS, hl, back⟩ := h
    obtain ⟨ts, us, hp, s1, s2⟩ := hb cdv A outer s H E hr
    refine ⟨_, hp, ?_⟩
    have hst : L2.start N [V.ref a] = some (.ref a) :: none :: List.replicate n none := by
      unfold L2.start
      rw [hn]; rfl
    have sim0 : Sim K ⟨none, H, hd none H⟩ H (.fz (.fl (ns.map .int)) :: .un :: List.replicate n .un) (L2.start N [V.ref a]) H := by
      have hr : Paired (RpA K ⟨none, H, hd none H⟩ H) [V.ref a] [.d (.fl (ns.map .int))] := .cons (show Rp K H (.ref a) (.fl (ns.map .int)) from .fl hS rp_of_ints) .nil
      have e : Ex H (hd none H) := fun b u e => by rw [hd_ne (by simp)]; exact e
      have := start_sim (N := N) e (fun _ e => nomatch e) hr
      have er : rho0 N.length [VL.A.d (.fl (ns.map .int))] = .fz (.fl (ns.map .int)) :: .un :: List.replicate n .un := by
        rw [hn]; rfl
      rw [er] at this
      exact this
    refine s1 ⟨none, H, hd none H⟩ ⟨fun ρ => ∃ xs : List Int, (∀ x ∈ xs, 0 ≤ x) ∧ ρ = .fz (.fl (ns.map .int)) :: .ow (wD xs) :: List.replicate n .un, fun _ _ => False, fun _ => False, fun _ => False⟩ _ H _ _ H ⟨fun ρ σ G H' q1 z => ?_, fun _ _ _ _ _ _ _ q => q.elim, fun _ _ _ _ q => q.elim, fun _ _ _ _ q => q.elim⟩ sim0
      (head_pure h0 h1 hl fun xs hx => ⟨xs, hx, rfl⟩)
    obtain ⟨xs, hx, rfl⟩ := q1
    obtain ⟨p, e1, e2, e3, e4, vs, e5, e6⟩ := z.ow 1 _ rfl
    have hH : Ex H G := z.g0
    obtain ⟨v0, f1, f2⟩ := z.fz 0 _ rfl
    have hw : WOk K G H' p := by
      cases e6 with
      | cons a1 r1 => cases r1 with
        | cons a2 r2 =>
          cases r2
          cases a2
          cases a1 with
          | lst g r =>
            rw [rp_ints r] at g
            exact ⟨_, 0, xs, e5, by omega, .inl (.inl g), hx⟩
    have e5' : H' p = some (.dK vs) := e5
    have sub : Ex G (hd (some p) H') := fun c u e => by
      rw [hd_ne fun z => by cases z; rw [e4] at e; cases e]
      exact z.le c u e
    have sim1 : Sim K ⟨some p, G, hd (some p) H'⟩ G (.fz (.fl (ns.map .int)) :: .w :: List.replicate n .un) σ H' := by
      refine ⟨z.len, sub, Ex.refl _, Ex.refl _, fun _ _ _ e => e, fun i d e => ?_, fun i d e => ?_, fun i j d e v _ h1 => ?_, fun i e => ?_, fun c e => by cases e; exact hw⟩
      · match i with
        | 0 => cases e; exact ⟨v0, f1, f2⟩
        | 1 => cases e
        | i + 2 =>
          rw [List.getElem?_cons_succ, List.getElem?_cons_succ, List.getElem?_replicate] at e
          split at e <;> cases e
      · match i with
        | 0 => cases e
        | 1 => cases e
        | i + 2 =>
          rw [List.getElem?_cons_succ, List.getElem?_cons_succ, List.getElem?_replicate] at e
          split at e <;> cases e
      · match i with
        | 0 => cases h1
        | 1 => cases h1
        | i + 2 =>
          rw [List.getElem?_cons_succ, List.getElem?_cons_succ, List.getElem?_replicate] at h1
          split at h1 <;> cases h1
      · match i with
        | 0 => cases e
        | 1 => exact ⟨p, rfl, e1⟩
        | i + 2 =>
          rw [List.getElem?_cons_succ, List.getElem?_cons_succ, List.getElem?_replicate] at e
          split at e <;> cases e
    refine s2 ⟨some p, G, hd (some p) H'⟩ ⟨fun _ => False, fun d _ => d = .bl true, fun _ => False, fun _ => False⟩ _ G _ _ H' ⟨fun _ _ _ _ q => q.elim, fun d k v ρ σ G2 H2 q z2 rr => ?_, fun _ _ _ _ q => q.elim, fun _ _ _ _ q => q.elim⟩ sim1 (hs ns hl)
    have q : d = .bl true := q
    subst q
    obtain rfl := ret_true rr
    exact back H2
end
end VL

namespace VL
open PySem PySem.Spec PyProof.Rows L2
open Evl (Ex)
/-! ### pure library -/
mutual
/-- data with no truth values, no objects of other kinds: == is equality -/
def pl : D → Bool
  | .non => true
  | .int _ => true
  | .str _ => true
  | .tup xs => pls xs
  | .lst xs => pls xs
  | _ => false
def pls : List D → Bool
  | [] => true
  | x :: r => pl x && pls r
end
mutual
theorem eqv_pl : ∀ {a b : D}, pl a = true → pl b = true → (eqv a b = true ↔ a = b)
  | .non, b, h1, h2 => by cases b <;> simp [pl, eqv] at *
  | .int i, b, h1, h2 => by cases b <;> simp [pl, eqv] at *
  | .str i, b, h1, h2 => by cases b <;> simp [pl, eqv] at *
  | .tup xs, b, h1, h2 => by
    cases b <;> simp [pl, eqv] at *
    exact eqvs_pl h1 h2
  | .lst xs, b, h1, h2 => by
    cases b <;> simp [pl, eqv] at *
    exact eqvs_pl h1 h2
  | .bl _, b, h1, h2 => by simp [pl] at h1
  | .fl _, b, h1, h2 => by simp [pl] at h1
  | .ft _, b, h1, h2 => by simp [pl] at h1
  | .dk _, b, h1, h2 => by simp [pl] at h1
  | .dt _, b, h1, h2 => by simp [pl] at h1
theorem eqvs_pl : ∀ {a b : List D}, pls a = true → pls b = true → (eqvs a b = true ↔ a = b)
  | [], b, h1, h2 => by cases b <;> simp [eqvs]
  | x :: xs, b, h1, h2 => by
    cases b with
    | nil => simp [eqvs]
    | cons y ys =>
      simp only [pls, Bool.and_eq_true] at h1 h2
      simp only [eqvs, Bool.and_eq_true, eqv_pl h1.1 h2.1, eqvs_pl h1.2 h2.2, List.cons.injEq]
end
theorem pls_all {xs : List D} : pls xs = true ↔ ∀ x ∈ xs, pl x = true := by
  induction xs with
  | nil => simp [pls]
  | cons x xs ih => simp [pls, ih]
theorem okEs_all {n : Nat} {xs : List D} : okEs n xs = true ↔ ∀ x ∈ xs, okE n x = true := by
  induction xs with
  | nil => simp [okEs]
  | cons x xs ih => simp [okEs, ih]
theorem okE_tup {n : Nat} {xs : List D} : okE (n + 1) (.tup xs) = okEs n xs := by simp [okE]
theorem okE_lst {n : Nat} {xs : List D} : okE (n + 1) (.lst xs) = okEs n xs := by simp [okE]
theorem okE_int {n : Nat} {i : Int} : okE n (.int i) = true := by simp [okE]
theorem okEs_ints {n : Nat} {xs : List Int} : okEs n (xs.map .int) = true := by
  rw [okEs_all]; intro x h
  obtain ⟨i, _, rfl⟩ := List.mem_map.mp h
  exact okE_int
theorem pls_ints {xs : List Int} : pls (xs.map .int) = true := by
  rw [pls_all]; intro x h
  obtain ⟨i, _, rfl⟩ := List.mem_map.mp h
  rfl
/-- a tuple of ints -/
def tI (xs : List Int) : D := .tup (xs.map .int)
theorem okE_tI {n : Nat} {xs : List Int} : okE (n + 1) (tI xs) = true := by unfold tI; rw [okE_tup]; exact okEs_ints
theorem pl_tI {xs : List Int} : pl (tI xs) = true := by unfold tI pl; exact pls_ints
theorem ints_inj : ∀ {xs ys : List Int}, xs.map D.int = ys.map D.int → xs = ys
  | [], [], _ => rfl
  | [], _ :: _, h => by simp at h
  | _ :: _, [], h => by simp at h
  | x :: xs, y :: ys, h => by
    simp only [List.map_cons, List.cons.injEq, D.int.injEq] at h
    rw [h.1, ints_inj h.2]
theorem tI_inj {xs ys : List Int} (h : tI xs = tI ys) : xs = ys := by
  unfold tI at h
  exact ints_inj (D.tup.inj h)
theorem eqv_eq {a b : D} (ha : pl a = true) (hb : pl b = true) {p : Prop} [Decidable p] (h : a = b ↔ p) : eqv a b = decide p := by
  have := eqv_pl ha hb
  by_cases q : p
  · rw [decide_eq_true q]; exact this.mpr (h.mpr q)
  · rw [decide_eq_false q]
    cases e : eqv a b with
    | false => rfl
    | true => exact absurd (h.mp (this.mp e)) q
theorem bEq_ints (i j : Int) : bEq (.int i) (.int j) = ozB (decide (i = j)) := by
  unfold bEq
  rw [if_pos ⟨okE_int, okE_int⟩, eqv_eq rfl rfl (p := i = j) (by simp)]
theorem bNe_ints (i j : Int) : bNe (.int i) (.int j) = ozB (!decide (i = j)) := by
  unfold bNe
  rw [if_pos ⟨okE_int, okE_int⟩, eqv_eq rfl rfl (p := i = j) (by simp)]
theorem bEq_tI (i j : List Int) : bEq (tI i) (tI j) = ozB (decide (i = j)) := by
  unfold bEq
  rw [if_pos ⟨okE_tI, okE_tI⟩, eqv_eq pl_tI pl_tI (p := i = j) ⟨tI_inj, fun h => by rw [h]⟩]
theorem bEq_pl {a b : D} (h1 : okE 20 a = true) (h2 : okE 20 b = true) (h3 : pl a = true) (h4 : pl b = true) {p : Prop} [Decidable p] (h : a = b ↔ p) : bEq a b = ozB (decide p) := by
  unfold bEq
  rw [if_pos ⟨h1, h2⟩, eqv_eq h3 h4 h]
theorem bNe_pl {a b : D} (h1 : okE 20 a = true) (h2 : okE 20 b = true) (h3 : pl a = true) (h4 : pl b = true) {p : Prop} [Decidable p] (h : a = b ↔ p) : bNe a b = ozB (!decide p) := by
  unfold bNe
  rw [if_pos ⟨h1, h2⟩, eqv_eq h3 h4 h]
theorem rng_succ (lo : Int) (n : Nat) : rng lo (n + 1) = .int lo :: rng (lo + 1) n := by
  unfold rng
  rw [List.range_succ_eq_map, List.map_cons, List.map_map]
  have e : ((0 : Nat) : Int) = 0 := rfl
  rw [e, Int.add_zero]
  congr 1
  apply List.map_congr_left
  intro a _
  show D.int (lo + ((a + 1 : Nat) : Int)) = D.int (lo + 1 + (a : Int))
  congr 1
  omega
theorem rng_zero (lo : Int) : rng lo 0 = [] := rfl
/-- the ints lo, lo + 1, .. -/
def ir (lo : Int) : Nat → List Int
  | 0 => []
  | n + 1 => lo :: ir (lo + 1) n
theorem rng_ir : ∀ (n : Nat) (lo : Int), rng lo n = (ir lo n).map .int
  | 0, _ => rfl
  | n + 1, lo => by rw [rng_succ, rng_ir n]; rfl
theorem ir_len : ∀ (n : Nat) (lo : Int), (ir lo n).length = n
  | 0, _ => rfl
  | n + 1, lo => by unfold ir; rw [List.length_cons, ir_len n]
theorem ir_mem : ∀ {n : Nat} {lo i : Int}, i ∈ ir lo n ↔ lo ≤ i ∧ i < lo + n
  | 0, lo, i => by simp [ir]
  | n + 1, lo, i => by
    unfold ir
    rw [List.mem_cons, ir_mem (n := n)]
    constructor <;> intro h <;> omega
theorem bNe_bl (a b : Bool) : bNe (.bl a) (.bl b) = ozB (a != b) := by
  unfold bNe
  rw [if_pos ⟨by simp [okE], by simp [okE]⟩]
  simp [eqv, bne]
theorem bEq_bl (a b : Bool) : bEq (.bl a) (.bl b) = ozB (a == b) := by
  unfold bEq
  rw [if_pos ⟨by simp [okE], by simp [okE]⟩]
  simp [eqv]
theorem any_ints (xs : List Int) (i : Int) : ((xs.map D.int).any fun z => eqv z (.int i)) = decide (i ∈ xs) := by
  induction xs with
  | nil => simp
  | cons x xs ih =>
    rw [List.map_cons, List.any_cons, ih, eqv_eq rfl rfl (p := x = i) (by simp)]
    by_cases h : x = i <;> simp [h, eq_comm]
    intro h2; exact absurd h2.symm h
theorem inD_tI (xs : List Int) (i : Int) : inD (.int i) (.tup (xs.map .int)) = some (decide (i ∈ xs)) := by
  show (if okE 20 (.int i) = true ∧ okE 20 (.tup (xs.map .int)) = true then some ((xs.map D.int).any fun z => eqv z (.int i)) else none) = _
  rw [if_pos ⟨okE_int, by rw [okE_tup]; exact okEs_ints⟩, any_ints]
theorem inD_lI (xs : List Int) (i : Int) : inD (.int i) (.lst (xs.map .int)) = some (decide (i ∈ xs)) := by
  show (if okE 20 (.int i) = true ∧ okE 20 (.lst (xs.map .int)) = true then some ((xs.map D.int).any fun z => eqv z (.int i)) else none) = _
  rw [if_pos ⟨okE_int, by rw [okE_lst]; exact okEs_ints⟩, any_ints]
theorem bIn_tI (xs : List Int) (i : Int) : bIn (.int i) (.tup (xs.map .int)) = ozB (decide (i ∈ xs)) := by unfold bIn; rw [inD_tI]; rfl
theorem bNotIn_tI (xs : List Int) (i : Int) : bNotIn (.int i) (.tup (xs.map .int)) = ozB (!decide (i ∈ xs)) := by unfold bNotIn; rw [inD_tI]; rfl
theorem bIn_lI (xs : List Int) (i : Int) : bIn (.int i) (.lst (xs.map .int)) = ozB (decide (i ∈ xs)) := by unfold bIn; rw [inD_lI]; rfl
theorem bNotIn_lI (xs : List Int) (i : Int) : bNotIn (.int i) (.lst (xs.map .int)) = ozB (!decide (i ∈ xs)) := by unfold bNotIn; rw [inD_lI]; rfl
theorem next_go {m : Int} {q : D → Kd → Prop} (hm : 0 < m) (h : ∀ r : Int, 0 ≤ r → r < m → q (.int r) .fz) : spNext [.w, .d (.int m)] q := ⟨m, rfl, hm, h⟩
theorem intsOf_map (xs : List Int) : intsOf (xs.map .int) = some xs := by
  induction xs with
  | nil => rfl
  | cons x xs ih => rw [List.map_cons]; unfold intsOf; rw [ih]; rfl
theorem cSum_ints (xs : List Int) : cSum [.lst (xs.map .int)] = ozI xs.sum := by
  show (intsOf (xs.map .int)).bind (fun ns => ozI ns.sum) = _
  rw [intsOf_map]; rfl
theorem fmap_map {α β : Type} {f : α → D} {g : D → Option β} {h : α → β} (e : ∀ x, g (f x) = some (h x)) (l : List α) : (l.map f).filterMap g = l.map h := by
  induction l with
  | nil => rfl
  | cons x l ih => rw [List.map_cons, List.filterMap_cons, e, List.map_cons, ih]
theorem sq {t u : WS} {P : PEnds} {ρ : Rho} (h : t { P with nx := u P } ρ) : wSeq t u P ρ := h
theorem w64n {n : Nat} (h : n ≤ 100000) (z : Int) : (n : Int).natAbs < 1000000000 ∨ z.natAbs < 1000000000 := .inl (by omega)
theorem w64l {i : Int} (h1 : -100000000 ≤ i) (h2 : i ≤ 100000000) (z : Int) : i.natAbs < 1000000000 ∨ z.natAbs < 1000000000 := .inl (by omega)
theorem w64r {i : Int} (h1 : -100000000 ≤ i) (h2 : i ≤ 100000000) (z : Int) : z.natAbs < 1000000000 ∨ i.natAbs < 1000000000 := .inr (by omega)
/-! loops -/
theorem loop_inv {g : WG} {tb : WS} {P : PEnds} (I : List D → Rho → Prop) (hs : ∀ x r ρ, I (x :: r) ρ → ∀ J : Rho → Prop, (∀ ρ', I r ρ' → J ρ') → g x ρ fun ρ1 => tb ⟨J, P.rt, P.nx, J⟩ ρ1) (he : ∀ ρ, I [] ρ → P.nx ρ) : ∀ (xs : List D) (ρ : Rho), I xs ρ → wLoop g tb P xs ρ
  | [], ρ, h => he ρ h
  | x :: r, ρ, h => hs x r ρ h _ fun ρ' h' => loop_inv I hs he r ρ' h'
/-- what a comprehension may give: items by a relation, none for those left out -/
inductive PF (R : D → Option D → Prop) : List D → List D → Prop
  | nil : PF R [] []
  | some {x d : D} {xs ds : List D} : R x (some d) → PF R xs ds → PF R (x :: xs) (d :: ds)
  | none {x : D} {xs ds : List D} : R x none → PF R xs ds → PF R (x :: xs) ds
theorem comp_rel {g : WG} {tt : WT} {t : WE} {vs : List Nat} {ρ : Rho} (R : D → Option D → Prop) {Q : List D → Rho → Prop} : ∀ (xs acc : List D), acc.length + xs.length ≤ LIM →
    (hs : ∀ x ∈ xs, ∀ K : Option D → Rho → Prop, (∀ o, R x o → K o ρ) → g x ρ fun ρ1 => tt ρ1 fun c ρ2 => if c = true then t ρ2 (toF fun d ρ3 => K (some d) (wipeR ρ3 vs)) else K none (wipeR ρ2 vs)) →
    (∀ ds, PF R xs ds → Q (acc ++ ds) ρ) → wCompL g tt t vs xs acc ρ Q
  | [], acc, hl, hs, h => by
    have := h [] .nil
    rw [List.append_nil] at this
    exact this
  | x :: xs, acc, hl, hs, h => by
    refine hs x (by simp) (fun o ρ' => match o with
      | some d => acc.length < LIM ∧ wCompL g tt t vs xs (acc ++ [d]) ρ' Q
      | none => wCompL g tt t vs xs acc ρ' Q) fun o ho => ?_
    have hl' : acc.length + xs.length + 1 ≤ LIM := by simpa [Nat.add_assoc] using hl
    cases o with
    | none => exact comp_rel R xs acc (by omega) (fun y hy => hs y (by simp [hy])) fun ds hd => h ds (.none ho hd)
    | some d => exact ⟨by omega, comp_rel R xs (acc ++ [d]) (by simp; omega) (fun y hy => hs y (by simp [hy])) fun ds hd => by
        rw [List.append_assoc]
        exact h (d :: ds) (.some ho hd)⟩
theorem PF.fn {f : D → Option D} : ∀ {xs ds : List D}, PF (fun x o => o = f x) xs ds → ds = xs.filterMap f
  | _, _, .nil => rfl
  | _, _, .some (x := x) h r => by rw [List.filterMap_cons, ← h, ← PF.fn r]
  | _, _, .none (x := x) h r => by rw [List.filterMap_cons, ← h, ← PF.fn r]
theorem comp_fn {g : WG} {tt : WT} {t : WE} {vs : List Nat} {ρ : Rho} (f : D → Option D) {Q : List D → Rho → Prop} (xs : List D) (hl : xs.length ≤ LIM)
    (hs : ∀ x ∈ xs, ∀ K : Option D → Rho → Prop, K (f x) ρ → g x ρ fun ρ1 => tt ρ1 fun c ρ2 => if c = true then t ρ2 (toF fun d ρ3 => K (some d) (wipeR ρ3 vs)) else K none (wipeR ρ2 vs))
    (h : Q (xs.filterMap f) ρ) : wCompL g tt t vs xs [] ρ Q :=
  comp_rel (fun x o => o = f x) xs [] (by simpa using hl) (fun x hx K hk => hs x hx K (hk _ rfl)) fun ds hd => by rw [List.nil_append, hd.fn]; exact h
/-- all items, by a predicate -/
theorem PF.all {R : D → Option D → Prop} {p : D → Prop} (hp : ∀ x o, R x o → ∃ d, o = Option.some d ∧ p d) : ∀ {xs ds : List D}, PF R xs ds → ds.length = xs.length ∧ ∀ d ∈ ds, p d
  | _, _, .nil => ⟨rfl, by simp⟩
  | _, _, .some h r => by
    obtain ⟨a, b⟩ := PF.all hp r
    obtain ⟨d', e, q⟩ := hp _ _ h
    cases e
    exact ⟨by simp [a], by simpa using ⟨q, b⟩⟩
  | _, _, .none h r => by obtain ⟨d', e, q⟩ := hp _ _ h; cases e
theorem PF.any {R : D → Option D → Prop} {p : D → Prop} (hp : ∀ x d, R x (Option.some d) → p d) : ∀ {xs ds : List D}, PF R xs ds → ds.length ≤ xs.length ∧ ∀ d ∈ ds, p d
  | _, _, .nil => ⟨Nat.le_refl _, by simp⟩
  | _, _, .some h r => by
    obtain ⟨a, b⟩ := PF.any hp r
    exact ⟨by simp; omega, by simpa using ⟨hp _ _ h, b⟩⟩
  | _, _, .none h r => by
    obtain ⟨a, b⟩ := PF.any hp r
    exact ⟨by simp; omega, b⟩
theorem ints_of {ds : List D} {p : Int → Prop} (h : ∀ d ∈ ds, ∃ i : Int, d = .int i ∧ p i) : ∃ xs : List Int, ds = xs.map .int ∧ ∀ x ∈ xs, p x := by
  induction ds with
  | nil => exact ⟨[], rfl, by simp⟩
  | cons d ds ih =>
    obtain ⟨i, rfl, h0⟩ := h d (by simp)
    obtain ⟨xs, rfl, h1⟩ := ih fun d hd => h d (by simp [hd])
    exact ⟨i :: xs, rfl, by simpa using ⟨h0, h1⟩⟩
/-! order -/
mutual
theorem ordOk_sh : ∀ (sh : Sh) {d e : D}, hasSh sh d = true → hasSh sh e = true → ordOk d e = true
  | .int, d, e, h1, h2 => by cases d <;> simp [hasSh] at h1; cases e <;> simp [hasSh] at h2; rfl
  | .str, d, e, h1, h2 => by cases d <;> simp [hasSh] at h1; cases e <;> simp [hasSh] at h2; rfl
  | .seq s, d, e, h1, h2 => by
    cases d <;> simp [hasSh] at h1
    cases e <;> simp [hasSh] at h2
    rename_i xs ys
    unfold ordOk
    induction xs generalizing ys with
    | nil => cases ys <;> rfl
    | cons x xs ih =>
      cases ys with
      | nil => rfl
      | cons y ys =>
        unfold ordOks
        rw [ordOk_sh s (h1 x (by simp)) (h2 y (by simp)), Bool.true_and]
        exact ih (fun z hz => h1 z (by simp [hz])) ys (fun z hz => h2 z (by simp [hz]))
  | .prod ss, d, e, h1, h2 => by
    cases d <;> simp [hasSh] at h1
    cases e <;> simp [hasSh] at h2
    unfold ordOk
    exact ordOks_pr ss h1 h2
theorem ordOks_pr : ∀ (ss : List Sh) {xs ys : List D}, hasPr ss xs = true → hasPr ss ys = true → ordOks xs ys = true
  | [], xs, ys, h1, h2 => by
    cases xs with
    | nil => cases ys <;> rfl
    | cons x xs => simp [hasPr] at h1
  | s :: ss, xs, ys, h1, h2 => by
    cases xs with
    | nil => simp [hasPr] at h1
    | cons x xs =>
      cases ys with
      | nil => simp [hasPr] at h2
      | cons y ys =>
        simp only [hasPr, Bool.and_eq_true] at h1 h2
        unfold ordOks
        rw [ordOk_sh s h1.1 h2.1, ordOks_pr ss h1.2 h2.2]; rfl
end
theorem allOrd_sh {sh : Sh} {xs : List D} (hd : depSh sh ≤ 20) (h : ∀ d ∈ xs, hasSh sh d = true) : allOrd xs = true := by
  unfold allOrd
  simp only [Bool.and_eq_true, List.all_eq_true]
  exact ⟨okEs_all.mpr fun x hx => notEmp_ok 20 x sh (h x hx) hd, fun x hx y hy => ordOk_sh sh (h x hx) (h y hy)⟩
theorem maxDD_spec {sh : Sh} : ∀ (xs : List D) (x : D), hasSh sh x = true → (∀ d ∈ xs, hasSh sh d = true) → maxDD x xs ∈ x :: xs ∧ ∀ y ∈ x :: xs, dlt (maxDD x xs) y = false
  | [], x, hx, _ => ⟨by simp [maxDD], fun y hy => by
      obtain rfl := List.mem_singleton.mp hy
      exact (sh_ord sh).irr _ hx⟩
  | z :: xs, x, hx, h => by
    have hz := h z (by simp)
    have O := sh_ord sh
    unfold maxDD
    rw [List.foldl_cons]
    by_cases c : dlt x z = true
    · rw [if_pos c]
      obtain ⟨a, b⟩ := maxDD_spec xs z hz fun d hd => h d (by simp [hd])
      unfold maxDD at a b
      refine ⟨by simp at a ⊢; exact .inr a, fun y hy => ?_⟩
      rcases List.mem_cons.mp hy with rfl | hy
      · have hm : hasSh sh (List.foldl (fun a y => if dlt a y = true then y else a) z xs) = true := by
          rcases List.mem_cons.mp a with e | e
          · rw [e]; exact hz
          · exact h _ (by simp [e])
        cases q : dlt (List.foldl (fun a y => if dlt a y = true then y else a) z xs) y with
        | false => rfl
        | true =>
          have t := O.tr _ y z hm hx hz q c
          rw [b z (by simp)] at t; cases t
      · exact b y hy
    · rw [if_neg c]
      obtain ⟨a, b⟩ := maxDD_spec xs x hx fun d hd => h d (by simp [hd])
      unfold maxDD at a b
      refine ⟨by simp at a ⊢; rcases a with a | a <;> simp [a], fun y hy => ?_⟩
      rcases List.mem_cons.mp hy with rfl | hy
      · exact b _ (by simp)
      · rcases List.mem_cons.mp hy with rfl | hy
        · have hm : hasSh sh (List.foldl (fun a y => if dlt a y = true then y else a) x xs) = true := by
            rcases List.mem_cons.mp a with e | e
            · rw [e]; exact hx
            · exact h _ (by simp [e])
          cases q : dlt (List.foldl (fun a y => if dlt a y = true then y else a) x xs) y with
          | false => rfl
          | true =>
            have bx := b x (by simp)
            rcases O.tot x (List.foldl (fun a y => if dlt a y = true then y else a) x xs) hx hm with t | t | t
            · exact absurd (O.tr _ _ _ hx hm hz t q) c
            · rw [← t] at q; exact absurd q c
            · rw [bx] at t; cases t
        · exact b y (by simp [hy])
end VL

namespace VL
open PySem PySem.Spec PyProof.Rows L2
open Evl (Ex)
/-! ### all sets of some things, by their sizes -/
def tSets_c1 : WE := wBin bAdd (wVar 3) (wTup (wConsF (wVar 2) wNil))
def tSets_f1 : WS := wAsg 1 (wBin bAdd (wVar 1) (wComp (wiO (wVar 1)) (wgName 3) wYes tSets_c1 [3]))
def tSets_c2 : WE := wTup (wConsF (wCl cLen (wCons (wVar 3) wNil)) (wConsF (wVar 3) wNil))
def tSets : WS :=
  wSeq (wAsg 1 (wLst (wConsF (wTup wNil) wNil)))
  (wSeq (wFor (wiF (wVar 0)) (wgName 2) tSets_f1)
  (wRet (wComp (wiO (wClP PSort (wCons (wComp (wiO (wVar 1)) (wgName 3) wYes tSets_c2 [3]) wNil))) (wgTup 2 (wgCons (wgName 4) (wgCons (wgName 3) wgNil))) wYes (wVar 3) [4, 3])))
def subGo : List D → List (List D) → List (List D)
  | [], rows => rows
  | t :: ts, rows => subGo ts (rows ++ rows.map (· ++ [t]))
def subsD (ts : List D) : List (List D) := subGo ts [[]]
def pairD (r : List D) : D := .tup [.int r.length, .tup r]
def setsD (ts : List D) : List D := (isort ((subsD ts).map pairD)).filterMap fun d => match d with
  | .tup [_, r] => some r
  | _ => none
theorem subGo_len : ∀ (ts : List D) (rows : List (List D)), (subGo ts rows).length = rows.length * 2 ^ ts.length
  | [], rows => by simp [subGo]
  | t :: ts, rows => by
    unfold subGo
    rw [subGo_len ts, List.length_append, List.length_map, List.length_cons, Nat.pow_succ]
    have : rows.length + rows.length = rows.length * 2 := by omega
    rw [this, Nat.mul_assoc, Nat.mul_comm 2]
theorem subGo_mem : ∀ {ts : List D} {rows : List (List D)} {r : List D}, r ∈ subGo ts rows ↔ ∃ a b, a ∈ rows ∧ b.Sublist ts ∧ r = a ++ b
  | [], rows, r => by
    unfold subGo
    constructor
    · intro h; exact ⟨r, [], h, .slnil, by simp⟩
    · rintro ⟨a, b, h, h2, rfl⟩
      rw [List.sublist_nil.mp h2, List.append_nil]; exact h
  | t :: ts, rows, r => by
    unfold subGo
    rw [subGo_mem (ts := ts)]
    constructor
    · rintro ⟨a, b, h, h2, rfl⟩
      rcases List.mem_append.mp h with h | h
      · exact ⟨a, b, h, h2.cons t, rfl⟩
      · obtain ⟨c, hc, rfl⟩ := List.mem_map.mp h
        exact ⟨c, t :: b, hc, h2.cons_cons t, by simp⟩
    · rintro ⟨a, b, h, h2, rfl⟩
      cases h2 with
      | cons _ h3 => exact ⟨a, b, List.mem_append.mpr (.inl h), h3, rfl⟩
      | cons_cons _ h3 => exact ⟨a ++ [t], _, List.mem_append.mpr (.inr (List.mem_map.mpr ⟨a, h, rfl⟩)), h3, by simp⟩
theorem subsD_mem {ts : List D} {r : List D} : r ∈ subsD ts ↔ r.Sublist ts := by
  unfold subsD
  rw [subGo_mem]
  constructor
  · rintro ⟨a, b, h, h2, rfl⟩
    obtain rfl := List.mem_singleton.mp h
    exact h2
  · intro h
    exact ⟨[], r, by simp, h, rfl⟩
theorem setsD_mem {ts : List D} {d : D} : d ∈ setsD ts ↔ ∃ r, r.Sublist ts ∧ d = .tup r := by
  unfold setsD
  rw [List.mem_filterMap]
  constructor
  · rintro ⟨x, hx, e⟩
    obtain ⟨r, hr, rfl⟩ := List.mem_map.mp ((isort_perm _).mem_iff.mp hx)
    cases e
    exact ⟨r, subsD_mem.mp hr, rfl⟩
  · rintro ⟨r, hr, rfl⟩
    exact ⟨pairD r, (isort_perm _).mem_iff.mpr (List.mem_map.mpr ⟨r, subsD_mem.mpr hr, rfl⟩), rfl⟩
theorem setsD_len {ts : List D} : (setsD ts).length = 2 ^ ts.length := by
  have h : ∀ l : List D, (∀ x ∈ l, ∃ r, x = pairD r) → (l.filterMap fun d => match d with
      | .tup [_, r] => some r
      | _ => none).length = l.length := fun l h => by
    induction l with
    | nil => rfl
    | cons x l ih =>
      obtain ⟨r, rfl⟩ := h x (by simp)
      rw [List.filterMap_cons]
      show (List.filterMap _ l).length + 1 = _
      rw [ih fun y hy => h y (by simp [hy])]; rfl
  unfold setsD
  rw [h _ fun x hx => ?_, (isort_perm _).length_eq, List.length_map]
  · unfold subsD; rw [subGo_len]; simp
  · obtain ⟨r, hr, rfl⟩ := List.mem_map.mp ((isort_perm _).mem_iff.mp hx)
    exact ⟨r, rfl⟩
def spSets : FS := fun as q => ∃ (x : D) (ts : List D) (sh : Sh), as = [.d x] ∧ seqOf x = some ts ∧ ts.length ≤ 12 ∧ depSh sh ≤ 10 ∧ (∀ t ∈ ts, hasSh sh t = true) ∧ q (.lst (setsD ts)) .nw
theorem sets_loop {P : PEnds} {x0 x4 : Slot} : ∀ (ts : List D) (rows : List (List D)) (t2 : Slot), rows.length * 2 ^ ts.length ≤ 5000 → (∀ r ∈ rows, r.length + ts.length ≤ 100) →
    (∀ t2, P.nx [x0, .ow (.lst ((subGo ts rows).map .tup)), t2, .un, x4]) → wLoop (wgName 2) tSets_f1 P ts [x0, .ow (.lst (rows.map .tup)), t2, .un, x4]
  | [], rows, t2, _, _, h => h t2
  | t :: ts, rows, t2, hl, hr, h => by
    have hl' : (rows.length + rows.length) * 2 ^ ts.length ≤ 5000 := by
      rw [List.length_cons, Nat.pow_succ] at hl
      calc (rows.length + rows.length) * 2 ^ ts.length = rows.length * (2 ^ ts.length * 2) := by rw [Nat.mul_comm (2 ^ ts.length) 2, ← Nat.mul_assoc]; congr 1; omega
        _ ≤ 5000 := hl
    have h1 : rows.length + rows.length ≤ 5000 := Nat.le_trans (Nat.le_mul_of_pos_right _ (Nat.pow_pos (by decide))) hl'
    unfold wLoop tSets_f1
    simp (maxSteps := 4000000) only [wSeq, wAsg, wgN, wVar, wCon, wBin, wUn, wCl, wCons, wNil, wConsF, wTup, wLst, wTest, wIf, wFor, wiR1, wiR2, wgName, oB, toF, toN, wRet, wRetN, wNext, wDrop, wMut, fAppend, wPar, nCons, nNil, setAll, sl, wAugI, wAug, bAddI, bSub, bAdd, wAnd, wOr, wNot, wAndV, wOrV, wNotV, wBl, wIfE, wCall, xCons, xNil, xW, Kd.ret, wiF, wiO, seqOf, wgTup, wgCons, wgNil, wAsgT, wSlice, wPSome, wPNone, dSlice, bMul, bMod, bDiv, bPow, cInt, cAbs, cLen, cTuple, cList, cmpD, ozI, ozB, uNeg, wComp, wipeR, restR, wYes, wBreak, wCont, wLstRg, wTupRg, wRg1, wRg2, wExtend, bIs, bIsNot, isNonD, List.set_cons_zero, List.set_cons_succ, List.getElem?_cons_zero, List.getElem?_cons_succ, List.getD_cons_zero, List.getD_cons_succ, List.length_cons, List.length_nil, if_true, if_false, reduceCtorEq, ite_true, ite_false, and_true, true_and, rho0, VL.A.slot, List.map_cons, List.map_nil, List.cons_append, List.nil_append, List.replicate, Nat.add_eq, Nat.reduceAdd, Nat.reduceSub, Bool.false_eq_true, decide_eq_true_eq, Nat.zero_le, Nat.zero_add, lim1, lim2, lim3, lim4, lim5, lim6, lim7, lim8, Bool.not_true, Bool.not_false, decide_true, decide_false]
    refine comp_fn (fun d => match d with
      | .tup r => some (.tup (r ++ [t]))
      | _ => none) _ (by rw [List.length_map]; unfold LIM; omega) (fun x hx K hK => ?_) ?_
    · obtain ⟨r, hr', rfl⟩ := List.mem_map.mp hx
      have := hr r hr'
      unfold tSets_c1
      simp (maxSteps := 4000000) only [wSeq, wAsg, wgN, wVar, wCon, wBin, wUn, wCl, wCons, wNil, wConsF, wTup, wLst, wTest, wIf, wFor, wiR1, wiR2, wgName, oB, toF, toN, wRet, wRetN, wNext, wDrop, wMut, fAppend, wPar, nCons, nNil, setAll, sl, wAugI, wAug, bAddI, bSub, bAdd, wAnd, wOr, wNot, wAndV, wOrV, wNotV, wBl, wIfE, wCall, xCons, xNil, xW, Kd.ret, wiF, wiO, seqOf, wgTup, wgCons, wgNil, wAsgT, wSlice, wPSome, wPNone, dSlice, bMul, bMod, bDiv, bPow, cInt, cAbs, cLen, cTuple, cList, cmpD, ozI, ozB, uNeg, wComp, wipeR, restR, wYes, wBreak, wCont, wLstRg, wTupRg, wRg1, wRg2, wExtend, bIs, bIsNot, isNonD, List.set_cons_zero, List.set_cons_succ, List.getElem?_cons_zero, List.getElem?_cons_succ, List.getD_cons_zero, List.getD_cons_succ, List.length_cons, List.length_nil, if_true, if_false, reduceCtorEq, ite_true, ite_false, and_true, true_and, rho0, VL.A.slot, List.map_cons, List.map_nil, List.cons_append, List.nil_append, List.replicate, Nat.add_eq, Nat.reduceAdd, Nat.reduceSub, Bool.false_eq_true, decide_eq_true_eq, Nat.zero_le, Nat.zero_add, lim1, lim2, lim3, lim4, lim5, lim6, lim7, lim8, Bool.not_true, Bool.not_false, decide_true, decide_false]
      have h2 : r.length + 1 ≤ LIM := by unfold LIM; simp at this; omega
      simp only [h2, if_true]
      exact hK
    · have e : (List.filterMap (fun d => match d with
          | D.tup r => some (D.tup (r ++ [t]))
          | _ => none) (rows.map .tup)) = (rows.map (· ++ [t])).map .tup := by
        rw [List.filterMap_map, List.map_map]
        rw [← List.filterMap_eq_map]
        rfl
      rw [e]
      have h2 : (rows.map D.tup).length + ((rows.map (· ++ [t])).map D.tup).length ≤ LIM := by simp; unfold LIM; omega
      simp (maxSteps := 4000000) only [wSeq, wAsg, wgN, wVar, wCon, wBin, wUn, wCl, wCons, wNil, wConsF, wTup, wLst, wTest, wIf, wFor, wiR1, wiR2, wgName, oB, toF, toN, wRet, wRetN, wNext, wDrop, wMut, fAppend, wPar, nCons, nNil, setAll, sl, wAugI, wAug, bAddI, bSub, bAdd, wAnd, wOr, wNot, wAndV, wOrV, wNotV, wBl, wIfE, wCall, xCons, xNil, xW, Kd.ret, wiF, wiO, seqOf, wgTup, wgCons, wgNil, wAsgT, wSlice, wPSome, wPNone, dSlice, bMul, bMod, bDiv, bPow, cInt, cAbs, cLen, cTuple, cList, cmpD, ozI, ozB, uNeg, wComp, wipeR, restR, wYes, wBreak, wCont, wLstRg, wTupRg, wRg1, wRg2, wExtend, bIs, bIsNot, isNonD, List.set_cons_zero, List.set_cons_succ, List.getElem?_cons_zero, List.getElem?_cons_succ, List.getD_cons_zero, List.getD_cons_succ, List.length_cons, List.length_nil, if_true, if_false, reduceCtorEq, ite_true, ite_false, and_true, true_and, rho0, VL.A.slot, List.map_cons, List.map_nil, List.cons_append, List.nil_append, List.replicate, Nat.add_eq, Nat.reduceAdd, Nat.reduceSub, Bool.false_eq_true, decide_eq_true_eq, Nat.zero_le, Nat.zero_add, lim1, lim2, lim3, lim4, lim5, lim6, lim7, lim8, Bool.not_true, Bool.not_false, decide_true, decide_false, h2]
      rw [← List.map_append]
      refine sets_loop ts _ _ (by simpa using hl') (fun r hr' => ?_) h
      rcases List.mem_append.mp hr' with h3 | h3
      · have := hr r h3; simp at this; omega
      · obtain ⟨c, hc, rfl⟩ := List.mem_map.mp h3
        have := hr c hc; simp at this ⊢; omega
theorem pair_sh {sh : Sh} {r ts : List D} (h : ∀ t ∈ ts, hasSh sh t = true) (hs : r.Sublist ts) : hasSh (.prod [.int, .seq sh]) (pairD r) = true := by
  unfold pairD
  simp only [hasSh, hasPr, Bool.true_and, Bool.and_true, List.all_eq_true]
  exact fun x hx => h x (hs.subset hx)
theorem sets_pure (as : List VL.A) (q : D → Kd → Prop) (h : spSets as q) : as.length = 1 ∧ tSets ⟨fun _ => q .non .fz, q, fun _ => False, fun _ => False⟩ (rho0 5 as) := by
  obtain ⟨x, ts, sh, rfl, hx, h1, h2, h3, hq⟩ := h
  refine ⟨rfl, ?_⟩
  unfold tSets
  simp (maxSteps := 4000000) only [wSeq, wAsg, wgN, wVar, wCon, wBin, wUn, wCl, wCons, wNil, wConsF, wTup, wLst, wTest, wIf, wFor, wiR1, wiR2, wgName, oB, toF, toN, wRet, wRetN, wNext, wDrop, wMut, fAppend, wPar, nCons, nNil, setAll, sl, wAugI, wAug, bAddI, bSub, bAdd, wAnd, wOr, wNot, wAndV, wOrV, wNotV, wBl, wIfE, wCall, xCons, xNil, xW, Kd.ret, wiF, wiO, seqOf, wgTup, wgCons, wgNil, wAsgT, wSlice, wPSome, wPNone, dSlice, bMul, bMod, bDiv, bPow, cInt, cAbs, cLen, cTuple, cList, cmpD, ozI, ozB, uNeg, wComp, wipeR, restR, wYes, wBreak, wCont, wLstRg, wTupRg, wRg1, wRg2, wExtend, bIs, bIsNot, isNonD, List.set_cons_zero, List.set_cons_succ, List.getElem?_cons_zero, List.getElem?_cons_succ, List.getD_cons_zero, List.getD_cons_succ, List.length_cons, List.length_nil, if_true, if_false, reduceCtorEq, ite_true, ite_false, and_true, true_and, rho0, VL.A.slot, List.map_cons, List.map_nil, List.cons_append, List.nil_append, List.replicate, Nat.add_eq, Nat.reduceAdd, Nat.reduceSub, Bool.false_eq_true, decide_eq_true_eq, Nat.zero_le, Nat.zero_add, lim1, lim2, lim3, lim4, lim5, lim6, lim7, lim8, Bool.not_true, Bool.not_false, decide_true, decide_false]
  unfold seqOf at hx
  rw [hx]
  have hp : 2 ^ ts.length ≤ 4096 := Nat.le_trans (Nat.pow_le_pow_right (by decide) h1) (by decide)
  show wLoop (wgName 2) tSets_f1 _ ts [.fz x, .ow (.lst (([[]] : List (List D)).map .tup)), .un, .un, .un]
  refine sets_loop ts _ _ (by simp; omega) (by simp; omega) fun t2 => ?_
  simp (maxSteps := 4000000) only [wSeq, wAsg, wgN, wVar, wCon, wBin, wUn, wCl, wCons, wNil, wConsF, wTup, wLst, wTest, wIf, wFor, wiR1, wiR2, wgName, oB, toF, toN, wRet, wRetN, wNext, wDrop, wMut, fAppend, wPar, nCons, nNil, setAll, sl, wAugI, wAug, bAddI, bSub, bAdd, wAnd, wOr, wNot, wAndV, wOrV, wNotV, wBl, wIfE, wCall, xCons, xNil, xW, Kd.ret, wiF, wiO, seqOf, wgTup, wgCons, wgNil, wAsgT, wSlice, wPSome, wPNone, dSlice, bMul, bMod, bDiv, bPow, cInt, cAbs, cLen, cTuple, cList, cmpD, ozI, ozB, uNeg, wComp, wipeR, restR, wYes, wBreak, wCont, wLstRg, wTupRg, wRg1, wRg2, wExtend, bIs, bIsNot, isNonD, List.set_cons_zero, List.set_cons_succ, List.getElem?_cons_zero, List.getElem?_cons_succ, List.getD_cons_zero, List.getD_cons_succ, List.length_cons, List.length_nil, if_true, if_false, reduceCtorEq, ite_true, ite_false, and_true, true_and, rho0, VL.A.slot, List.map_cons, List.map_nil, List.cons_append, List.nil_append, List.replicate, Nat.add_eq, Nat.reduceAdd, Nat.reduceSub, Bool.false_eq_true, decide_eq_true_eq, Nat.zero_le, Nat.zero_add, lim1, lim2, lim3, lim4, lim5, lim6, lim7, lim8, Bool.not_true, Bool.not_false, decide_true, decide_false]
  have hl : (subsD ts).length ≤ 4096 := by unfold subsD; rw [subGo_len]; simpa using hp
  refine comp_fn (fun d => match d with
      | .tup r => some (pairD r)
      | _ => none) _ (by rw [List.length_map]; unfold LIM; exact Nat.le_trans hl (by decide)) (fun x hx K hK => ?_) ?_
  · obtain ⟨r, hr', rfl⟩ := List.mem_map.mp hx
    unfold tSets_c2
    simp (maxSteps := 4000000) only [wSeq, wAsg, wgN, wVar, wCon, wBin, wUn, wCl, wCons, wNil, wConsF, wTup, wLst, wTest, wIf, wFor, wiR1, wiR2, wgName, oB, toF, toN, wRet, wRetN, wNext, wDrop, wMut, fAppend, wPar, nCons, nNil, setAll, sl, wAugI, wAug, bAddI, bSub, bAdd, wAnd, wOr, wNot, wAndV, wOrV, wNotV, wBl, wIfE, wCall, xCons, xNil, xW, Kd.ret, wiF, wiO, seqOf, wgTup, wgCons, wgNil, wAsgT, wSlice, wPSome, wPNone, dSlice, bMul, bMod, bDiv, bPow, cInt, cAbs, cLen, cTuple, cList, cmpD, ozI, ozB, uNeg, wComp, wipeR, restR, wYes, wBreak, wCont, wLstRg, wTupRg, wRg1, wRg2, wExtend, bIs, bIsNot, isNonD, List.set_cons_zero, List.set_cons_succ, List.getElem?_cons_zero, List.getElem?_cons_succ, List.getD_cons_zero, List.getD_cons_succ, List.length_cons, List.length_nil, if_true, if_false, reduceCtorEq, ite_true, ite_false, and_true, true_and, rho0, VL.A.slot, List.map_cons, List.map_nil, List.cons_append, List.nil_append, List.replicate, Nat.add_eq, Nat.reduceAdd, Nat.reduceSub, Bool.false_eq_true, decide_eq_true_eq, Nat.zero_le, Nat.zero_add, lim1, lim2, lim3, lim4, lim5, lim6, lim7, lim8, Bool.not_true, Bool.not_false, decide_true, decide_false]
    exact hK
  · have e : (List.filterMap (fun d => match d with
          | D.tup r => some (pairD r)
          | _ => none) ((subsD ts).map .tup)) = (subsD ts).map pairD := by
        rw [List.filterMap_map, ← List.filterMap_eq_map]
        rfl
    unfold subsD at e
    rw [e]
    simp (maxSteps := 4000000) only [wSeq, wAsg, wgN, wVar, wCon, wBin, wUn, wCl, wCons, wNil, wConsF, wTup, wLst, wTest, wIf, wFor, wiR1, wiR2, wgName, oB, toF, toN, wRet, wRetN, wNext, wDrop, wMut, fAppend, wPar, nCons, nNil, setAll, sl, wAugI, wAug, bAddI, bSub, bAdd, wAnd, wOr, wNot, wAndV, wOrV, wNotV, wBl, wIfE, wCall, xCons, xNil, xW, Kd.ret, wiF, wiO, seqOf, wgTup, wgCons, wgNil, wAsgT, wSlice, wPSome, wPNone, dSlice, bMul, bMod, bDiv, bPow, cInt, cAbs, cLen, cTuple, cList, cmpD, ozI, ozB, uNeg, wComp, wipeR, restR, wYes, wBreak, wCont, wLstRg, wTupRg, wRg1, wRg2, wExtend, bIs, bIsNot, isNonD, List.set_cons_zero, List.set_cons_succ, List.getElem?_cons_zero, List.getElem?_cons_succ, List.getD_cons_zero, List.getD_cons_succ, List.length_cons, List.length_nil, if_true, if_false, reduceCtorEq, ite_true, ite_false, and_true, true_and, rho0, VL.A.slot, List.map_cons, List.map_nil, List.cons_append, List.nil_append, List.replicate, Nat.add_eq, Nat.reduceAdd, Nat.reduceSub, Bool.false_eq_true, decide_eq_true_eq, Nat.zero_le, Nat.zero_add, lim1, lim2, lim3, lim4, lim5, lim6, lim7, lim8, Bool.not_true, Bool.not_false, decide_true, decide_false, wClP]
    refine ⟨_, _, ⟨_, .prod [.int, .seq sh], rfl, ⟨by simp [depSh, depShs]; omega, fun d hd => ?_⟩, rfl, rfl⟩, ?_⟩
    · obtain ⟨r, hr, rfl⟩ := List.mem_map.mp hd
      exact ⟨pair_sh h3 (subsD_mem.mp hr), rfl⟩
    · simp (maxSteps := 4000000) only [wSeq, wAsg, wgN, wVar, wCon, wBin, wUn, wCl, wCons, wNil, wConsF, wTup, wLst, wTest, wIf, wFor, wiR1, wiR2, wgName, oB, toF, toN, wRet, wRetN, wNext, wDrop, wMut, fAppend, wPar, nCons, nNil, setAll, sl, wAugI, wAug, bAddI, bSub, bAdd, wAnd, wOr, wNot, wAndV, wOrV, wNotV, wBl, wIfE, wCall, xCons, xNil, xW, Kd.ret, wiF, wiO, seqOf, wgTup, wgCons, wgNil, wAsgT, wSlice, wPSome, wPNone, dSlice, bMul, bMod, bDiv, bPow, cInt, cAbs, cLen, cTuple, cList, cmpD, ozI, ozB, uNeg, wComp, wipeR, restR, wYes, wBreak, wCont, wLstRg, wTupRg, wRg1, wRg2, wExtend, bIs, bIsNot, isNonD, List.set_cons_zero, List.set_cons_succ, List.getElem?_cons_zero, List.getElem?_cons_succ, List.getD_cons_zero, List.getD_cons_succ, List.length_cons, List.length_nil, if_true, if_false, reduceCtorEq, ite_true, ite_false, and_true, true_and, rho0, VL.A.slot, List.map_cons, List.map_nil, List.cons_append, List.nil_append, List.replicate, Nat.add_eq, Nat.reduceAdd, Nat.reduceSub, Bool.false_eq_true, decide_eq_true_eq, Nat.zero_le, Nat.zero_add, lim1, lim2, lim3, lim4, lim5, lim6, lim7, lim8, Bool.not_true, Bool.not_false, decide_true, decide_false]
      refine comp_fn (fun d => match d with
        | .tup [_, r] => some r
        | _ => none) _ (by rw [(isort_perm _).length_eq, List.length_map]; unfold LIM; exact Nat.le_trans hl (by decide)) (fun x hx K hK => ?_) ?_
      · obtain ⟨r, hr, rfl⟩ := List.mem_map.mp ((isort_perm _).mem_iff.mp hx)
        unfold pairD
        simp (maxSteps := 4000000) only [wSeq, wAsg, wgN, wVar, wCon, wBin, wUn, wCl, wCons, wNil, wConsF, wTup, wLst, wTest, wIf, wFor, wiR1, wiR2, wgName, oB, toF, toN, wRet, wRetN, wNext, wDrop, wMut, fAppend, wPar, nCons, nNil, setAll, sl, wAugI, wAug, bAddI, bSub, bAdd, wAnd, wOr, wNot, wAndV, wOrV, wNotV, wBl, wIfE, wCall, xCons, xNil, xW, Kd.ret, wiF, wiO, seqOf, wgTup, wgCons, wgNil, wAsgT, wSlice, wPSome, wPNone, dSlice, bMul, bMod, bDiv, bPow, cInt, cAbs, cLen, cTuple, cList, cmpD, ozI, ozB, uNeg, wComp, wipeR, restR, wYes, wBreak, wCont, wLstRg, wTupRg, wRg1, wRg2, wExtend, bIs, bIsNot, isNonD, List.set_cons_zero, List.set_cons_succ, List.getElem?_cons_zero, List.getElem?_cons_succ, List.getD_cons_zero, List.getD_cons_succ, List.length_cons, List.length_nil, if_true, if_false, reduceCtorEq, ite_true, ite_false, and_true, true_and, rho0, VL.A.slot, List.map_cons, List.map_nil, List.cons_append, List.nil_append, List.replicate, Nat.add_eq, Nat.reduceAdd, Nat.reduceSub, Bool.false_eq_true, decide_eq_true_eq, Nat.zero_le, Nat.zero_add, lim1, lim2, lim3, lim4, lim5, lim6, lim7, lim8, Bool.not_true, Bool.not_false, decide_true, decide_false]
        exact hK
      · exact hq
end VL

namespace VL
open PySem PySem.Spec PyProof.Rows L2
open Evl (Ex)
/-! ### a comprehension within a comprehension -/
/-- its block's names, by the outer block's -/
def relS (scope sc : Scope) : Scope :=
  { scope with names := scope.names.map fun p => if (p.2 == .free && sc.kind == .function && sc.names.lookup p.1 == some .cell) = true then (p.1, .cell) else p }
theorem relS_eq {scope sc : Scope} {cl : List (Str × Addr)} {C : Addr} {env : Env} (he : env.scope = sc) : (compEnvC scope cl C env).scope = relS scope sc := by
  subst he
  rfl
theorem blkOk_in {N : List Str} {sc scope inner : Scope} {own : List (Str × Nat)} {env : Env} {cl : List (Str × Addr)} {C : Addr} (he : env.scope = sc) (h : blkC N (relS scope sc) inner own = true) : BlkOk N (compEnvC scope cl C env).scope inner own := by
  rw [relS_eq he]
  exact blkOk_by h
/-! ### xs[i] = v -/
def lputD (d k v : D) : Option D := match d, k with
  | .lst xs, .int i => (ixN xs.length i).map fun j => .lst (xs.set j v)
  | _, _ => none
def wLPut (j : Nat) (wk wv : WE) : WS := fun P ρ => wv ρ (toF fun v ρ1 => (∃ d, ρ1[j]? = some (.ow d)) ∧ wk ρ1 fun k _ ρ2 => match ρ2[j]? with
  | some (.ow d) => match lputD d k v with
    | some z => P.nx (ρ2.set j (.ow z))
    | none => False
  | _ => False)
variable {K : PySem.W.Frag}
theorem snd_lput {j : Nat} {tk tv : TE} {wk wv : WE} (hk : SndE K tk wk) (hv : SndE K tv wv) : SndS K (tAsg tv (gSub (tVar j) tk rSetL)) (wLPut j wk wv) := fun b P E G ρ σ H e s hq => by
  refine hv b G ρ σ H _ _ s hq fun d kd ρ1 v G1 H1 q1 x1 s1 r1 => ?_
  refine frozen (R := fun v H' => gSub (tVar j) tk rSetL v σ H' E.nx) q1 x1 s s1 r1 fun d ρ1 v G1 q1 x1 s1 r1 => ?_
  obtain ⟨⟨d0, e0⟩, q1⟩ := q1
  obtain ⟨a, h1, _⟩ := s1.ow j d0 e0
  refine ⟨_, h1, ?_⟩
  refine hk b G1 ρ1 σ H1 _ _ s1 q1 fun k kk ρ2 u G2 H2 q2 x2 s2 r2 => ?_
  have ok := r2.ov s2
  split at q2
  · rename_i dd e2
    split at q2
    · rename_i z ez
      obtain ⟨a', c1, c2, c3, c4, c5⟩ := s2.ow j dd e2
      rw [h1] at c1; cases c1
      have rv := r1.mono x2.g
      unfold lputD at ez
      split at ez
      · rename_i xs i
        obtain ⟨vs, c6, c7⟩ := c5
        obtain rfl := ov_int ok
        cases hi : ixN xs.length i with
        | none => rw [hi] at ez; cases ez
        | some n =>
          rw [hi] at ez; cases ez
          refine ⟨a, vs, i, n, rfl, rfl, c6, by rw [c7.length]; exact hi, ?_⟩
          exact e.nx _ σ G2 _ q2 (s2.put e2 h1 ⟨_, upd_same, RpL.set rv n c7⟩)
      · cases ez
    · exact q2.elim
  · exact q2.elim
section
variable {X : Cx} {e a b c : Expr} {te ta tb : TE} {t u : WE} {pos : Pos}
theorem s_lput (j : Nat) {n : Str} {np pos' : Pos} (hk : SE X b tb u) (hv : SE X a ta t) (hN : X.N[j]? = some n := by rfl) (hv' : Vis X.env.scope n := by first | exact Or.inl rfl | exact Or.inr (Or.inl rfl) | exact Or.inr (Or.inr rfl)) (hd : (n == ("__debug__" : Str)) = false := by decide) (hcd : (n == ("__classdict__" : Str)) = false := by decide)
    (hs : swapsWithSole [.Subscript (.Name n np) b pos'] a pos.line X.env = pure false := by rfl) (hw : swappedStores [.Subscript (.Name n np) b pos'] a X.env = pure none := by rfl)
    (h1 : (assignEach [.Subscript (.Name n np) b pos'] X.env).map (·.2) = [assign (.Subscript (.Name n np) b pos') X.env] := by rfl)
    (ha : ∀ v, assign (.Subscript (.Name n np) b pos') X.env v = (do
      let ov ← holding [v] (eval (.Name n np) X.env)
      let iv ← holding [v, ov] (eval b X.env)
      standAt pos'
      holding [v, ov, iv] (setItem ov iv v)
      release [v, ov, iv] []) := by intro _; rfl) : SS X (.Assign [.Subscript (.Name n np) b pos'] a pos) (tAsg ta (gSub (tVar j) tb rSetL)) (wLPut j u t) :=
  ⟨ps_asg hv.pe (pg_sub (pe_var hN hv' hd hcd) hk.pe set_list ha) hs hw h1, snd_lput hk.snd hv.snd⟩
end
end VL

namespace VL
open PySem PySem.Spec PyProof.Rows L2
open Evl (Ex)
/-! ### more of the pure library -/
/-- data that == may be asked of and is equality on -/
def Gd (n : Nat) (d : D) : Prop := okE n d = true ∧ pl d = true
theorem Gd.int {n : Nat} {i : Int} : Gd n (.int i) := ⟨okE_int, rfl⟩
theorem Gd.non {n : Nat} : Gd n .non := ⟨by simp [okE], rfl⟩
theorem Gd.str {n : Nat} {s : Str} (h : s.cps.all (· < 0x110000) = true) : Gd n (.str s) := ⟨by simpa [okE] using h, rfl⟩
theorem Gd.tup {n : Nat} {xs : List D} (h : ∀ x ∈ xs, Gd n x) : Gd (n + 1) (.tup xs) := ⟨by rw [okE_tup, okEs_all]; exact fun x hx => (h x hx).1, by unfold pl; rw [pls_all]; exact fun x hx => (h x hx).2⟩
theorem Gd.lst {n : Nat} {xs : List D} (h : ∀ x ∈ xs, Gd n x) : Gd (n + 1) (.lst xs) := ⟨by rw [okE_lst, okEs_all]; exact fun x hx => (h x hx).1, by unfold pl; rw [pls_all]; exact fun x hx => (h x hx).2⟩
theorem Gd.tI {n : Nat} {xs : List Int} : Gd (n + 1) (tI xs) := ⟨okE_tI, pl_tI⟩
theorem Gd.up {n m : Nat} (hm : n ≤ m) {d : D} (h : Gd n d) : Gd m d := by
  obtain ⟨h1, h2⟩ := h
  refine ⟨?_, h2⟩
  clear h2
  have key : ∀ (n : Nat), (∀ (m : Nat) (d : D), n ≤ m → okE n d = true → okE m d = true) := fun n => by
    induction n with
    | zero =>
      intro m d hm h
      cases d <;> simp [okE] at h ⊢
      exact h
    | succ n ih =>
      intro m d hm h
      obtain ⟨m, rfl⟩ : ∃ k, m = k + 1 := ⟨m - 1, by omega⟩
      have hm : n ≤ m := by omega
      cases d <;> simp only [okE] at h ⊢ <;> first | exact h | (rw [okEs_all] at h ⊢; exact fun x hx => ih m x hm (h x hx)) | skip
      all_goals simp [okE] at h
  exact key n m d hm h1
theorem bEq_gd {n m : Nat} {a b : D} (h1 : Gd n a) (h2 : Gd m b) {p : Prop} [Decidable p] (h : a = b ↔ p) (hn : n ≤ 20 := by decide) (hm : m ≤ 20 := by decide) : bEq a b = ozB (decide p) := bEq_pl (h1.up hn).1 (h2.up hm).1 h1.2 h2.2 h
theorem bNe_gd {n m : Nat} {a b : D} (h1 : Gd n a) (h2 : Gd m b) {p : Prop} [Decidable p] (h : a = b ↔ p) (hn : n ≤ 20 := by decide) (hm : m ≤ 20 := by decide) : bNe a b = ozB (!decide p) := bNe_pl (h1.up hn).1 (h2.up hm).1 h1.2 h2.2 h
/-- pairs of ints -/
def pI (p : Int × Int) : D := .tup [.int p.1, .int p.2]
theorem pI_inj {a b : Int × Int} (h : pI a = pI b) : a = b := by
  unfold pI at h
  simp only [D.tup.injEq, List.cons.injEq, D.int.injEq, and_true] at h
  exact Prod.ext h.1 h.2
theorem Gd.pI {n : Nat} {a : Int × Int} : Gd (n + 1) (pI a) := .tup fun x hx => by
  simp at hx; rcases hx with rfl | rfl <;> exact .int
theorem map_inj {α : Type} {f : α → D} (hf : ∀ a b, f a = f b → a = b) : ∀ {xs ys : List α}, xs.map f = ys.map f → xs = ys
  | [], [], _ => rfl
  | [], _ :: _, h => by simp at h
  | _ :: _, [], h => by simp at h
  | x :: xs, y :: ys, h => by
    simp only [List.map_cons, List.cons.injEq] at h
    rw [hf _ _ h.1, map_inj hf h.2]
theorem Gd.map {α : Type} {f : α → D} {n : Nat} (hf : ∀ a, Gd n (f a)) (xs : List α) : Gd (n + 1) (.tup (xs.map f)) := .tup fun x hx => by
  obtain ⟨a, _, rfl⟩ := List.mem_map.mp hx; exact hf a
theorem Gd.mapL {α : Type} {f : α → D} {n : Nat} (hf : ∀ a, Gd n (f a)) (xs : List α) : Gd (n + 1) (.lst (xs.map f)) := .lst fun x hx => by
  obtain ⟨a, _, rfl⟩ := List.mem_map.mp hx; exact hf a
theorem PF.sub {R : D → Option D → Prop} (hp : ∀ x d, R x (Option.some d) → d = x) : ∀ {xs ds : List D}, PF R xs ds → ds.Sublist xs
  | _, _, .nil => .slnil
  | _, _, .some h r => by
    obtain rfl := hp _ _ h
    exact (PF.sub hp r).cons_cons _
  | _, _, .none h r => (PF.sub hp r).cons _
/-- all sublists -/
def subI : List Int → List (List Int)
  | [] => [[]]
  | x :: xs => subI xs ++ (subI xs).map (x :: ·)
theorem subI_mem : ∀ {xs r : List Int}, r.Sublist xs → r ∈ subI xs
  | [], r, h => by rw [List.sublist_nil.mp h]; simp [subI]
  | x :: xs, r, h => by
    unfold subI
    cases h with
    | cons _ h => exact List.mem_append.mpr (.inl (subI_mem h))
    | cons_cons _ h => exact List.mem_append.mpr (.inr (List.mem_map.mpr ⟨_, subI_mem h, rfl⟩))
theorem subI_sub : ∀ {xs r : List Int}, r ∈ subI xs → r.Sublist xs
  | [], r, h => by simp [subI] at h; rw [h]; exact .slnil
  | x :: xs, r, h => by
    unfold subI at h
    rcases List.mem_append.mp h with h | h
    · exact (subI_sub h).cons x
    · obtain ⟨s, hs, rfl⟩ := List.mem_map.mp h
      exact (subI_sub hs).cons_cons x
theorem fdiv_nn {a b : Int} (ha : 0 ≤ a) (hb : 0 ≤ b) : a.fdiv b = a / b := Int.fdiv_eq_ediv_of_nonneg a hb
theorem fdiv_nn' {a b : Int} (hb : 0 ≤ b) : a.fdiv b = a / b := Int.fdiv_eq_ediv_of_nonneg a hb
theorem fmod_nn {a b : Int} (hb : 0 ≤ b) : a.fmod b = a % b := Int.fmod_eq_emod_of_nonneg a hb
theorem minDD_spec {sh : Sh} : ∀ (xs : List D) (x : D), hasSh sh x = true → (∀ d ∈ xs, hasSh sh d = true) → minDD x xs ∈ x :: xs ∧ ∀ y ∈ x :: xs, dlt y (minDD x xs) = false
  | [], x, hx, _ => ⟨by simp [minDD], fun y hy => by
      obtain rfl := List.mem_singleton.mp hy
      exact (sh_ord sh).irr _ hx⟩
  | z :: xs, x, hx, h => by
    have hz := h z (by simp)
    have O := sh_ord sh
    unfold minDD
    rw [List.foldl_cons]
    by_cases c : dlt z x = true
    · rw [if_pos c]
      obtain ⟨a, b⟩ := minDD_spec xs z hz fun d hd => h d (by simp [hd])
      unfold minDD at a b
      refine ⟨by simp at a ⊢; exact .inr a, fun y hy => ?_⟩
      rcases List.mem_cons.mp hy with rfl | hy
      · have hm : hasSh sh (List.foldl (fun a y => if dlt y a = true then y else a) z xs) = true := by
          rcases List.mem_cons.mp a with e | e
          · rw [e]; exact hz
          · exact h _ (by simp [e])
        cases q : dlt y (List.foldl (fun a y => if dlt y a = true then y else a) z xs) with
        | false => rfl
        | true =>
          have t := O.tr _ _ _ hz hx hm c q
          rw [b z (by simp)] at t; cases t
      · exact b y hy
    · rw [if_neg c]
      obtain ⟨a, b⟩ := minDD_spec xs x hx fun d hd => h d (by simp [hd])
      unfold minDD at a b
      refine ⟨by simp at a ⊢; rcases a with a | a <;> simp [a], fun y hy => ?_⟩
      rcases List.mem_cons.mp hy with rfl | hy
      · exact b _ (by simp)
      · rcases List.mem_cons.mp hy with rfl | hy
        · have hm : hasSh sh (List.foldl (fun a y => if dlt y a = true then y else a) x xs) = true := by
            rcases List.mem_cons.mp a with e | e
            · rw [e]; exact hx
            · exact h _ (by simp [e])
          cases q : dlt y (List.foldl (fun a y => if dlt y a = true then y else a) x xs) with
          | false => rfl
          | true =>
            have bx := b x (by simp)
            rcases O.tot x (List.foldl (fun a y => if dlt y a = true then y else a) x xs) hx hm with t | t | t
            · rw [bx] at t; cases t
            · rw [← t] at q; exact absurd q c
            · exact absurd (O.tr _ _ _ hz hm hx q t) c
        · exact b y (by simp [hy])
/-- min of ints: by a least one -/
theorem cMin_ints {xs : List Int} {m : Int} (hm : m ∈ xs) (h : ∀ x ∈ xs, m ≤ x) : cMin [.lst (xs.map .int)] = ozI m := by
  cases xs with
  | nil => cases hm
  | cons a as =>
    have hs : ∀ d ∈ as.map D.int, hasSh .int d = true := fun d hd => by obtain ⟨i, _, rfl⟩ := List.mem_map.mp hd; rfl
    have ho : allOrd ((a :: as).map .int) = true := allOrd_sh (sh := .int) (by decide) fun d hd => by obtain ⟨i, _, rfl⟩ := List.mem_map.mp hd; rfl
    show (if allOrd ((a :: as).map .int) = true then some (minDD (.int a) (as.map .int), Kd.fz) else none) = _
    rw [if_pos ho]
    obtain ⟨m1, m2⟩ := minDD_spec (sh := .int) (as.map .int) (.int a) rfl hs
    have m1' : minDD (.int a) (as.map .int) ∈ (a :: as).map D.int := m1
    obtain ⟨c, hc, ec⟩ := List.mem_map.mp m1'
    rw [← ec] at m2 ⊢
    have h1 := m2 (.int m) (show D.int m ∈ (a :: as).map D.int from List.mem_map.mpr ⟨m, hm, rfl⟩)
    have h2 : ¬ m < c := of_decide_eq_false (by simpa [dlt] using h1)
    have h3 := h c hc
    have : c = m := by omega
    rw [this]; rfl
/-- a comprehension over images -/
theorem comp_mpA {α : Type} {g : WG} {tt : WT} {t : WE} {vs : List Nat} {ρ : Rho} (e : α → D) (f : α → Option D) {Q : List D → Rho → Prop} : ∀ (l : List α) (acc : List D), acc.length + l.length ≤ LIM →
    (hs : ∀ a ∈ l, ∀ K : Option D → Rho → Prop, K (f a) ρ → g (e a) ρ fun ρ1 => tt ρ1 fun c ρ2 => if c = true then t ρ2 (toF fun d ρ3 => K (some d) (wipeR ρ3 vs)) else K none (wipeR ρ2 vs)) →
    Q (acc ++ l.filterMap f) ρ → wCompL g tt t vs (l.map e) acc ρ Q
  | [], acc, hl, hs, h => by
    rw [List.filterMap_nil, List.append_nil] at h
    exact h
  | x :: xs, acc, hl, hs, h => by
    refine hs x (by simp) (fun o ρ' => match o with
      | some d => acc.length < LIM ∧ wCompL g tt t vs (xs.map e) (acc ++ [d]) ρ' Q
      | none => wCompL g tt t vs (xs.map e) acc ρ' Q) ?_
    have hl' : acc.length + xs.length + 1 ≤ LIM := by simpa [Nat.add_assoc] using hl
    cases hf : f x with
    | none =>
      rw [List.filterMap_cons_none hf] at h
      exact comp_mpA e f xs acc (by omega) (fun y hy => hs y (by simp [hy])) h
    | some d =>
      rw [List.filterMap_cons_some hf] at h
      exact ⟨by omega, comp_mpA e f xs (acc ++ [d]) (by simp; omega) (fun y hy => hs y (by simp [hy])) (by rw [List.append_assoc]; exact h)⟩
theorem comp_mp {α : Type} {g : WG} {tt : WT} {t : WE} {vs : List Nat} {ρ : Rho} (e : α → D) (f : α → Option D) {Q : List D → Rho → Prop} (l : List α) (hl : l.length ≤ LIM)
    (hs : ∀ a ∈ l, ∀ K : Option D → Rho → Prop, K (f a) ρ → g (e a) ρ fun ρ1 => tt ρ1 fun c ρ2 => if c = true then t ρ2 (toF fun d ρ3 => K (some d) (wipeR ρ3 vs)) else K none (wipeR ρ2 vs))
    (h : Q (l.filterMap f) ρ) : wCompL g tt t vs (l.map e) [] ρ Q := comp_mpA e f l [] (by simpa using hl) hs (by simpa using h)
theorem sub_ints {ds : List D} {l : List Int} (h : ds.Sublist (l.map .int)) : ∃ g : List Int, ds = g.map .int ∧ g.Sublist l := by
  obtain ⟨g, h1, h2⟩ := List.sublist_map_iff.mp h
  exact ⟨g, h2, h1⟩
/-- all sets of some ints -/
theorem sets_of (ts : List Int) : ∃ Ls : List (List Int), setsD (ts.map .int) = Ls.map tI ∧ (∀ R, R ∈ Ls ↔ R.Sublist ts) ∧ Ls.length = 2 ^ ts.length := by
  have h : ∀ l : List D, (∀ d ∈ l, ∃ R : List Int, d = tI R) → ∃ Ls : List (List Int), l = Ls.map tI := fun l h => by
    induction l with
    | nil => exact ⟨[], rfl⟩
    | cons d l ih =>
      obtain ⟨R, rfl⟩ := h d (by simp)
      obtain ⟨Ls, rfl⟩ := ih fun d hd => h d (by simp [hd])
      exact ⟨R :: Ls, rfl⟩
  have inv : ∀ d, d ∈ setsD (ts.map .int) ↔ ∃ R : List Int, R.Sublist ts ∧ d = tI R := fun d => by
    rw [setsD_mem]
    constructor
    · rintro ⟨r, hr, rfl⟩
      obtain ⟨R, hR, rfl⟩ := List.sublist_map_iff.mp hr
      exact ⟨R, hR, rfl⟩
    · rintro ⟨R, hR, rfl⟩
      exact ⟨R.map .int, hR.map _, rfl⟩
  obtain ⟨Ls, e⟩ := h _ fun d hd => by
    obtain ⟨R, _, e⟩ := (inv d).mp hd
    exact ⟨R, e⟩
  refine ⟨Ls, e, fun R => ?_, ?_⟩
  · constructor
    · intro hR
      have : tI R ∈ setsD (ts.map .int) := by rw [e]; exact List.mem_map.mpr ⟨R, hR, rfl⟩
      obtain ⟨R', h1, h2⟩ := (inv _).mp this
      rw [tI_inj h2]; exact h1
    · intro hR
      have : tI R ∈ setsD (ts.map .int) := (inv _).mpr ⟨R, hR, rfl⟩
      rw [e] at this
      obtain ⟨R', h1, h2⟩ := List.mem_map.mp this
      rw [← tI_inj h2]; exact h1
  · have := setsD_len (ts := ts.map .int)
    rw [e, List.length_map, List.length_map] at this
    exact this
theorem ixN_last (n : Nat) : ixN (n + 1) (-1) = some n := by
  unfold ixN
  rw [if_neg (by decide), if_pos (by omega)]
  congr 1
  omega
theorem atI_end {α : Type} (xs : List α) (x : α) : atI (xs ++ [x]) (-1) = some x := by
  unfold atI
  rw [List.length_append, List.length_cons, List.length_nil, Nat.zero_add, ixN_last]
  simp
theorem lput_end (xs : List D) (x v : D) : lputD (.lst (xs ++ [x])) (.int (-1)) v = some (.lst (xs ++ [v])) := by
  unfold lputD
  simp only [List.length_append, List.length_cons, List.length_nil, Nat.zero_add, ixN_last, Option.map_some]
  simp
theorem loop_mem {g : WG} {tb : WS} {P : PEnds} (p : D → Prop) (I : Rho → Prop) (hs : ∀ x ρ, p x → I ρ → ∀ J : Rho → Prop, (∀ ρ', I ρ' → J ρ') → g x ρ fun ρ1 => tb ⟨J, P.rt, P.nx, J⟩ ρ1) (he : ∀ ρ, I ρ → P.nx ρ) (xs : List D) (ρ : Rho) (hp : ∀ x ∈ xs, p x) (h : I ρ) : wLoop g tb P xs ρ :=
  loop_inv (fun l ρ => (∀ x ∈ l, p x) ∧ I ρ) (fun x r ρ hI J hJ => hs x ρ (hI.1 x (by simp)) hI.2 J fun ρ' h' => hJ ρ' ⟨fun y hy => hI.1 y (by simp [hy]), h'⟩) (fun ρ hI => he ρ hI.2) xs ρ ⟨hp, h⟩
theorem bNe_self {n : Nat} {a : D} (h : Gd n a) (hn : n ≤ 20 := by decide) : bNe a a = ozB false := bNe_gd h h (p := True) (by simp) hn hn
theorem bEq_self {n : Nat} {a : D} (h : Gd n a) (hn : n ≤ 20 := by decide) : bEq a a = ozB true := bEq_gd h h (p := True) (by simp) hn hn
end VL

namespace VL
open PySem PySem.Spec PyProof.Rows L2
open Evl (Ex)
variable {K : PySem.W.Frag}
/-! ### isinstance -/
def tyD : D → Option String
  | .non => some "NoneType"
  | .bl _ => some "bool"
  | .int _ => some "int"
  | .str _ => some "str"
  | .lst _ => some "list"
  | .tup _ => some "tuple"
  | .dk _ => some "dict"
  | .dt _ => some "dict"
  | _ => none
def isB (a n : String) : Bool := a == n || (a == "bool" && n == "int")
theorem kitB_ok : (["NoneType", "bool", "int", "str", "list", "tuple", "dict"].all fun a => ["bool", "int", "str", "list", "tuple", "dict"].all fun n => decide (kitB a n = some (isB a n))) = true := by decide +kernel
def okTy (n : String) : Bool := ["bool", "int", "str", "list", "tuple", "dict"].contains n
theorem kitB_at {d : D} {a n : String} (h : tyD d = some a) (hn : okTy n = true) : kitB a n = some (isB a n) := by
  have ha : a ∈ ["NoneType", "bool", "int", "str", "list", "tuple", "dict"] := by
    cases d <;> simp [tyD] at h <;> subst h <;> simp
  have hn' : n ∈ ["bool", "int", "str", "list", "tuple", "dict"] := by simpa [okTy] using hn
  exact of_decide_eq_true (List.all_eq_true.mp (List.all_eq_true.mp kitB_ok a ha) n hn')
theorem ty_at {G B H : Hp} {v : V} {d : D} {a : String} (g : Ex G B) (g2 : Ex B H) (o : Ov K G B v d) (h : tyD d = some a) : TyX K H v (.type a) := by
  cases d with
  | non => obtain rfl := ov_non o; cases h; exact .base .non
  | bl x => obtain rfl := ov_bl o; cases h; exact .base (.bl x)
  | int x => obtain rfl := ov_int o; cases h; exact .base (.int x)
  | str x => obtain rfl := ov_str o; cases h; exact .base (.str x)
  | lst x => obtain ⟨p, vs, rfl, e, _⟩ := o; cases h; exact .base (.lst (g2 _ _ e))
  | dk x =>
    obtain ⟨p, vs, rfl, e, _⟩ := o; cases h
    rcases rd_mono g2 e with e | ⟨o, e⟩
    · exact .base (.dK e)
    · exact .fDict e
  | dt x => obtain ⟨p, vs, rfl, e, _⟩ := o; cases h; exact .base (.dT (g2 _ _ e))
  | tup x =>
    cases (show Rp K G v (.tup x) from o) with
    | tup e r => cases h; exact .base (.tup (g2 _ _ (g _ _ e)))
  | fl x => cases h
  | ft x => cases h
def wIs (n : String) (t : WE) : WE := fun ρ Q => t ρ fun d _ ρ1 => match tyD d with
  | some a => Q (.bl (isB a n)) .fz ρ1
  | none => False
section
variable {X : Cx} {e a b c : Expr} {te ta tb : TE} {t u : WE} {pos pp p2 : Pos}
theorem c_isi (n : String) {T : Str} (he : SE X e te t) (hm : X.mg "isinstance" = none) (hm2 : X.mg T = none) (hn : okTy n = true := by decide) (hv : bootBuiltins T = some (.type n) := by decide +kernel) (hT : T ≠ "__name__" := by decide) (hTd : (T == ("__debug__" : Str)) = false := by decide) (hg : Gl X "isinstance" := by rfl) (hg2 : Gl X T := by rfl)
    (h1 : starEach [e, .Name T p2] X.env = (false, eval e X.env) :: starEach [.Name T p2] X.env := by rfl) (h2 : starEach [.Name T p2] X.env = (false, eval (.Name T p2) X.env) :: starEach [] X.env := by rfl) (hpl : (backTo pos (starEach [.Name T p2] X.env)).any (·.1) = false := by rfl) :
    SE X (.Call (.Name "isinstance" pp) [e, .Name T p2] [] pos) (tCB (rIsi X.K) (tCons te (tCons (tC (.ty n)) tNil))) (wIs n t) :=
  ⟨pe_callB call_isi hg hm (by decide +kernel) (pa_cons he.pe (pa_cons (pe_bltn hg2 hm2 hv rfl hT hTd) pa_nil h2) h1) (by decide) (by decide) h1 hpl, fun b G ρ σ H Q R s hq k => by
    refine he.snd b G ρ σ H _ _ s hq fun d kd ρ1 v G1 H1 q1 x1 s1 r1 => ?_
    split at q1
    · rename_i a ha
      exact ⟨v, .ty n, .type a, .type n, isB a n, rfl, .ty n, ty_at s1.sub hd_le (r1.ov s1) ha, kit_ty (kitB_at ha hn), k _ .fz _ _ _ _ q1 x1 s1 (.bl _)⟩
    · exact q1.elim⟩
/-! ### what is never reached -/
def wNo : WE := fun _ _ => False
theorem e_no (h : PE X e te) : SE X e te wNo := ⟨h, fun b G ρ σ H Q R s q k => q.elim⟩
def wiNo : WI := fun _ _ => False
theorem io_no {tg : Expr} {wi : TI} (h : PI X tg e wi) : SIO X tg e wi wiNo := ⟨h, fun b G ρ σ H Q R s q k => q.elim⟩
theorem if_no {tg : Expr} {wi : TI} (h : PI X tg e wi) : SIF X tg e wi wiNo := ⟨h, fun b G ρ σ H Q R s q k => q.elim⟩
def wsNo : WS := fun _ _ => False
theorem s_no {st : Stmt} {ts : TS} (h : PS X st ts) : SS X st ts wsNo := ⟨h, fun b P E G ρ σ H e s q => q.elim⟩
theorem io_keysNo {tg : Expr} (h : SE X e te t) : SIO X tg e (iKeys te) wiNo := io_no (pi_keys h.pe)
theorem c_dictNo {es : List Expr} {xa : TA} {x : WA} (hm : X.mg "dict" = none) (ha : SO X (e :: es) xa x) (hg : Gl X "dict" := by rfl) (he : starEach (e :: es) X.env = (false, eval e X.env) :: starEach es X.env := by rfl) (hpl : (backTo pos (starEach es X.env)).any (·.1) = false := by rfl) (hc : X.calm = true := by rfl) :
    SE X (.Call (.Name "dict" pp) (e :: es) [] pos) (tCB (fun xs H Q => ∃ (a : Addr) (ps : List Addr) (kvs : List (Key × V)), xs = [.ref a] ∧ SqL X.K H a (ps.map V.ref) ∧ Paired (fun p kv => SqT X.K H p [kV kv.1, kv.2]) ps kvs ∧
    ∀ p, H p = none → Q (.ref p) (upd H p (.dK (mergeK [] kvs)))) xa) wNo := e_no (pe_callTy (call_dictP hc) hg hm (by decide +kernel) ha.pa (by decide) (by decide) he hpl)
/-! ### g = xs.pop() -/
def wPopT (j : Nat) (g : WG) : WS := fun P ρ => match ρ[j]? with
  | some (.ow (.lst ds)) => match ds.getLast? with
    | some d => g d (ρ.set j (.ow (.lst ds.dropLast))) P.nx
    | none => False
  | _ => False
theorem RpL.dropLast {G : Hp} : ∀ {vs : List V} {ds : List D}, RpL K G vs ds → RpL K G vs.dropLast ds.dropLast
  | _, _, .nil => .nil
  | _, _, .cons a .nil => .nil
  | _, _, .cons a (.cons b r) => .cons a (RpL.dropLast (.cons b r))
theorem snd_popT {j : Nat} {tg : TG} {g : WG} (hg : SndG K tg g) : SndS K (tAsg (tBM0 K "list" rPop (tVar j)) tg) (wPopT j g) := fun b P E G ρ σ H e s hq => by
  unfold wPopT at hq
  split at hq
  · rename_i ds ej
    split at hq
    · rename_i d ed
      obtain ⟨a, h1, h2, h3, h4, vs, h5, h6⟩ := s.ow j _ ej
      have h5 : H a = some (.lst vs) := h5
      refine ⟨_, h1, .inl ⟨rfl, _, .inl (.inl h5)⟩, ?_⟩
      rw [List.getLast?_eq_getElem?] at ed
      obtain ⟨v, ev, rv⟩ := h6.get ed
      rw [← h6.length] at ev
      have s2 := s.put (o := .lst vs.dropLast) ej h1 (d := .lst ds.dropLast) ⟨_, upd_same, h6.dropLast⟩
      exact ⟨a, vs, v, rfl, rfl, h5, ev, hg b G _ σ _ v d _ _ s2 rv hq fun ρ3 σ3 q3 p3 => e.nx ρ3 σ3 G _ q3 p3.1⟩
    · exact hq.elim
  · exact hq.elim
theorem s_popT (j : Nat) {n : Str} {np ap cp : Pos} {tg : Expr} {tgt : TG} {g : WG} (hg : SG X tg tgt g) (hN : X.N[j]? = some n := by rfl) (hv : Vis X.env.scope n := by first | exact Or.inl rfl | exact Or.inr (Or.inl rfl) | exact Or.inr (Or.inr rfl)) (hd : (n == ("__debug__" : Str)) = false := by decide) (hcd : (n == ("__classdict__" : Str)) = false := by decide)
    (hbase : attributeBase (.Name n np) "pop" X.env (eval (.Name n np) X.env) = eval (.Name n np) X.env := by rfl) (hline : (ap.endLine == cp.line) = true := by rfl)
    (hs : swapsWithSole [tg] (.Call (.Attribute (.Name n np) "pop" ap) [] [] cp) pos.line X.env = pure false := by rfl) (hw : swappedStores [tg] (.Call (.Attribute (.Name n np) "pop" ap) [] [] cp) X.env = pure none := by rfl)
    (h1 : (assignEach [tg] X.env).map (·.2) = [assign tg X.env] := by rfl) :
    SS X (.Assign [tg] (.Call (.Attribute (.Name n np) "pop" ap) [] [] cp) pos) (tAsg (tBM0 X.K "list" rPop (tVar j)) tgt) (wPopT j g) :=
  ⟨ps_asg (pe_bm0 PySem.F.plainAttrs_list PySem.F.slot_list_pop PySem.F.type_list_pop mt_pop (pe_var hN hv hd hcd) hbase hline) hg.pg hs hw h1, snd_popT hg.snd⟩
/-! ### d.get(k), d.get(k, x) -/
def isDct : D → Bool
  | .dk _ => true
  | .dt _ => true
  | _ => false
theorem isD_of {G B H : Hp} {v : V} {d : D} (g : Ex G B) (g2 : Ex B H) (o : Ov K G B v d) (h : isDct d = true) : ∃ a, v = .ref a ∧ IsD H a := by
  cases d with
  | dk x => obtain ⟨p, vs, rfl, e, _⟩ := o; exact ⟨p, rfl, .inl ⟨_, rd_mono g2 e⟩⟩
  | dt x => obtain ⟨p, vs, rfl, e, _⟩ := o; exact ⟨p, rfl, .inr ⟨_, .inl (g2 _ _ e)⟩⟩
  | _ => cases h
def wGet1 (t u : WE) : WE := fun ρ Q => t ρ fun d _ ρ1 => isDct d = true ∧ u ρ1 fun k _ ρ2 => match getD2 d k with
  | some o => Q (o.getD .non) .fz ρ2
  | none => False
def wGet2 (t u x : WE) : WE := fun ρ Q => t ρ fun d _ ρ1 => isDct d = true ∧ u ρ1 fun k _ ρ2 => x ρ2 (toF fun z ρ3 => match getD2 d k with
  | some o => Q (o.getD z) .fz ρ3
  | none => False)
theorem e_get1 {k : Nat} {ap : Pos} (hr : Room k X.A) (ha : SE X a ta t) (hb : SE X b tb u) (h1 : attributeBase a "get" X.env (eval a X.env) = eval a X.env := by rfl)
    (h2 : ((backTo pos (starEach [b] X.env)).all (fun x => !x.1) && (backToKw pos (keywordEach [] X.env)).all (fun x => x.1.isSome) && decide (([b] : List Expr).length + ([] : List Keyword).length + (if ([] : List Keyword).isEmpty then 0 else 1) < 30)) = true := by rfl)
    (h3 : (ap.endLine == pos.line) = true := by rfl) (h4 : backTo pos (starEach [b] X.env) = [(false, eval b X.env)] := by rfl) : SE X (.Call (.Attribute a "get" ap) [b] [] pos) (tDGet1 ta tb) (wGet1 t u) :=
  ⟨pe_dget1 (u1 hr) ha.pe hb.pe ⟨h1, h2, h3, h4⟩, fun b G ρ σ H Q R s hq k => by
    refine ha.snd b G ρ σ H _ _ s hq fun d kd ρ1 v G1 H1 q1 x1 s1 r1 => ?_
    obtain ⟨p, rfl, isd⟩ := isD_of s1.sub hd_le (r1.ov s1) q1.1
    refine ⟨p, rfl, isd, ?_⟩
    refine hb.snd b G1 ρ1 σ H1 _ _ s1 q1.2 fun e ke ρ2 w G2 H2 q2 x2 s2 r2 => ?_
    split at q2
    · rename_i o ho
      obtain ⟨p', ov, hp, hg, hro⟩ := getD2_ok s2.sub hd_le ((r1.ov s1).mono x2.g x2.h) (r2.ov s2) ho
      cases hp
      refine ⟨ov, hg, k _ .fz _ _ _ _ q2 (x1.trans x2) s2 ?_⟩
      cases ov <;> cases o <;> first | exact hro.elim | exact hro | exact .non
    · exact q2.elim⟩
theorem e_get2 {k : Nat} {ap : Pos} {tc : TE} {x : WE} (hr : Room k X.A) (ha : SE X a ta t) (hb : SE X b tb u) (hc : SE X c tc x) (h1 : attributeBase a "get" X.env (eval a X.env) = eval a X.env := by rfl)
    (h2 : ((backTo pos (starEach [b, c] X.env)).all (fun x => !x.1) && (backToKw pos (keywordEach [] X.env)).all (fun x => x.1.isSome) && decide (([b, c] : List Expr).length + ([] : List Keyword).length + (if ([] : List Keyword).isEmpty then 0 else 1) < 30)) = true := by rfl)
    (h3 : (ap.endLine == pos.line) = true := by rfl) (h4 : backTo pos (starEach [b, c] X.env) = [(false, eval b X.env), (false, eval c X.env)] := by rfl) : SE X (.Call (.Attribute a "get" ap) [b, c] [] pos) (tDGet2 ta tb tc) (wGet2 t u x) :=
  ⟨pe_dget2 (u1 hr) ha.pe hb.pe hc.pe ⟨h1, h2, h3, h4⟩, fun b G ρ σ H Q R s hq k => by
    refine ha.snd b G ρ σ H _ _ s hq fun d kd ρ1 v G1 H1 q1 x1 s1 r1 => ?_
    obtain ⟨p, rfl, isd⟩ := isD_of s1.sub hd_le (r1.ov s1) q1.1
    refine ⟨p, rfl, isd, ?_⟩
    refine hb.snd b G1 ρ1 σ H1 _ _ s1 q1.2 fun e ke ρ2 w G2 H2 q2 x2 s2 r2 => ?_
    refine hc.snd b G2 ρ2 σ H2 _ _ s2 q2 fun z kz ρ3 y G3 H3 q3 x3 s3 r3 => ?_
    refine frozen (R := fun y H' => ∃ o, DGet H' p w o ∧ R (o.getD y) H') q3 x3 s2 s3 r3 fun z ρ4 y G4 q4 x4 s4 r4 => ?_
    split at q4
    · rename_i o ho
      obtain ⟨p', ov, hp, hg, hro⟩ := getD2_ok s4.sub hd_le ((r1.ov s1).mono (x2.trans x4).g (x2.trans x4).h) ((r2.ov s2).mono x4.g x4.h) ho
      cases hp
      refine ⟨ov, hg, k _ .fz _ _ _ _ q4 ((x1.trans x2).trans x4) s4 ?_⟩
      cases ov <;> cases o <;> first | exact hro.elim | exact hro | exact r4
    · exact q4.elim⟩
end
end VL

namespace VL
open PySem PySem.Spec PyProof.Rows L2
open Evl (Ex)
variable {K : PySem.W.Frag}
/-! ### all, any, str(int), xs[::-1] -/
def blsOf : List D → Option (List Bool)
  | [] => some []
  | .bl b :: r => (blsOf r).map fun bs => b :: bs
  | _ => none
theorem bls_v {G : Hp} : ∀ {vs : List V} {ds : List D} {bs : List Bool}, RpL K G vs ds → blsOf ds = some bs → vs = bs.map V.bl
  | _, _, _, .nil, h => by cases h; rfl
  | _, _, _, .cons (d := d) (ds := ds) a r, h => by
    cases a <;> simp only [blsOf] at h <;> first | cases h; done | skip
    cases hi : blsOf ds with
    | none => rw [hi] at h; cases h
    | some ns =>
      rw [hi] at h; cases h
      rw [bls_v r hi]; rfl
theorem blsOf_map (bs : List Bool) : blsOf (bs.map .bl) = some bs := by
  induction bs with
  | nil => rfl
  | cons x xs ih => rw [List.map_cons]; unfold blsOf; rw [ih]; rfl
def cAll : List D → Oz
  | [.lst ds] => (blsOf ds).bind fun bs => ozB (bs.all id)
  | _ => none
def cAny : List D → Oz
  | [.lst ds] => (blsOf ds).bind fun bs => ozB (bs.any id)
  | _ => none
theorem cAll_bls (bs : List Bool) : cAll [.lst (bs.map .bl)] = ozB (bs.all id) := by
  show (blsOf (bs.map .bl)).bind (fun bs => ozB (bs.all id)) = _
  rw [blsOf_map]; rfl
theorem cAny_bls (bs : List Bool) : cAny [.lst (bs.map .bl)] = ozB (bs.any id) := by
  show (blsOf (bs.map .bl)).bind (fun bs => ozB (bs.any id)) = _
  rw [blsOf_map]; rfl
theorem snd_cAll : ClS K (rAll K) cAll := fun G B H vs ds z k R g g2 o hf r => by
  unfold cAll at hf
  split at hf
  · rename_i ds
    cases o with
    | cons o1 o2 =>
      cases o2
      obtain ⟨a, us, rfl, t, l⟩ := o1
      cases hb : blsOf ds with
      | none => rw [hb] at hf; cases hf
      | some bs =>
        rw [hb] at hf
        obtain rfl := bls_v l hb
        exact ⟨a, bs, rfl, .inl (.inl (g2 _ _ t)), res_bl hf r⟩
  · cases hf
theorem snd_cAny : ClS K (rAny K) cAny := fun G B H vs ds z k R g g2 o hf r => by
  unfold cAny at hf
  split at hf
  · rename_i ds
    cases o with
    | cons o1 o2 =>
      cases o2
      obtain ⟨a, us, rfl, t, l⟩ := o1
      cases hb : blsOf ds with
      | none => rw [hb] at hf; cases hf
      | some bs =>
        rw [hb] at hf
        obtain rfl := bls_v l hb
        exact ⟨a, bs, rfl, .inl (.inl (g2 _ _ t)), res_bl hf r⟩
  · cases hf
def strI (i : Int) : Str := Str.ofString (toString i)
def cStr : List D → Oz
  | [.int i] => if i.natAbs < 1000000000000 then some (.str (strI i), .fz) else none
  | _ => none
def rStrI : List V → Hp → VK → Prop := fun xs H Q => ∃ i, xs = [.int i] ∧ i.natAbs.log2 < 1920 ∧ Q (.str (toString i)) H
theorem snd_cStr : ClS K rStrI cStr := fun G B H vs ds z k R g g2 o hf r => by
  unfold cStr at hf
  split at hf
  · rename_i i
    cases o with
    | cons o1 o2 =>
      cases o2
      obtain rfl := ov_int o1
      split at hf
      · rename_i hl
        cases hf
        refine ⟨i, rfl, ?_, r.val _ rfl (.str _)⟩
        by_cases h0 : i.natAbs = 0
        · rw [h0]; decide
        · exact (Nat.log2_lt h0).mpr (Nat.lt_trans hl (Nat.lt_of_lt_of_le (by decide : 1000000000000 < 2 ^ 40) (Nat.pow_le_pow_right (by decide) (by decide))))
      · cases hf
  · cases hf
def wRevL (t : WE) : WE := fun ρ Q => t ρ fun d _ ρ1 => match d with
  | .lst xs => Q (.lst xs.reverse) .nw ρ1
  | _ => False
theorem RpL.reverse {G : Hp} : ∀ {vs : List V} {ds : List D}, RpL K G vs ds → RpL K G vs.reverse ds.reverse
  | _, _, .nil => .nil
  | _, _, .cons a r => by
    rw [List.reverse_cons, List.reverse_cons]
    exact (RpL.reverse r).append (.cons a .nil)
section
variable {X : Cx} {e a b c : Expr} {es : List Expr} {te ta tb : TE} {t u : WE} {pos pp p2 : Pos} {xa : TA} {x : WA}
theorem c_all (hm : X.mg "all" = none) (ha : SO X (e :: es) xa x) (hg : Gl X "all" := by rfl) (he : starEach (e :: es) X.env = (false, eval e X.env) :: starEach es X.env := by rfl) (hpl : (backTo pos (starEach es X.env)).any (·.1) = false := by rfl) (hc : X.calm = true := by rfl) : SE X (.Call (.Name "all" pp) (e :: es) [] pos) (tCB (rAll X.K) xa) (wCl cAll x) :=
  e_callB (cr_all hc) snd_cAll hm (by decide +kernel) ha hg (by decide) (by decide) he hpl
theorem c_any (hm : X.mg "any" = none) (ha : SO X (e :: es) xa x) (hg : Gl X "any" := by rfl) (he : starEach (e :: es) X.env = (false, eval e X.env) :: starEach es X.env := by rfl) (hpl : (backTo pos (starEach es X.env)).any (·.1) = false := by rfl) (hc : X.calm = true := by rfl) : SE X (.Call (.Name "any" pp) (e :: es) [] pos) (tCB (rAny X.K) xa) (wCl cAny x) :=
  e_callB (cr_any hc) snd_cAny hm (by decide +kernel) ha hg (by decide) (by decide) he hpl
theorem c_str (hm : X.mg "str" = none) (ha : SO X (e :: es) xa x) (hg : Gl X "str" := by rfl) (he : starEach (e :: es) X.env = (false, eval e X.env) :: starEach es X.env := by rfl) (hpl : (backTo pos (starEach es X.env)).any (·.1) = false := by rfl) : SE X (.Call (.Name "str" pp) (e :: es) [] pos) (tCB rStrI xa) (wCl cStr x) :=
  e_callT call_str_int snd_cStr hm (by decide +kernel) ha hg (by decide) (by decide) he hpl
theorem e_gc {x : Str} {d : D} {pos : Pos} (h : GlobOk X.K X.mg x d) (hg : Gl X x := by rfl) (hd : (x == ("__debug__" : Str)) = false := by decide) : SE X (.Name x pos) (tC (Classical.choose (Classical.choose_spec h))) (wCon d) :=
  ⟨pe_glob hg (Classical.choose_spec (Classical.choose_spec h)).1 (Classical.choose_spec (Classical.choose_spec h)).2.1 hd, snd_con (Classical.choose_spec (Classical.choose_spec h)).2.2⟩
theorem e_revL {k : Nat} {p1 p2 p3 : Pos} (ha : SE X e te t) : SE X (.Subscript e (.Slice none none (some (.UnaryOp .USub (.Constant (.int 1) k p1) p2)) p3) pos) (tRevL X.K te) (wRevL t) :=
  ⟨pe_revL ha.pe, fun b G ρ σ H Q R s hq k => by
    refine ha.snd b G ρ σ H _ _ s hq fun d kd ρ1 v G1 H1 q1 x1 s1 r1 => ?_
    split at q1
    · obtain ⟨p, vs, rfl, t1, l1⟩ := r1.ov s1
      exact ⟨p, vs, rfl, .inl (.inl (hd_le _ _ t1)), fun q hp => (res_of s1 (fun d k' ρ' v G' H' q x s r => k d k' ρ' v G' H' q (x1.trans x) s (r.back x1.h)) q1).new q _ rfl hp ⟨_, upd_same, l1.reverse⟩⟩
    · exact q1.elim⟩
end
/-! ### one of some rows -/
def tPick : WS := wRet (wBin bSubs (wVar 1) (wCall spNext (xW 0 (xCons (wCl cLen (wCons (wVar 1) wNil)) xNil))))
def spPick : FS := fun as q => ∃ xs : List D, as = [.w, .d (.lst xs)] ∧ xs ≠ [] ∧ xs.length ≤ 1000 ∧ ∀ x ∈ xs, q x .fz
theorem pick_pure (as : List VL.A) (q : D → Kd → Prop) (h : spPick as q) : as.length = 2 ∧ tPick ⟨fun _ => q .non .fz, q, fun _ => False, fun _ => False⟩ (rho0 2 as) := by
  obtain ⟨xs, rfl, h1, h2, hq⟩ := h
  refine ⟨rfl, ?_⟩
  unfold tPick
  simp (maxSteps := 4000000) only [wSeq, wAsg, wgN, wVar, wCon, wBin, wUn, wCl, wCons, wNil, wConsF, wTup, wLst, wTest, wIf, wFor, wiR1, wiR2, wgName, oB, toF, toN, wRet, wRetN, wNext, wDrop, wMut, fAppend, wPar, nCons, nNil, setAll, sl, wAugI, wAug, bAddI, bSub, bAdd, wAnd, wOr, wNot, wAndV, wOrV, wNotV, wBl, wIfE, wCall, xCons, xNil, xW, Kd.ret, wiF, wiO, seqOf, wgTup, wgCons, wgNil, wAsgT, wSlice, wPSome, wPNone, dSlice, bMul, bMod, bDiv, bPow, cInt, cAbs, cLen, cTuple, cList, cmpD, ozI, ozB, uNeg, wComp, wipeR, restR, wYes, wBreak, wCont, wLstRg, wTupRg, wRg1, wRg2, wExtend, bIs, bIsNot, isNonD, List.set_cons_zero, List.set_cons_succ, List.getElem?_cons_zero, List.getElem?_cons_succ, List.getD_cons_zero, List.getD_cons_succ, List.length_cons, List.length_nil, if_true, if_false, reduceCtorEq, ite_true, ite_false, and_true, true_and, rho0, VL.A.slot, List.map_cons, List.map_nil, List.cons_append, List.nil_append, List.replicate, Nat.add_eq, Nat.reduceAdd, Nat.reduceSub, Bool.false_eq_true, decide_eq_true_eq, Nat.zero_le, Nat.zero_add, lim1, lim2, lim3, lim4, lim5, lim6, lim7, lim8, Bool.not_true, Bool.not_false, decide_true, decide_false]
  have hp : 0 < xs.length := List.length_pos_iff.mpr h1
  refine next_go (by omega) fun r r0 r1 => ?_
  obtain ⟨n, rfl⟩ : ∃ n : Nat, r = n := ⟨r.toNat, by omega⟩
  have hn : n < xs.length := by omega
  simp (maxSteps := 4000000) only [wSeq, wAsg, wgN, wVar, wCon, wBin, wUn, wCl, wCons, wNil, wConsF, wTup, wLst, wTest, wIf, wFor, wiR1, wiR2, wgName, oB, toF, toN, wRet, wRetN, wNext, wDrop, wMut, fAppend, wPar, nCons, nNil, setAll, sl, wAugI, wAug, bAddI, bSub, bAdd, wAnd, wOr, wNot, wAndV, wOrV, wNotV, wBl, wIfE, wCall, xCons, xNil, xW, Kd.ret, wiF, wiO, seqOf, wgTup, wgCons, wgNil, wAsgT, wSlice, wPSome, wPNone, dSlice, bMul, bMod, bDiv, bPow, cInt, cAbs, cLen, cTuple, cList, cmpD, ozI, ozB, uNeg, wComp, wipeR, restR, wYes, wBreak, wCont, wLstRg, wTupRg, wRg1, wRg2, wExtend, bIs, bIsNot, isNonD, List.set_cons_zero, List.set_cons_succ, List.getElem?_cons_zero, List.getElem?_cons_succ, List.getD_cons_zero, List.getD_cons_succ, List.length_cons, List.length_nil, if_true, if_false, reduceCtorEq, ite_true, ite_false, and_true, true_and, rho0, VL.A.slot, List.map_cons, List.map_nil, List.cons_append, List.nil_append, List.replicate, Nat.add_eq, Nat.reduceAdd, Nat.reduceSub, Bool.false_eq_true, decide_eq_true_eq, Nat.zero_le, Nat.zero_add, lim1, lim2, lim3, lim4, lim5, lim6, lim7, lim8, Bool.not_true, Bool.not_false, decide_true, decide_false, subs_lst (atI_nat (List.getElem?_eq_getElem hn))]
  exact hq _ (List.getElem_mem hn)
/-! ### constants of the module -/
theorem glob_int {h : Heap} {mg : Str → Option Value} (X : K.In h) (G : h.Ns mainGlobals mg) {x : Str} {i : Int} {t : Tok} (a : PySem.W.nsIn K mainGlobals x = some (some (.int i t))) : GlobOk K mg x (.int i) := ⟨.int i t, .int i, PySem.W.mg_of X G a, ⟨t, rfl⟩, fun G => .int i⟩
theorem glob_str {h : Heap} {mg : Str → Option Value} (X : K.In h) (G : h.Ns mainGlobals mg) {x : Str} {i : Str} {t : Tok} (a : PySem.W.nsIn K mainGlobals x = some (some (.str i t))) : GlobOk K mg x (.str i) := ⟨.str i t, .str i, PySem.W.mg_of X G a, ⟨t, rfl⟩, fun G => .str i⟩
theorem glob_ft {h : Heap} {mg : Str → Option Value} (X : K.In h) (G : h.Ns mainGlobals mg) {x : Str} {p : Addr} {od : Option Addr} {its : Array Value} {n : Nat} {sl : Array (Option Value)} {vs : List V} {ds : List D} (a : PySem.W.nsIn K mainGlobals x = some (some (.ref p)))
    (l : K.lookup p = some ⟨.type "tuple", od, .seq its n, sl⟩) (hz : its.size ≤ sizeLine) (hv : Vals vs its.toList) (hr : ∀ G, RpL K G vs ds) : GlobOk K mg x (.ft ds) :=
  ⟨.ref p, .ref p, PySem.W.mg_of X G a, rfl, fun G => .ft (.inr ⟨_, its, n, l, rfl, rfl, hz, hv⟩) (hr G)⟩
end VL

namespace VL
open PySem PySem.Spec PyProof.Rows L2
open Evl (Ex)
/-! ### steps that stand still where they are not known: no row is doubled -/
theorem toF_fz {Q : D → Rho → Prop} {d : D} {ρ : Rho} : toF Q d .fz ρ = Q d ρ := rfl
theorem toF_nw {Q : D → Rho → Prop} {d : D} {ρ : Rho} : toF Q d .nw ρ = Q d ρ := rfl
theorem toF_br {Q : D → Rho → Prop} {d : D} {i : Nat} {ρ : Rho} : toF Q d (.br i) ρ = Q d (ρ.set i (.fz d)) := rfl
theorem toN_fz {Q : D → Bool → Rho → Prop} {d : D} {ρ : Rho} : toN Q d .fz ρ = Q d false ρ := rfl
theorem toN_nw {Q : D → Bool → Rho → Prop} {d : D} {ρ : Rho} : toN Q d .nw ρ = Q d true ρ := rfl
theorem toN_br {Q : D → Bool → Rho → Prop} {d : D} {i : Nat} {ρ : Rho} : toN Q d (.br i) ρ = Q d false (ρ.set i (.fz d)) := rfl
theorem wgN_fz {i : Nat} {d : D} {ρ : Rho} {Q : Rho → Prop} : wgN i d .fz ρ Q = Q (ρ.set i (.fz d)) := rfl
theorem wgN_nw {i : Nat} {d : D} {ρ : Rho} {Q : Rho → Prop} : wgN i d .nw ρ Q = Q (ρ.set i (.ow d)) := rfl
theorem wgN_br {i j : Nat} {d : D} {ρ : Rho} {Q : Rho → Prop} : wgN i d (.br j) ρ Q = Q ((ρ.set j (.fz d)).set i (.fz d)) := rfl
theorem ret_fz : Kd.ret .fz = .fz := rfl
theorem ret_nw : Kd.ret .nw = .nw := rfl
theorem ret_br {i : Nat} : Kd.ret (.br i) = .nw := rfl
theorem oBs {z : D} {k : Kd} {Q : D → Kd → Prop} : oB (some (z, k)) Q = Q z k := rfl
def slotK (o : Option Slot) (i : Nat) (ρ : Rho) (Q : D → Kd → Rho → Prop) : Prop := match o with
  | some (.fz d) => Q d .fz ρ
  | some (.ow d) => Q d (.br i) ρ
  | _ => False
theorem wVar_e {i : Nat} {ρ : Rho} {Q : D → Kd → Rho → Prop} : wVar i ρ Q = slotK ρ[i]? i ρ Q := rfl
theorem slotK_fz {d : D} {i : Nat} {ρ : Rho} {Q : D → Kd → Rho → Prop} : slotK (some (.fz d)) i ρ Q = Q d .fz ρ := rfl
theorem slotK_ow {d : D} {i : Nat} {ρ : Rho} {Q : D → Kd → Rho → Prop} : slotK (some (.ow d)) i ρ Q = Q d (.br i) ρ := rfl
/-- either way, by a truth value -/
def brE (b : Bool) (t u : WE) (ρ : Rho) (Q : D → Kd → Rho → Prop) : Prop := if b = true then t ρ Q else u ρ Q
theorem brE_t {t u : WE} {ρ : Rho} {Q : D → Kd → Rho → Prop} : brE true t u ρ Q = t ρ Q := rfl
theorem brE_f {t u : WE} {ρ : Rho} {Q : D → Kd → Rho → Prop} : brE false t u ρ Q = u ρ Q := rfl
theorem wIfE_e {c : WT} {t u : WE} {ρ : Rho} {Q : D → Kd → Rho → Prop} : wIfE c t u ρ Q = c ρ fun b ρ1 => brE b t u ρ1 Q := rfl
def brS (b : Bool) (t u : WS) (P : PEnds) (ρ : Rho) : Prop := if b = true then t P ρ else u P ρ
theorem brS_t {t u : WS} {P : PEnds} {ρ : Rho} : brS true t u P ρ = t P ρ := rfl
theorem brS_f {t u : WS} {P : PEnds} {ρ : Rho} : brS false t u P ρ = u P ρ := rfl
theorem wIf_e {c : WT} {t u : WS} {P : PEnds} {ρ : Rho} : wIf c t u P ρ = c ρ fun b ρ1 => brS b t u P ρ1 := rfl
def brT (b : Bool) (t u : WT) (ρ : Rho) (Q : Bool → Rho → Prop) : Prop := if b = true then t ρ Q else u ρ Q
theorem brT_t {t u : WT} {ρ : Rho} {Q : Bool → Rho → Prop} : brT true t u ρ Q = t ρ Q := rfl
theorem brT_f {t u : WT} {ρ : Rho} {Q : Bool → Rho → Prop} : brT false t u ρ Q = u ρ Q := rfl
def wK (b : Bool) : WT := fun ρ Q => Q b ρ
theorem wK_e {b : Bool} {ρ : Rho} {Q : Bool → Rho → Prop} : wK b ρ Q = Q b ρ := rfl
theorem wAnd_e {t u : WT} {ρ : Rho} {Q : Bool → Rho → Prop} : wAnd t u ρ Q = t ρ fun c ρ1 => brT c u (wK false) ρ1 Q := by
  unfold wAnd brT wK; rfl
theorem wOr_e {t u : WT} {ρ : Rho} {Q : Bool → Rho → Prop} : wOr t u ρ Q = t ρ fun c ρ1 => brT c (wK true) u ρ1 Q := by
  unfold wOr brT wK; rfl
theorem wAndV_e {t u : WE} {ρ : Rho} {Q : D → Kd → Rho → Prop} : wAndV t u ρ Q = wTest t ρ fun c ρ1 => brE c u (wCon (.bl false)) ρ1 Q := rfl
theorem wOrV_e {t u : WE} {ρ : Rho} {Q : D → Kd → Rho → Prop} : wOrV t u ρ Q = wTest t ρ fun c ρ1 => brE c (wCon (.bl true)) u ρ1 Q := rfl
theorem wNotV_e {t : WE} {ρ : Rho} {Q : D → Kd → Rho → Prop} : wNotV t ρ Q = wTest t ρ fun c ρ1 => Q (.bl (!c)) .fz ρ1 := rfl
def blK (d : D) (ρ : Rho) (Q : Bool → Rho → Prop) : Prop := match d with
  | .bl c => Q c ρ
  | _ => False
theorem blK_e {c : Bool} {ρ : Rho} {Q : Bool → Rho → Prop} : blK (.bl c) ρ Q = Q c ρ := rfl
theorem wTest_e {t : WE} {ρ : Rho} {Q : Bool → Rho → Prop} : wTest t ρ Q = t ρ fun d _ ρ1 => blK d ρ1 Q := rfl
/-- a chain of two tests -/
def chK (o : Oz) (tc : WE) (g : D → Oz) (ρ : Rho) (Q : D → Kd → Rho → Prop) : Prop := match o with
  | some (.bl true, .fz) => tc ρ fun h _ ρ3 => oB (g h) fun z k => Q z k ρ3
  | some (.bl false, .fz) => Q (.bl false) .fz ρ
  | _ => False
theorem wChain_e {f g : D → D → Oz} {ta tb tc : WE} {ρ : Rho} {Q : D → Kd → Rho → Prop} : wChain f g ta tb tc ρ Q = ta ρ fun d _ ρ1 => tb ρ1 fun e _ ρ2 => chK (f d e) tc (g e) ρ2 Q := rfl
theorem chK_t {tc : WE} {g : D → Oz} {ρ : Rho} {Q : D → Kd → Rho → Prop} : chK (some (.bl true, .fz)) tc g ρ Q = tc ρ fun h _ ρ3 => oB (g h) fun z k => Q z k ρ3 := rfl
theorem chK_f {tc : WE} {g : D → Oz} {ρ : Rho} {Q : D → Kd → Rho → Prop} : chK (some (.bl false, .fz)) tc g ρ Q = Q (.bl false) .fz ρ := rfl
def sqK (o : Option (List D)) (ρ : Rho) (Q : List D → Rho → Prop) : Prop := match o with
  | some xs => Q xs ρ
  | none => False
theorem sqK_e {xs : List D} {ρ : Rho} {Q : List D → Rho → Prop} : sqK (some xs) ρ Q = Q xs ρ := rfl
theorem wiF_e {w : WE} {ρ : Rho} {Q : List D → Rho → Prop} : wiF w ρ Q = w ρ (toF fun d ρ1 => sqK (seqOf d) ρ1 Q) := rfl
theorem wiO_e {w : WE} {ρ : Rho} {Q : List D → Rho → Prop} : wiO w ρ Q = w ρ fun d _ ρ1 => sqK (seqOf d) ρ1 Q := rfl
theorem seq_lst {xs : List D} : seqOf (.lst xs) = some xs := rfl
theorem seq_tup {xs : List D} : seqOf (.tup xs) = some xs := rfl
theorem seq_fl {xs : List D} : seqOf (.fl xs) = some xs := rfl
theorem seq_ft {xs : List D} : seqOf (.ft xs) = some xs := rfl
theorem bAdd_i {i j : Int} : bAdd (.int i) (.int j) = some (.int (i + j), .fz) := rfl
theorem bAdd_t {xs ys : List D} : bAdd (.tup xs) (.tup ys) = if xs.length + ys.length ≤ LIM then some (.tup (xs ++ ys), .fz) else none := rfl
theorem bAdd_l {xs ys : List D} : bAdd (.lst xs) (.lst ys) = if xs.length + ys.length ≤ LIM then some (.lst (xs ++ ys), .nw) else none := rfl
theorem bSub_i {i j : Int} : bSub (.int i) (.int j) = some (.int (i - j), .fz) := rfl
theorem bMul_i {i j : Int} : bMul (.int i) (.int j) = if i.natAbs < 1000000000 ∨ j.natAbs < 1000000000 then some (.int (i * j), .fz) else none := rfl
theorem bMul_l {xs : List D} {k : Int} : bMul (.lst xs) (.int k) = if -1000 ≤ k ∧ k ≤ 1000 ∧ xs.length * k.toNat ≤ LIM then some (.lst (List.replicate k.toNat xs).flatten, .nw) else none := rfl
theorem bDiv_p {i j : Int} (h : 0 < j ∧ j.natAbs < 1073741824) : bDiv (.int i) (.int j) = some (.int (i / j), .fz) := by
  show (if j ≠ 0 ∧ j.natAbs < 1073741824 then ozI (i.fdiv j) else none) = _
  rw [if_pos ⟨by omega, h.2⟩, fdiv_nn' (by omega)]; rfl
theorem bMod_p {i j : Int} (h : 0 < j) : bMod (.int i) (.int j) = some (.int (i % j), .fz) := by
  show (if j ≠ 0 then ozI (i.fmod j) else none) = _
  rw [if_pos (by omega), fmod_nn (by omega)]; rfl
theorem uNeg_i {i : Int} : uNeg (.int i) = some (.int (-i), .fz) := rfl
theorem bEq_i {i j : Int} : bEq (.int i) (.int j) = some (.bl (decide (i = j)), .fz) := bEq_ints i j
theorem bNe_i {i j : Int} : bNe (.int i) (.int j) = some (.bl (!decide (i = j)), .fz) := bNe_ints i j
theorem bNe_b {i j : Bool} : bNe (.bl i) (.bl j) = some (.bl (i != j), .fz) := bNe_bl i j
theorem cmp_i {f : Int → Int → Bool} {g : D → D → Bool} {i j : Int} : cmpD f g (.int i) (.int j) = some (.bl (f i j), .fz) := rfl
theorem bIs_e {d : D} : bIs d .non = some (.bl (isNonD d), .fz) := rfl
theorem bIsNot_e {d : D} : bIsNot d .non = some (.bl (!isNonD d), .fz) := rfl
theorem non_non : isNonD .non = true := rfl
theorem non_int {i : Int} : isNonD (.int i) = false := rfl
theorem non_tup {xs : List D} : isNonD (.tup xs) = false := rfl
theorem non_str {x : Str} : isNonD (.str x) = false := rfl
theorem non_bl {x : Bool} : isNonD (.bl x) = false := rfl
theorem cLen_l {xs : List D} : cLen [.lst xs] = some (.int xs.length, .fz) := rfl
theorem cLen_t {xs : List D} : cLen [.tup xs] = some (.int xs.length, .fz) := rfl
theorem cLen_f {xs : List D} : cLen [.ft xs] = some (.int xs.length, .fz) := rfl
theorem cLen_fl {xs : List D} : cLen [.fl xs] = some (.int xs.length, .fz) := rfl
theorem cTup_l {xs : List D} : cTuple [.lst xs] = some (.tup xs, .fz) := rfl
theorem cTup_t {xs : List D} : cTuple [.tup xs] = some (.tup xs, .fz) := rfl
theorem cLst_l {xs : List D} : cList [.lst xs] = some (.lst xs, .nw) := rfl
theorem cLst_t {xs : List D} : cList [.tup xs] = some (.lst xs, .nw) := rfl
theorem cInt_i {i : Int} : cInt [.int i] = some (.int i, .fz) := rfl
theorem cInt_b {b : Bool} : cInt [.bl b] = some (.int (if b then 1 else 0), .fz) := rfl
theorem cMax2 {i j : Int} : cMax [.int i, .int j] = some (.int (max i j), .fz) := by
  show some (D.int (if j > i then j else i), Kd.fz) = _
  congr 3
  split <;> omega
theorem cMin2 {i j : Int} : cMin [.int i, .int j] = some (.int (min i j), .fz) := by
  show some (D.int (if j < i then j else i), Kd.fz) = _
  congr 3
  split <;> omega
theorem cStr_i {i : Int} (h : i.natAbs < 1000000000000) : cStr [.int i] = some (.str (strI i), .fz) := if_pos h
theorem dSl_l {xs : List D} {lo hi : Option Int} : dSlice (.lst xs) lo hi = some (.lst (cutD xs lo hi), .nw) := rfl
theorem dSl_t {xs : List D} {lo hi : Option Int} : dSlice (.tup xs) lo hi = some (.tup (cutD xs lo hi), .fz) := rfl
def i1K (ds : List D) (Q : Int → Prop) : Prop := match ds with
  | [.int j] => Q j
  | _ => False
def i2K (ds : List D) (Q : Int → Int → Prop) : Prop := match ds with
  | [.int i, .int j] => Q i j
  | _ => False
theorem i1K_e {j : Int} {Q : Int → Prop} : i1K [.int j] Q = Q j := rfl
theorem i2K_e {i j : Int} {Q : Int → Int → Prop} : i2K [.int i, .int j] Q = Q i j := rfl
theorem wiR1_e {t : WA} {ρ : Rho} {Q : List D → Rho → Prop} : wiR1 t ρ Q = t ρ fun ds ρ1 => i1K ds fun j => i62 j ∧ Q (rng 0 j.toNat) ρ1 := rfl
theorem wiR2_e {t : WA} {ρ : Rho} {Q : List D → Rho → Prop} : wiR2 t ρ Q = t ρ fun ds ρ1 => i2K ds fun i j => i62 i ∧ i62 j ∧ Q (rng i (j - i).toNat) ρ1 := rfl
end VL

namespace VL
open PySem PySem.Spec PyProof.Rows L2
open Evl (Ex)
variable {K : PySem.W.Frag}
/-! ### dict(xs), of a list of pairs -/
def prsOf : List D → Option (List (Key × D))
  | [] => some []
  | .tup [k, v] :: r => match keyOf k, prsOf r with
    | some key, some l => some ((key, v) :: l)
    | _, _ => none
  | _ => none
theorem prs_v {G H : Hp} (e : Ex G H) : ∀ {ds : List D} {vs : List V} {es : List (Key × D)}, RpL K G vs ds → prsOf ds = some es → ∃ (ps : List Addr) (kvs : List (Key × V)), vs = ps.map V.ref ∧ Paired (fun p kv => SqT K H p [kV kv.1, kv.2]) ps kvs ∧ RpK K G kvs es
  | [], _, _, .nil, h => by cases h; exact ⟨[], [], rfl, .nil, .nil⟩
  | d :: ds, _, es, .cons a r, h => by
    unfold prsOf at h
    split at h
    · rename_i heq; cases heq
    · rename_i k v r' heq
      obtain ⟨rfl, rfl⟩ := List.cons.inj heq
      split at h
      · rename_i key l hk hl
        cases h
        obtain ⟨ps, kvs, rfl, h2, h3⟩ := prs_v e r hl
        cases a with
        | tup t rr =>
          cases rr with
          | cons a1 r1 => cases r1 with
            | cons a2 r2 =>
              cases r2
              obtain rfl := key_v a1 hk
              exact ⟨_ :: ps, (key, _) :: kvs, rfl, .cons (.inl (.inl (e _ _ t))) h2, .cons a2 h3⟩
      · cases h
    · cases h
def cDict : List D → Oz
  | [.lst ds] => (prsOf ds).map fun es => (.dk (mergeD [] es), .nw)
  | _ => none
def rDictP (K : PySem.W.Frag) : List V → Hp → VK → Prop := fun xs H Q => ∃ (a : Addr) (ps : List Addr) (kvs : List (Key × V)), xs = [.ref a] ∧ SqL K H a (ps.map V.ref) ∧ Paired (fun p kv => SqT K H p [kV kv.1, kv.2]) ps kvs ∧ ∀ p, H p = none → Q (.ref p) (upd H p (.dK (mergeK [] kvs)))
theorem snd_cDict : ClS K (rDictP K) cDict := fun G B H vs ds z k R g g2 o hf r => by
  unfold cDict at hf
  split at hf
  · rename_i ds
    cases o with
    | cons o1 o2 =>
      cases o2
      obtain ⟨a, us, rfl, t, l⟩ := o1
      cases hb : prsOf ds with
      | none => rw [hb] at hf; cases hf
      | some es =>
        rw [hb] at hf; cases hf
        obtain ⟨ps, kvs, rfl, h2, h3⟩ := prs_v (g.trans g2) l hb
        exact ⟨a, ps, kvs, rfl, .inl (.inl (g2 _ _ t)), h2, fun p hp => r.new p _ rfl hp ⟨_, upd_same, RpK.merge h3 .nil⟩⟩
  · cases hf
theorem c_dict {X : Cx} {e : Expr} {es : List Expr} {pos pp : Pos} {xa : TA} {x : WA} (hm : X.mg "dict" = none) (ha : SO X (e :: es) xa x) (hg : Gl X "dict" := by rfl) (he : starEach (e :: es) X.env = (false, eval e X.env) :: starEach es X.env := by rfl) (hpl : (backTo pos (starEach es X.env)).any (·.1) = false := by rfl) (hc : X.calm = true := by rfl) : SE X (.Call (.Name "dict" pp) (e :: es) [] pos) (tCB (rDictP X.K) xa) (wCl cDict x) :=
  e_callT (call_dictP hc) snd_cDict hm (by decide +kernel) ha hg (by decide) (by decide) he hpl
/-! ### texts -/
theorem bEq_str {x y : Str} {b : Bool} (hx : x.cps.all (· < 0x110000) = true) (hy : y.cps.all (· < 0x110000) = true) (h : (x == y) = b) : bEq (.str x) (.str y) = ozB b := by
  unfold bEq
  rw [if_pos ⟨by simpa [okE] using hx, by simpa [okE] using hy⟩, eqv, h]
theorem bNe_str {x y : Str} {b : Bool} (hx : x.cps.all (· < 0x110000) = true) (hy : y.cps.all (· < 0x110000) = true) (h : (x == y) = b) : bNe (.str x) (.str y) = ozB (!b) := by
  unfold bNe
  rw [if_pos ⟨by simpa [okE] using hx, by simpa [okE] using hy⟩, eqv, h]
end VL

namespace VL
open PySem PySem.Spec PyProof.Rows L2
open Evl (Ex)
variable {K : PySem.W.Frag}
/-! ### a dict that is walked stands under a lock -/
structure Gm (G G' : Hp) : Prop where
  eq : ∀ a, (∀ k, ¬ Rd G a (.dK k)) → G' a = G a
  dk : ∀ a k, Rd G a (.dK k) → Rd G' a (.dK k)
theorem no_rd {G : Hp} {a : Addr} {u : HO} (h : G a = some u) (h1 : ∀ k, u ≠ .dK k) (h2 : ∀ o k, u ≠ .frz o (.dK k)) : ∀ k, ¬ Rd G a (.dK k) := fun k r => by
  rcases r with r | ⟨o, r⟩
  · rw [h] at r; exact h1 k (Option.some.inj r)
  · rw [h] at r; exact h2 o k (Option.some.inj r)
section
variable {G G' H H' : Hp} {a : Addr}
theorem Gm.put (m : Gm G G') {u : HO} (h : G a = some u) (h1 : ∀ k, u ≠ .dK k) (h2 : ∀ o k, u ≠ .frz o (.dK k)) : G' a = some u := by rw [m.eq a (no_rd h h1 h2)]; exact h
theorem Gm.l (m : Gm G G') {vs : List V} (h : SqL K G a vs) : SqL K G' a vs := by
  rcases h with (h | ⟨o, h⟩) | h
  · exact .inl (.inl (m.put h (by intro _ z; cases z) (by intro _ _ z; cases z)))
  · exact .inl (.inr ⟨o, m.put h (by intro _ z; cases z) (by intro _ _ z; cases z)⟩)
  · exact .inr h
theorem Gm.t (m : Gm G G') {vs : List V} (h : SqT K G a vs) : SqT K G' a vs := by
  rcases h with (h | ⟨o, h⟩) | h
  · exact .inl (.inl (m.put h (by intro _ z; cases z) (by intro _ _ z; cases z)))
  · exact .inl (.inr ⟨o, m.put h (by intro _ z; cases z) (by intro _ _ z; cases z)⟩)
  · exact .inr h
end
mutual
theorem Rp.gm {G G' : Hp} (m : Gm G G') : ∀ {v : V} {d : D}, Rp K G v d → Rp K G' v d
  | _, _, .non => .non
  | _, _, .bl b => .bl b
  | _, _, .int i => .int i
  | _, _, .str x => .str x
  | _, _, .lst h r => .lst (m.put h (by intro _ z; cases z) (by intro _ _ z; cases z)) (RpL.gm m r)
  | _, _, .fl h r => .fl (m.l h) (RpL.gm m r)
  | _, _, .tup h r => .tup (m.put h (by intro _ z; cases z) (by intro _ _ z; cases z)) (RpL.gm m r)
  | _, _, .ft h r => .ft (m.t h) (RpL.gm m r)
  | _, _, .dk h r => .dk (m.dk _ _ h) (RpK.gm m r)
  | _, _, .dt h r => .dt (m.put h (by intro _ z; cases z) (by intro _ _ z; cases z)) (RpT.gm m r)
theorem RpL.gm {G G' : Hp} (m : Gm G G') : ∀ {v : List V} {d : List D}, RpL K G v d → RpL K G' v d
  | _, _, .nil => .nil
  | _, _, .cons h r => .cons (Rp.gm m h) (RpL.gm m r)
theorem RpK.gm {G G' : Hp} (m : Gm G G') : ∀ {v : List (Key × V)} {d : List (Key × D)}, RpK K G v d → RpK K G' v d
  | _, _, .nil => .nil
  | _, _, .cons h r => .cons (Rp.gm m h) (RpK.gm m r)
theorem RpT.gm {G G' : Hp} (m : Gm G G') : ∀ {v : List (List Key × V)} {d : List (List Key × D)}, RpT K G v d → RpT K G' v d
  | _, _, .nil => .nil
  | _, _, .cons h r => .cons (Rp.gm m h) (RpT.gm m r)
end
theorem Ob.gm {G G' H H' : Hp} {a : Addr} {d : D} (h : Ob K G H a d) (m : Gm G G') (e : H' a = H a) : Ob K G' H' a d := by
  cases d with
  | lst ds => obtain ⟨vs, e1, r⟩ := h; exact ⟨_, e.trans e1, r.gm m⟩
  | dk es => obtain ⟨vs, e1, r⟩ := h; exact ⟨_, e.trans e1, r.gm m⟩
  | dt es => obtain ⟨vs, e1, r⟩ := h; exact ⟨_, e.trans e1, r.gm m⟩
  | _ => exact h.elim
theorem WOk.gm {G G' H H' : Hp} {a : Addr} (h : WOk K G H a) (m : Gm G G') (k : H' a = H a) : WOk K G' H' a := by
  obtain ⟨ad, t, ns, h1, h2, h3, h4⟩ := h
  exact ⟨ad, t, ns, by rw [k]; exact h1, h2, m.l h3, h4⟩
theorem gm_lock {G : Hp} {d : Addr} {o : Obj} {kvs : List (Key × V)} (h : G d = some (.dK kvs)) : Gm G (upd G d (.frz o (.dK kvs))) where
  eq := fun a hn => upd_ne fun z => by subst z; exact hn kvs (.inl h)
  dk := fun a k r => by
    by_cases e : a = d
    · subst e
      rcases r with r | ⟨o', r⟩
      · rw [h] at r; cases r; exact .inr ⟨o, upd_same⟩
      · rw [h] at r; cases r
    · rcases r with r | ⟨o', r⟩
      · exact .inl (by rw [upd_ne e]; exact r)
      · exact .inr ⟨o', by rw [upd_ne e]; exact r⟩
theorem gm_unlock {G : Hp} {d : Addr} {o : Obj} {kvs : List (Key × V)} (h : G d = some (.frz o (.dK kvs))) : Gm G (upd G d (.dK kvs)) where
  eq := fun a hn => upd_ne fun z => by subst z; exact hn kvs (.inr ⟨o, h⟩)
  dk := fun a k r => by
    by_cases e : a = d
    · subst e
      rcases r with r | ⟨o', r⟩
      · rw [h] at r; cases r
      · rw [h] at r; cases r; exact .inl upd_same
    · rcases r with r | ⟨o', r⟩
      · exact .inl (by rw [upd_ne e]; exact r)
      · exact .inr ⟨o', by rw [upd_ne e]; exact r⟩
def lkB (b : Bs) (d : Addr) (o : Obj) (kvs : List (Key × V)) : Bs := ⟨b.aw, upd b.G0 d (.frz o (.dK kvs)), upd b.B0 d (.frz o (.dK kvs))⟩
section
variable {b : Bs} {G H G' H' : Hp} {ρ ρ' : Rho} {σ σ' : L2.St} {d : Addr} {kvs : List (Key × V)} {o : Obj}
theorem Sim.lock (s : Sim K b G ρ σ H) (h : G d = some (.dK kvs)) (o : Obj) : Sim K (lkB b d o kvs) (upd G d (.frz o (.dK kvs))) ρ σ (upd H d (.frz o (.dK kvs))) := by
  have hw : b.aw ≠ some d := (hd_some (s.sub d _ h)).1
  refine ⟨s.len, fun a u e => ?_, fun a u e => ?_, fun a u e => ?_, fun a u e1 e2 => ?_, fun i x e => ?_, fun i x e => ?_, s.dj, s.ws, fun a e => ?_⟩
  · show hd b.aw _ a = _
    rw [hd_upd hw]
    by_cases z : a = d
    · subst z; rw [upd_same] at e; rw [upd_same]; exact e
    · rw [upd_ne z] at e; rw [upd_ne z]; exact s.sub a u e
  · by_cases z : a = d
    · subst z; rw [show (lkB b a o kvs).G0 = upd b.G0 a (.frz o (.dK kvs)) from rfl, upd_same] at e; rw [upd_same]; exact e
    · rw [show (lkB b d o kvs).G0 = upd b.G0 d (.frz o (.dK kvs)) from rfl, upd_ne z] at e; rw [upd_ne z]; exact s.g0 a u e
  · show hd b.aw _ a = _
    rw [hd_upd hw]
    by_cases z : a = d
    · subst z; rw [show (lkB b a o kvs).B0 = upd b.B0 a (.frz o (.dK kvs)) from rfl, upd_same] at e; rw [upd_same]; exact e
    · rw [show (lkB b d o kvs).B0 = upd b.B0 d (.frz o (.dK kvs)) from rfl, upd_ne z] at e; rw [upd_ne z]; exact s.b0 a u e
  · have z : a ≠ d := fun z => by subst z; rw [show (lkB b a o kvs).G0 = upd b.G0 a (.frz o (.dK kvs)) from rfl, upd_same] at e2; cases e2
    rw [show (lkB b d o kvs).B0 = upd b.B0 d (.frz o (.dK kvs)) from rfl, upd_ne z] at e1
    rw [show (lkB b d o kvs).G0 = upd b.G0 d (.frz o (.dK kvs)) from rfl, upd_ne z] at e2
    rw [upd_ne z]; exact s.new a u e1 e2
  · obtain ⟨v, h1, h2⟩ := s.fz i x e
    exact ⟨v, h1, h2.gm (gm_lock h)⟩
  · obtain ⟨a, h1, h2, h3, h4, h5⟩ := s.ow i x e
    have z : a ≠ d := fun z => by subst z; rw [h] at h4; cases h4
    refine ⟨a, h1, h2, ?_, by rw [upd_ne z]; exact h4, h5.gm (gm_lock h) (upd_ne z)⟩
    show upd b.B0 d _ a = none
    rw [upd_ne z]; exact h3
  · have z : a ≠ d := fun z => by subst z; exact hw e
    exact (s.wk a e).gm (gm_lock h) (upd_ne z)
theorem Sim.unlock (s : Sim K b G ρ σ H) (h : G d = some (.dK kvs)) (z : Sim K (lkB b d o kvs) G' ρ' σ' H') : G' d = some (.frz o (.dK kvs)) ∧ H' d = some (.frz o (.dK kvs)) ∧ Sim K b (upd G' d (.dK kvs)) ρ' σ' (upd H' d (.dK kvs)) := by
  have hw : b.aw ≠ some d := (hd_some (s.sub d _ h)).1
  have hg : G' d = some (.frz o (.dK kvs)) := z.g0 d _ (show upd b.G0 d _ d = _ from upd_same)
  have hh : H' d = some (.frz o (.dK kvs)) := (hd_some (z.sub d _ hg)).2
  refine ⟨hg, hh, z.len, fun a u e => ?_, fun a u e => ?_, fun a u e => ?_, fun a u e1 e2 => ?_, fun i x e => ?_, fun i x e => ?_, z.dj, z.ws, fun a e => ?_⟩
  · rw [hd_upd hw]
    by_cases y : a = d
    · subst y; rw [upd_same] at e; rw [upd_same]; exact e
    · rw [upd_ne y] at e; rw [upd_ne y]; exact z.sub a u e
  · by_cases y : a = d
    · subst y
      have := s.g0 a u e
      rw [h] at this; rw [upd_same]; exact this
    · rw [upd_ne y]; exact z.g0 a u (by show upd b.G0 d _ a = _; rw [upd_ne y]; exact e)
  · rw [hd_upd hw]
    by_cases y : a = d
    · subst y
      have h1 := s.b0 a u e
      have h2 := s.sub a _ h
      rw [h1] at h2; rw [upd_same]; exact h2.symm
    · rw [upd_ne y]; exact z.b0 a u (by show upd b.B0 d _ a = _; rw [upd_ne y]; exact e)
  · have y : a ≠ d := fun y => by
      subst y
      have := s.new a u e1 e2
      rw [h] at this; cases this
    rw [upd_ne y]
    exact z.new a u (by show upd b.B0 d _ a = _; rw [upd_ne y]; exact e1) (by show upd b.G0 d _ a = _; rw [upd_ne y]; exact e2)
  · obtain ⟨v, h1, h2⟩ := z.fz i x e
    exact ⟨v, h1, h2.gm (gm_unlock hg)⟩
  · obtain ⟨a, h1, h2, h3, h4, h5⟩ := z.ow i x e
    have y : a ≠ d := fun y => by subst y; rw [hg] at h4; cases h4
    refine ⟨a, h1, h2, ?_, by rw [upd_ne y]; exact h4, h5.gm (gm_unlock hg) (upd_ne y)⟩
    have h3' : upd b.B0 d (.frz o (.dK kvs)) a = none := h3
    rw [upd_ne y] at h3'; exact h3'
  · have y : a ≠ d := fun y => by subst y; exact hw e
    exact (z.wk a e).gm (gm_unlock hg) (upd_ne y)
theorem bn_ne {a : Addr} (h : (lkB b d o kvs).B0 a = none) : a ≠ d ∧ b.B0 a = none := by
  have h' : upd b.B0 d (.frz o (.dK kvs)) a = none := h
  have y : a ≠ d := fun y => by subst y; rw [upd_same] at h'; cases h'
  rw [upd_ne y] at h'; exact ⟨y, h'⟩
theorem Rr.unlock {k : Kd} {v : V} {x : D} (hg : G' d = some (.frz o (.dK kvs))) (r : Rr K (lkB b d o kvs) G' H' k v x) : Rr K b (upd G' d (.dK kvs)) (upd H' d (.dK kvs)) k v x := by
  cases k with
  | fz => exact Rp.gm (gm_unlock hg) r
  | nw =>
    obtain ⟨a, h1, h2, h3, h4, h5⟩ := r
    obtain ⟨y, h2'⟩ := bn_ne h2
    exact ⟨a, h1, h2', h3, by rw [upd_ne y]; exact h4, h5.gm (gm_unlock hg) (upd_ne y)⟩
  | br i => exact r
theorem EOk.lock {P : PEnds} {E : Ends} (e : EOk K b P E) (s : Sim K b G ρ σ H) (h : G d = some (.dK kvs)) (o : Obj) : EOk K (lkB b d o kvs) P
    ⟨fun σ' H' => H' d = some (.frz o (.dK kvs)) ∧ E.nx σ' (upd H' d (.dK kvs)), fun v H' => H' d = some (.frz o (.dK kvs)) ∧ E.rt v (upd H' d (.dK kvs)), fun σ' H' => H' d = some (.frz o (.dK kvs)) ∧ E.bk σ' (upd H' d (.dK kvs)), fun σ' H' => H' d = some (.frz o (.dK kvs)) ∧ E.ct σ' (upd H' d (.dK kvs))⟩ where
  nx := fun ρ σ G H q z => let u := s.unlock h z; ⟨u.2.1, e.nx _ _ _ _ q u.2.2⟩
  rt := fun d k v ρ σ G H q z r => let u := s.unlock h z; ⟨u.2.1, e.rt _ _ _ _ _ _ _ q u.2.2 (r.unlock u.1)⟩
  bk := fun ρ σ G H q z => let u := s.unlock h z; ⟨u.2.1, e.bk _ _ _ _ q u.2.2⟩
  ct := fun ρ σ G H q z => let u := s.unlock h z; ⟨u.2.1, e.ct _ _ _ _ q u.2.2⟩
theorem Xt.unlock (s : Sim K b G ρ σ H) (h : G d = some (.dK kvs)) (x : Xt (lkB b d o kvs) ρ σ (upd G d (.frz o (.dK kvs))) (upd H d (.frz o (.dK kvs))) ρ' G' H') : Xt b ρ σ G H ρ' (upd G' d (.dK kvs)) (upd H' d (.dK kvs)) := by
  have hw : b.aw ≠ some d := (hd_some (s.sub d _ h)).1
  have hs : hd b.aw H d = some (.dK kvs) := s.sub d _ h
  refine ⟨fun a u e => ?_, fun a u e => ?_, fun a u e n no => ?_, x.own⟩
  · by_cases y : a = d
    · subst y; rw [h] at e; rw [upd_same]; exact e
    · rw [upd_ne y]; exact x.g a u (by rw [upd_ne y]; exact e)
  · rw [hd_upd hw]
    by_cases y : a = d
    · subst y; rw [hs] at e; rw [upd_same]; exact e
    · rw [upd_ne y]
      refine x.h a u ?_
      show hd b.aw _ a = _
      rw [hd_upd hw, upd_ne y]; exact e
  · have y : a ≠ d := fun y => by subst y; rw [h] at n; cases n
    rw [upd_ne y]
    refine x.new a u ?_ (by rw [upd_ne y]; exact n) no
    show hd b.aw _ a = _
    rw [hd_upd hw, upd_ne y]; exact e
theorem Rv.unlock {k : Kd} {v : V} {x : D} (s : Sim K b G ρ σ H) (h : G d = some (.dK kvs)) (hg : G' d = some (.frz o (.dK kvs))) (r : Rv K (lkB b d o kvs) (upd H d (.frz o (.dK kvs))) G' H' ρ' σ k v x) : Rv K b H (upd G' d (.dK kvs)) (upd H' d (.dK kvs)) ρ' σ k v x := by
  have hw : b.aw ≠ some d := (hd_some (s.sub d _ h)).1
  cases k with
  | fz => exact Rp.gm (gm_unlock hg) r
  | nw =>
    obtain ⟨a, h1, h2, h3, h4, h5⟩ := r
    have h2' : hd b.aw (upd H d (.frz o (.dK kvs))) a = none := h2
    rw [hd_upd hw] at h2'
    have y : a ≠ d := fun y => by subst y; rw [upd_same] at h2'; cases h2'
    rw [upd_ne y] at h2'
    exact ⟨a, h1, h2', h3, by rw [upd_ne y]; exact h4, h5.gm (gm_unlock hg) (upd_ne y)⟩
  | br i => exact r
end
/-! ### the keys -/
def kD : Key → D
  | .inl i => .int i
  | .inr s => .str s
def keysD (es : List (Key × D)) : List D := es.map fun e => kD e.1
theorem kD_rp {G : Hp} : ∀ k : Key, Rp K G (kV k) (kD k)
  | .inl i => .int i
  | .inr s => .str s
theorem keys_at {G : Hp} : ∀ {kvs : List (Key × V)} {es : List (Key × D)} {i : Nat} {d : D}, RpK K G kvs es → (keysD es)[i]? = some d → ∃ k v, kvs[i]? = some (k, v) ∧ d = kD k
  | _, _, _, _, .nil, h => by simp [keysD] at h
  | _, _, 0, _, .cons a r, h => by simp [keysD] at h; subst h; exact ⟨_, _, rfl, rfl⟩
  | _, _, i + 1, _, .cons a r, h => by
    obtain ⟨k, v, h1, h2⟩ := keys_at (i := i) r (by simpa [keysD] using h)
    exact ⟨k, v, by simpa using h1, h2⟩
theorem keys_walk {G B : Hp} {a : Addr} {o : Obj} {kvs : List (Key × V)} {es : List (Key × D)} (h : B a = some (.frz o (.dK kvs))) (r : RpK K G kvs es) : Walks K (Itk a o kvs) (keysD es) G B := fun G2 H2 i e1 e2 e3 => by
  have hl : kvs.length = es.length := RpK.length r
  refine ⟨fun d hd => ?_, fun hi => ⟨e2 _ _ h, by simpa [keysD, hl] using hi⟩⟩
  obtain ⟨k, v, h1, rfl⟩ := keys_at r hd
  refine ⟨⟨e2 _ _ h, (List.getElem?_eq_some_iff.mp h1).1⟩, fun x H3 y => ?_⟩
  obtain ⟨rfl, k', v', h2, rfl⟩ := y
  rw [h1] at h2; cases h2
  exact .inl ⟨rfl, kD_rp k⟩
def wiK (i : Nat) : WI := fun ρ Q => wVar i ρ (toF fun d ρ1 => match d with
  | .dk es => Q (keysD es) ρ1
  | _ => False)
theorem key_var {b : Bs} {G H : Hp} {ρ : Rho} {σ : L2.St} {i : Nat} {Q : List D → Rho → Prop} (s : Sim K b G ρ σ H) (hq : wiK i ρ Q) : ∃ a kvs es ρ2 G2, σ[i]? = some (some (.ref a)) ∧ Sim K b G2 ρ2 σ H ∧ Xt b ρ σ G H ρ2 G2 H ∧ Rd G2 a (.dK kvs) ∧ RpK K G2 kvs es ∧ Q (keysD es) ρ2 := by
  have key : tVar i σ H (fun v H' => ∃ ρ2 G2 es, Sim K b G2 ρ2 σ H' ∧ Xt b ρ σ G H ρ2 G2 H' ∧ Rp K G2 v (.dk es) ∧ Q (keysD es) ρ2) := by
    refine snd_var i b G ρ σ H _ _ s hq fun d k ρ' v G' H' q x s' r => ?_
    refine frozen1 (R := fun v H' => ∃ ρ2 G2 es, Sim K b G2 ρ2 σ H' ∧ Xt b ρ σ G H ρ2 G2 H' ∧ Rp K G2 v (.dk es) ∧ Q (keysD es) ρ2) q x s s' r fun ρ2 G2 q2 x2 s2 r2 => ?_
    split at q2
    · exact ⟨ρ2, G2, _, s2, x2, r2, q2⟩
    · exact q2.elim
  obtain ⟨v, hv, ρ2, G2, es, s2, x2, r2, q2⟩ := key
  cases r2 with
  | dk h r => exact ⟨_, _, _, ρ2, G2, hv, s2, x2, h, r, q2⟩
/-! ### for -/
def tK (J : It) (H1 : Hp) : TI := fun _ _ R => R J H1
theorem for_core {tg : TG} {g : WG} {ts : TS} {tb : WS} (hg : SndG K tg g) (hb : SndS K ts tb) {b : Bs} {P : PEnds} {E : Ends} {G1 : Hp} {ρ1 : Rho} {σ : L2.St} {H1 H0 : Hp} {J : It} {xs : List D} (e : EOk K b P E) (s1 : Sim K b G1 ρ1 σ H1) (wk : Walks K J xs G1 G1) (q1 : wLoop g tb P xs ρ1) : tFor (tK J H1) tg ts E σ H0 := by
  refine ⟨fun i m σ H => m = xs.length - i ∧ i ≤ xs.length ∧ ∃ G2 ρ2, Sim K b G2 ρ2 σ H ∧ Ex G1 G2 ∧ wLoop g tb P (xs.drop i) ρ2, ⟨_, rfl, Nat.zero_le _, G1, ρ1, s1, Ex.refl _, q1⟩, ?_⟩
  rintro i m σ2 H2 ⟨rfl, hi2, G2, ρ2, s2, g2, q2⟩
  obtain ⟨w1, w2⟩ := wk G2 H2 i g2 (g2.trans s2.le) s2.le
  by_cases hlt : i < xs.length
  · obtain ⟨go, yl⟩ := w1 xs[i] (List.getElem?_eq_getElem hlt)
    rw [List.drop_eq_getElem_cons hlt] at q2
    refine .inr ⟨go, fun σ' H' => ∃ G' ρ', Sim K b G' ρ' σ' H' ∧ Ex G1 G' ∧ wLoop g tb P (xs.drop (i + 1)) ρ', fun σ' H' ⟨G', ρ', a1, a2, a3⟩ => ⟨xs.length - (i + 1), by omega, rfl, hlt, G', ρ', a1, a2, a3⟩, fun x H' y => ?_⟩
    refine yl_go s2 (yl x H' y) fun G3 g3 x3 s3 r3 => ?_
    refine hg b G3 ρ2 σ2 H' x _ _ _ s3 r3 q2 fun ρ4 σ4 q4 p4 => ?_
    -- the body, from G3 on: what it leaves frozen stays
    have b' : Sim K ⟨b.aw, G3, b.B0⟩ G3 ρ4 σ4 H' := ⟨p4.1.len, p4.1.sub, Ex.refl _, p4.1.b0, fun a o e1 e2 => e2, p4.1.fz, p4.1.ow, p4.1.dj, p4.1.ws, p4.1.wk⟩
    have back : ∀ {ρ σ G H}, Sim K ⟨b.aw, G3, b.B0⟩ G ρ σ H → Sim K b G ρ σ H ∧ Ex G1 G := fun {ρ σ G H} z =>
      ⟨⟨z.len, z.sub, s3.g0.trans z.g0, z.b0, fun a o e1 e2 => z.new a o e1 (s3.new a o e1 e2), z.fz, z.ow, z.dj, z.ws, z.wk⟩, (g2.trans g3).trans z.g0⟩
    refine hb ⟨b.aw, G3, b.B0⟩ _ _ G3 ρ4 σ4 H' ⟨fun ρ σ G H q z => ?_, fun d k v ρ σ G H q z r => ?_, fun ρ σ G H q z => ?_, fun ρ σ G H q z => ?_⟩ b' q4
    · exact ⟨G, ρ, (back z).1, (back z).2, q⟩
    · exact e.rt d k v ρ σ G H q (back z).1 (by cases k <;> exact r)
    · exact e.nx ρ σ G H q (back z).1
    · exact ⟨G, ρ, (back z).1, (back z).2, q⟩
  · have ei : i = xs.length := by omega
    subst ei
    rw [List.drop_length] at q2
    exact .inl ⟨w2 (Nat.le_refl _), e.nx ρ2 σ2 G2 H2 q2 s2⟩
def eiS (t : TS) : TS := fun E σ H => tLock t E σ H ∨ t E σ H
def eiE (t : TE) : TE := fun σ H Q => tLockE t σ H Q ∨ t σ H Q
theorem ps_or {X : Cx} {st : Stmt} {t u : TS} (h1 : PS X st t) (h2 : PS X st u) : PS X st (fun E σ H => t E σ H ∨ u E σ H) := ⟨fun pins s σ H E I h => by
  rcases h with h | h
  · exact h1.run pins s σ H E I h
  · exact h2.run pins s σ H E I h⟩
theorem pe_or {X : Cx} {e : Expr} {t u : TE} (h1 : PE X e t) (h2 : PE X e u) : PE X e (fun σ H Q => t σ H Q ∨ u σ H Q) := ⟨fun pins s σ H Q I h => by
  rcases h with h | h
  · exact h1.run pins s σ H Q I h
  · exact h2.run pins s σ H Q I h⟩
theorem snd_forK (i : Nat) {tg : TG} {g : WG} {ts : TS} {tb : WS} (hg : SndG K tg g) (hb : SndS K ts tb) : SndS K (eiS (tFor (iKeys (tVar i)) tg ts)) (wFor (wiK i) g tb) := fun b P E G ρ σ H e s hq => by
  obtain ⟨a, kvs, es, ρ2, G2, hv, s2, x2, hr, r, q⟩ := key_var s hq
  rcases hr with h | ⟨o, h⟩
  · left
    refine ⟨a, .dK kvs, s2.le _ _ h, trivial, fun od => ⟨.ref a, hv, a, od, rfl, .inl ⟨kvs, upd_same, ?_⟩⟩⟩
    exact for_core (H0 := H) hg hb (e.lock s2 h od) (s2.lock h od) (keys_walk upd_same (r.gm (gm_lock h))) q
  · right
    exact ⟨.ref a, hv, a, o, rfl, .inl ⟨kvs, s2.le _ _ h, for_core (H0 := H) hg hb e s2 (keys_walk h r) q⟩⟩
/-! ### comprehension -/
theorem comp_core {tg : TG} {g : WG} {tt : TT} {c : WT} {te : TE} {w : WE} {vs : List Nat} (hg : SndG K tg g) (hin : TgIn tg vs) (hc : SndT K tt c) (he : SndE K te w) {b : Bs} {G1 : Hp} {ρ1 : Rho} {σ : L2.St} {H1 H0 : Hp} {J : It} {xs : List D} {Q : D → Kd → Rho → Prop} {R : VK}
    (s1 : Sim K b G1 ρ1 σ H1) (wk : Walks K J xs G1 (hd b.aw H1)) (q1 : wCompL g c w vs xs [] (wipeR ρ1 vs) fun ds ρ2 => Q (.lst ds) .nw (restR ρ1 ρ2 vs))
    (k : ∀ d kd ρ' v G' H', Q d kd ρ' → Xt b ρ1 σ G1 H1 ρ' G' H' → Sim K b G' ρ' σ H' → Rv K b H1 G' H' ρ' σ kd v d → R v H') : tLc (tK J H1) tg tt te vs σ H0 R := by
  intro Dl hD
  have hwD := s1.aw_ne hD
  have h0D := s1.fresh0 hD
  have hfD : hd b.aw H1 Dl = none := hd_none hD
  let Qc : List D → Rho → Prop := fun ds ρ2 => Q (.lst ds) .nw (restR ρ1 ρ2 vs)
  refine ⟨fun i m H => m = xs.length - i ∧ i ≤ xs.length ∧ ∃ G2 ρ2 va acc, Sim K b G2 ρ2 (L2.wipe σ vs) H ∧ Xt b (wipeR ρ1 vs) (L2.wipe σ vs) G1 H1 ρ2 G2 H ∧ H Dl = some (.lst va) ∧ RpL K G2 va acc ∧ G2 Dl = none ∧ wCompL g c w vs (xs.drop i) acc ρ2 Qc,
    ⟨_, rfl, Nat.zero_le _, G1, wipeR ρ1 vs, [], [], (s1.wipe vs).laid hD, .laid hD, upd_same, .nil, s1.fresh hD, q1⟩, ?_⟩
  rintro i m H2 ⟨rfl, hi2, G2, ρ2, va, acc, s2, x2, hDl, ra, gD, q2⟩
  have e12 : Ex (hd b.aw H1) H2 := x2.h.trans hd_le
  obtain ⟨w1, w2⟩ := wk G2 H2 i x2.g e12 s2.le
  have noD : ∀ {ρ' G' H'}, Xt b (wipeR ρ1 vs) (L2.wipe σ vs) G1 H1 ρ' G' H' → ∀ (j : Nat) (d : D), ρ'[j]? = some (.ow d) → (L2.wipe σ vs)[j]? ≠ some (some (.ref Dl)) := fun {ρ' G' H'} x j d e z => by
    obtain ⟨a, e1, e2, e3, e4, e5⟩ := (s1.wipe vs).ow j d (x.own j d e)
    rw [z] at e1; cases e1
    exact e5.known hD
  by_cases hlt : i < xs.length
  · obtain ⟨go, yl⟩ := w1 xs[i] (List.getElem?_eq_getElem hlt)
    rw [List.drop_eq_getElem_cons hlt] at q2
    refine .inr ⟨go, fun H' => ∃ G' ρ' va acc, Sim K b G' ρ' (L2.wipe σ vs) H' ∧ Xt b (wipeR ρ1 vs) (L2.wipe σ vs) G1 H1 ρ' G' H' ∧ H' Dl = some (.lst va) ∧ RpL K G' va acc ∧ G' Dl = none ∧ wCompL g c w vs (xs.drop (i + 1)) acc ρ' Qc,
      fun H' ⟨G', ρ', va, acc, a1⟩ => ⟨xs.length - (i + 1), by omega, rfl, hlt, G', ρ', va, acc, a1⟩, fun x H' y => ?_⟩
    refine yl_go s2 (yl x H' y) fun G3 g3 x3 s3 r3 => ?_
    have x3' := x2.trans x3
    have hDl3 : H' Dl = some (.lst va) := (hd_some (x3.h Dl _ (by rw [hd_ne hwD]; exact hDl))).2
    have gD3 : G3 Dl = none := x3.new Dl _ (by rw [hd_ne hwD]; exact hDl) gD fun ⟨j, d, z1, z2⟩ => noD x2 j d z1 z2
    have q2 : g xs[i] ρ2 fun ρ1 => c ρ1 fun c' ρ2 => if c' = true then w ρ2 (toF fun d ρ3 => acc.length < LIM ∧ wCompL g c w vs (xs.drop (i + 1)) (acc ++ [d]) (wipeR ρ3 vs) Qc) else wCompL g c w vs (xs.drop (i + 1)) acc (wipeR ρ2 vs) Qc := q2
    have hww : L2.wipe (L2.wipe σ vs) vs = L2.wipe σ vs := by
      apply List.ext_getElem?
      intro j
      rw [wipe_get, wipe_length]
      split
      · rename_i h; rw [wipe_get, if_pos h]
      · rfl
    refine hin x (L2.wipe σ vs) (L2.wipe σ vs) H' (fun σ' H'' => L2.wipe σ' vs = L2.wipe σ vs → tt σ' H'' fun b H3 => if b = true then te σ' H3 fun y H4 => ∃ acc, H4 Dl = some (.lst acc) ∧ acc.length < sizeLine ∧ ∃ G' ρ' va ac, Sim K _ G' ρ' (L2.wipe σ vs) (upd H4 Dl (.lst (acc ++ [y]))) ∧ Xt _ (wipeR ρ1 vs) (L2.wipe σ vs) G1 H1 ρ' G' (upd H4 Dl (.lst (acc ++ [y]))) ∧ (upd H4 Dl (.lst (acc ++ [y]))) Dl = some (.lst va) ∧ RpL K G' va ac ∧ G' Dl = none ∧ wCompL g c w vs (xs.drop (i + 1)) ac ρ' Qc
      else ∃ G' ρ' va acc, Sim K _ G' ρ' (L2.wipe σ vs) H3 ∧ Xt _ (wipeR ρ1 vs) (L2.wipe σ vs) G1 H1 ρ' G' H3 ∧ H3 Dl = some (.lst va) ∧ RpL K G' va acc ∧ G' Dl = none ∧ wCompL g c w vs (xs.drop (i + 1)) acc ρ' Qc) _ hww (fun σ' H'' e' q' => ⟨e', q' e'⟩) ?_
    refine hg b G3 ρ2 (L2.wipe σ vs) H' x _ _ _ s3 r3 q2 fun ρ4 σ4 q4 p4 ew => ?_
    have fin : ∀ {ρ5 G5 H5}, Xt b ρ4 σ4 G3 H' ρ5 G5 H5 → Sim K b G5 ρ5 σ4 H5 → Xt b (wipeR ρ1 vs) (L2.wipe σ vs) G1 H1 (wipeR ρ5 vs) G5 H5 ∧ Sim K b G5 (wipeR ρ5 vs) (L2.wipe σ vs) H5 ∧ H5 Dl = some (.lst va) ∧ G5 Dl = none ∧ ∀ (j : Nat) (d : D), ρ5[j]? = some (.ow d) → σ4[j]? ≠ some (some (.ref Dl)) := fun {ρ5 G5 H5} y s5 => by
      have own4 : ∀ (j : Nat) (d : D) (a : Addr), ρ4[j]? = some (.ow d) → σ4[j]? = some (some (.ref a)) → Own (wipeR ρ1 vs) (L2.wipe σ vs) a := fun j d a z1 z2 => by
        obtain ⟨c1, c2⟩ := p4.2 j d z1
        exact ⟨j, d, x3'.own j d c1, by rw [← c2]; exact z2⟩
      have nD4 : ¬ Own ρ4 σ4 Dl := fun ⟨j, d, z1, z2⟩ => by
        obtain ⟨c1, c2⟩ := p4.2 j d z1
        rw [c2] at z2
        exact noD x3' j d c1 z2
      have hD5 : hd b.aw H' Dl = some (.lst va) := by rw [hd_ne hwD]; exact hDl3
      refine ⟨⟨x3'.g.trans y.g, x3'.h.trans y.h, fun a o e n no => y.new a o (x3'.h a o e) (x3'.new a o e n no) fun ⟨j, d, z1, z2⟩ => no (own4 j d a z1 z2), fun j d e => ?_⟩, ?_, (hd_some (y.h Dl _ hD5)).2, y.new Dl _ hD5 gD3 nD4, fun j d z1 z2 => nD4 ⟨j, d, y.own j d z1, z2⟩⟩
      · rw [wipeR_get] at e
        split at e
        · cases e
        · exact x3'.own j d (p4.2 j d (y.own j d e)).1
      · have := s5.wipe vs
        rw [ew] at this
        exact this
    refine hc b G3 ρ4 σ4 H' _ _ p4.1 q4 fun c' ρ5 G5 H5 q5 x5 s5 => ?_
    cases c' with
    | false =>
      refine iteF ?_
      obtain ⟨f1, f2, f3, f4, _⟩ := fin x5 s5
      exact ⟨G5, wipeR ρ5 vs, va, acc, f2, f1, f3, ra.mono (g3.trans x5.g), f4, q5⟩
    | true =>
      refine iteT ?_
      refine he b G5 ρ5 σ4 H5 _ _ s5 q5 fun d kd ρ6 v G6 H6 q6 x6 s6 r6 => ?_
      refine frozen (R := fun v H' => ∃ acc, H' Dl = some (.lst acc) ∧ acc.length < sizeLine ∧ ∃ G' ρ' va ac, Sim K b G' ρ' (L2.wipe σ vs) (upd H' Dl (.lst (acc ++ [v]))) ∧ Xt b (wipeR ρ1 vs) (L2.wipe σ vs) G1 H1 ρ' G' (upd H' Dl (.lst (acc ++ [v]))) ∧ (upd H' Dl (.lst (acc ++ [v]))) Dl = some (.lst va) ∧ RpL K G' va ac ∧ G' Dl = none ∧ wCompL g c w vs (xs.drop (i + 1)) ac ρ' Qc) q6 x6 s5 s6 r6 fun d ρ7 v G7 q7 x7 s7 r7 => ?_
      obtain ⟨f1, f2, f3, f4, f5⟩ := fin (x5.trans x7) s7
      have rv : RpL K G7 (va ++ [v]) (acc ++ [d]) := (ra.mono (g3.trans (x5.trans x7).g)).append (.cons r7 .nil)
      refine ⟨va, f3, by rw [ra.length]; exact lim_lt q7.1, G7, wipeR ρ7 vs, va ++ [v], acc ++ [d], f2.poke hwD h0D f4 (fun j d' z1 z2 => ?_), ⟨f1.g, fun a o e => ?_, f1.new, f1.own⟩, upd_same, rv, f4, q7.2⟩
      · obtain ⟨a, e1, e2, e3, e4, e5⟩ := (s1.wipe vs).ow j d' (f1.own j d' z1)
        rw [z2] at e1; cases e1
        exact e5.known hD
      · rw [hd_upd hwD, upd_ne (fun z => by subst z; rw [hfD] at e; cases e)]
        exact f1.h a o e
  · have ei : i = xs.length := by omega
    subst ei
    rw [List.drop_length] at q2
    refine .inl ⟨w2 (Nat.le_refl _), ?_⟩
    have q2 : Q (.lst acc) .nw (restR ρ1 ρ2 vs) := q2
    have hl : ρ1.length = ρ2.length := by rw [s1.len, s2.len, wipe_length]
    have hg2 : ∀ (j : Nat) (x : Slot), (restR ρ1 ρ2 vs)[j]? = some x → (j ∈ vs ∧ ρ1[j]? = some x) ∨ (j ∉ vs ∧ ρ2[j]? = some x ∧ (L2.wipe σ vs)[j]? = σ[j]?) := fun j x e => by
      rw [restR_get ρ1 ρ2 hl] at e
      by_cases hj : j ∈ vs
      · rw [if_pos hj] at e; exact .inl ⟨hj, e⟩
      · rw [if_neg hj] at e; exact .inr ⟨hj, e, by rw [wipe_get, if_neg fun z => hj z.1]⟩
    have own1 : ∀ (j : Nat) (d : D), (restR ρ1 ρ2 vs)[j]? = some (.ow d) → ρ1[j]? = some (.ow d) := fun j d e => by
      rcases hg2 j _ e with ⟨_, h⟩ | ⟨hj, h, _⟩
      · exact h
      · have := x2.own j d h
        rw [wipeR_get] at this
        split at this
        · cases this
        · exact this
    have sR : Sim K b G2 (restR ρ1 ρ2 vs) σ H2 := by
      refine ⟨by rw [restR_len, s2.len, wipe_length], s2.sub, s2.g0, s2.b0, s2.new, fun j d e => ?_, fun j d e => ?_, fun j k' d e v hne e1 e2 e3 e4 => s1.dj j k' d e v hne (own1 j d e1) (own1 k' e e2) e3 e4, fun j e => ?_, s2.wk⟩
      · rcases hg2 j _ e with ⟨_, h⟩ | ⟨hj, h, hs⟩
        · obtain ⟨v, e1, r⟩ := s1.fz j d h
          exact ⟨v, e1, r.mono x2.g⟩
        · obtain ⟨v, e1, r⟩ := s2.fz j d h
          exact ⟨v, by rw [← hs]; exact e1, r⟩
      · rcases hg2 j _ e with ⟨hj, h⟩ | ⟨hj, h, hs⟩
        · obtain ⟨a, e1, e2, e3, e4, e5⟩ := s1.ow j d h
          obtain ⟨o, ho, _⟩ := e5.there
          have ho1 : hd b.aw H1 a = some o := by rw [hd_ne e2]; exact ho
          refine ⟨a, e1, e2, e3, x2.new a o ho1 e4 fun z => ?_, e5.mono x2.g fun u hu => ?_⟩
          · obtain ⟨j', d', z1, z2⟩ := z
            rw [wipeR_get] at z1
            split at z1
            · cases z1
            · rename_i hn
              have hl' : j' < ρ1.length := (List.getElem?_eq_some_iff.mp z1).1
              have hn' : j' ∉ vs := fun z => hn ⟨z, hl'⟩
              rw [wipe_get, if_neg fun z => hn' z.1] at z2
              exact s1.dj j' j d' d _ (fun z => hn' (z ▸ hj)) z1 h z2 e1
          · exact (hd_some (x2.h a u (by rw [hd_ne e2]; exact hu))).2
        · obtain ⟨a, e1, e2⟩ := s2.ow j d h
          exact ⟨a, by rw [← hs]; exact e1, e2⟩
      · rcases hg2 j _ e with ⟨_, h⟩ | ⟨hj, h, hs⟩
        · exact s1.ws j h
        · obtain ⟨a, e1, e2⟩ := s2.ws j h
          exact ⟨a, e1, by rw [← hs]; exact e2⟩
    have xR : Xt b ρ1 σ G1 H1 (restR ρ1 ρ2 vs) G2 H2 := ⟨x2.g, x2.h, fun a o e n no => x2.new a o e n fun z => no (own_wipe z), own1⟩
    refine k _ .nw _ (.ref Dl) G2 H2 q2 xR sR ⟨Dl, rfl, ?_, hwD, gD, va, hDl, ra⟩
    exact hfD
theorem snd_compK (i : Nat) {tg : TG} {g : WG} {tt : TT} {c : WT} {te : TE} {w : WE} {vs : List Nat} (hg : SndG K tg g) (hin : TgIn tg vs) (hc : SndT K tt c) (he : SndE K te w) : SndE K (eiE (tLc (iKeys (tVar i)) tg tt te vs)) (wComp (wiK i) g c w vs) := fun b G ρ σ H Q R s hq k => by
  obtain ⟨a, kvs, es, ρ2, G2, hv, s2, x2, hr, r, q⟩ := key_var s hq
  rcases hr with h | ⟨o, h⟩
  · left
    refine ⟨a, .dK kvs, s2.le _ _ h, trivial, fun od => ⟨.ref a, hv, a, od, rfl, .inl ⟨kvs, upd_same, ?_⟩⟩⟩
    refine comp_core (H0 := H) (R := fun v H' => H' a = some (.frz od (.dK kvs)) ∧ R v (upd H' a (.dK kvs))) hg hin hc he (s2.lock h od) (keys_walk ((s2.lock h od).sub a _ upd_same) (r.gm (gm_lock h))) q fun d kd ρ' v G' H' q' x' s' r' => ?_
    obtain ⟨u1, u2, u3⟩ := s2.unlock h s'
    refine ⟨u2, k _ _ _ _ _ _ q' (x2.trans (Xt.unlock s2 h x')) u3 ?_⟩
    exact Rv.unlock s2 h u1 r'
  · right
    refine ⟨.ref a, hv, a, o, rfl, .inl ⟨kvs, s2.le _ _ h, ?_⟩⟩
    exact comp_core (H0 := H) hg hin hc he s2 (keys_walk (s2.sub a _ h) r) q fun d kd ρ' v G' H' q' x' s' r' => k _ _ _ _ _ _ q' (x2.trans x') s' r'
/-! ### wrappers -/
section
variable {X : Cx}
theorem s_forK (i : Nat) {tg iter : Expr} {tgt : TG} {g : WG} {sts : List Stmt} {ts : TS} {r : WS} {pos : Pos} (hi : SE X iter (tVar i) (wVar i)) (hg : SG X tg tgt g) (hb : SB X sts ts r) (hp : PassesOwn (model X.prog X.w) X.A X.env X.xe := by exact PassesOwn.never) (hc : X.calm = true := by rfl) (hs : ∀ x, foldedSetIterable iter X.env x = pure x := by intro _; rfl) :
    SS X (.For tg iter sts [] pos) (eiS (tFor (iKeys (tVar i)) tgt ts)) (wFor (wiK i) g r) :=
  ⟨ps_or (ps_lock (ps_for hp hc (pi_keys hi.pe) hg.pg hb.ps hs)) (ps_for hp hc (pi_keys hi.pe) hg.pg hb.ps hs), snd_forK i hg.snd hb.snd⟩
variable {elt tg iter : Expr} {ifs : List Expr} {scope : Scope} {pos : Pos} {tgt : P5 TG} {g : WG} {tt' : P5 TT} {te' : P5 TE} {p : WT} {t : WE}
theorem e_compK (i : Nat) (own : List (Str × Nat)) (hN : X.N.Nodup) (hi : SE X iter (tVar i) (wVar i)) (ok : BlkOk X.N X.env.scope scope own)
    (hg : ∀ s H C cl fp, SG (X.blk s H scope (compEnvC scope cl C X.env) fp) tg (tgt s H C cl fp) g) (hin : TgIn (one5 X tgt) (own.map (·.2))) (ht : ∀ s H C cl fp, STs (X.blk s H scope (compEnvC scope cl C X.env) fp) ifs (tt' s H C cl fp) p) (he : ∀ s H C cl fp, SE (X.blk s H scope (compEnvC scope cl C X.env) fp) elt (te' s H C cl fp) t)
    (hc : X.calm = true := by rfl) (hs : ∀ x, foldedSetIterable iter X.env x = pure x := by intro _; rfl) (h1 : ∀ s H C cl fp, tgt s H C cl fp = one5 X tgt := by intro _ _ _ _ _; rfl) (h2 : ∀ s H C cl fp, tt' s H C cl fp = one5 X tt' := by intro _ _ _ _ _; rfl) (h3 : ∀ s H C cl fp, te' s H C cl fp = one5 X te' := by intro _ _ _ _ _; rfl) :
    SE X (.ListComp elt [⟨tg, iter, ifs, 0⟩] scope pos) (eiE (tLc (iKeys (tVar i)) (one5 X tgt) (one5 X tt') (one5 X te') (own.map (·.2)))) (wComp (wiK i) g p t (own.map (·.2))) := by
  have pe := pe_lc (pos := pos) hc hN (pi_keys hi.pe) ok (fun s H C cl fp => h1 s H C cl fp ▸ (hg s H C cl fp).pg) (fun s H C cl fp => h2 s H C cl fp ▸ (ht s H C cl fp).pt) (fun s H C cl fp => h3 s H C cl fp ▸ (he s H C cl fp).pe) hs
  refine ⟨pe_or (pe_lock pe) pe, snd_compK i ?_ hin ?_ ?_⟩
  · exact (hg (PySem.start X.prog).1 (fun _ => none) 0 [] []).snd
  · exact (ht (PySem.start X.prog).1 (fun _ => none) 0 [] []).snd
  · exact (he (PySem.start X.prog).1 (fun _ => none) 0 [] []).snd
theorem s_compK (i : Nat) {j : Nat} {y : Str} {py : Pos} {spos : Pos} (own : List (Str × Nat)) (hN : X.N.Nodup) (hi : SE X iter (tVar i) (wVar i)) (ok : BlkOk X.N X.env.scope scope own)
    (hg : ∀ s H C cl fp, SG (X.blk s H scope (compEnvC scope cl C X.env) fp) tg (tgt s H C cl fp) g) (hin : TgIn (one5 X tgt) (own.map (·.2))) (ht : ∀ s H C cl fp, STs (X.blk s H scope (compEnvC scope cl C X.env) fp) ifs (tt' s H C cl fp) p) (he : ∀ s H C cl fp, SE (X.blk s H scope (compEnvC scope cl C X.env) fp) elt (te' s H C cl fp) t)
    (hy : X.N[j]? = some y := by rfl) (hyl : X.env.scope.names.lookup y = some .local := by rfl)
    (hsw : swapsWith (.ListComp elt [⟨tg, iter, ifs, 0⟩] scope pos) (some (.Name y py)) spos.line X.env = pure true := by exact sw_true rfl rfl rfl (by decide +kernel))
    (hc : X.calm = true := by rfl) (hs : ∀ x, foldedSetIterable iter X.env x = pure x := by intro _; rfl) (h1 : ∀ s H C cl fp, tgt s H C cl fp = one5 X tgt := by intro _ _ _ _ _; rfl) (h2 : ∀ s H C cl fp, tt' s H C cl fp = one5 X tt' := by intro _ _ _ _ _; rfl) (h3 : ∀ s H C cl fp, te' s H C cl fp = one5 X te' := by intro _ _ _ _ _; rfl) :
    SS X (.Assign [.Name y py] (.ListComp elt [⟨tg, iter, ifs, 0⟩] scope pos) spos) (eiS (tAsg (tLc (iKeys (tVar i)) (one5 X tgt) (one5 X tt') (one5 X te') (own.map (·.2))) (gName j))) (wAsg j (wComp (wiK i) g p t (own.map (·.2)))) := by
  have ps := ps_setLc hc hN hy hyl hsw (pi_keys hi.pe) ok (fun s H C cl fp => h1 s H C cl fp ▸ (hg s H C cl fp).pg) (fun s H C cl fp => h2 s H C cl fp ▸ (ht s H C cl fp).pt) (fun s H C cl fp => h3 s H C cl fp ▸ (he s H C cl fp).pe) hs
  refine ⟨ps_or (ps_lock ps) ps, fun b P E G ρ σ H e s hq => ?_⟩
  exact snd_asg (snd_compK i (hg (PySem.start X.prog).1 (fun _ => none) 0 [] []).snd hin (ht (PySem.start X.prog).1 (fun _ => none) 0 [] []).snd (he (PySem.start X.prog).1 (fun _ => none) 0 [] []).snd) b P E G ρ σ H e s hq
end
end VL

namespace VL
open PySem PySem.Spec PyProof.Rows L2
/-! ### readings that stand still: one answer, the slots as they were -/
def Kd.ok : Kd → Bool
  | .br _ => false
  | _ => true
def Ev (t : WE) (ρ : Rho) (d : D) (k : Kd) : Prop := ∀ Q : D → Kd → Rho → Prop, Q d k ρ → t ρ Q
def Et (t : WT) (ρ : Rho) (c : Bool) : Prop := ∀ Q : Bool → Rho → Prop, Q c ρ → t ρ Q
def Ea (t : WA) (ρ : Rho) (ds : List D) : Prop := ∀ Q : List D → Rho → Prop, Q ds ρ → t ρ Q
def Exs (t : WX) (ρ : Rho) (as : List A) : Prop := ∀ Q : List A → Rho → Prop, Q as ρ → t ρ Q
section
variable {ρ : Rho} {d e z : D} {k k' kz : Kd} {t u w : WE} {c c' : WT} {b b' : Bool} {ds : List D} {as : List A} {ta : WA} {tx : WX} {i j : Nat}
theorem toF_ok {Q : D → Rho → Prop} (h : k.ok = true) (q : Q d ρ) : toF Q d k ρ := by
  cases k with
  | fz => exact q
  | nw => exact q
  | br i => cases h
theorem ev_con : Ev (wCon d) ρ d .fz := fun _ q => q
theorem ev_var (h : ρ[i]? = some (.fz d)) : Ev (wVar i) ρ d .fz := fun Q q => by unfold wVar; rw [h]; exact q
theorem ev_own (h : ρ[i]? = some (.ow d)) : Ev (wVar i) ρ d (.br i) := fun Q q => by unfold wVar; rw [h]; exact q
theorem ev_bin {f : D → D → Oz} (ha : Ev t ρ d k) (hb : Ev u ρ e k') (h : f d e = some (z, kz)) : Ev (wBin f t u) ρ z kz := fun Q q => ha _ (hb _ (by rw [h]; exact q))
theorem ev_un {f : D → Oz} (ha : Ev t ρ d k) (h : f d = some (z, kz)) : Ev (wUn f t) ρ z kz := fun Q q => ha _ (by rw [h]; exact q)
theorem ea_nil : Ea wNil ρ [] := fun _ q => q
theorem ea_cons (h : Ev t ρ d k) (r : Ea ta ρ ds) : Ea (wCons t ta) ρ (d :: ds) := fun Q q => h _ (r _ q)
theorem ea_consF (h : Ev t ρ d k) (r : Ea ta ρ ds) (hk : k.ok = true := by rfl) : Ea (wConsF t ta) ρ (d :: ds) := fun Q q => h _ (toF_ok hk (r _ q))
theorem ev_tup (h : Ea ta ρ ds) (hl : ds.length ≤ LIM := by simp [LIM]) : Ev (wTup ta) ρ (.tup ds) .fz := fun Q q => h _ ⟨hl, q⟩
theorem ev_lst (h : Ea ta ρ ds) (hl : ds.length ≤ LIM := by simp [LIM]) : Ev (wLst ta) ρ (.lst ds) .nw := fun Q q => h _ ⟨hl, q⟩
theorem ev_cl {f : List D → Oz} (h : Ea ta ρ ds) (e : f ds = some (z, kz)) : Ev (wCl f ta) ρ z kz := fun Q q => h _ (by rw [e]; exact q)
theorem ex_nil : Exs xNil ρ [] := fun _ q => q
theorem ex_cons (h : Ev t ρ d k) (r : Exs tx ρ as) (hk : k.ok = true := by rfl) : Exs (xCons t tx) ρ (.d d :: as) := fun Q q => h _ (toF_ok hk (r _ q))
theorem ev_call {sp : FS} (h : Exs tx ρ as) (hs : ∀ q : D → Kd → Prop, q d k → sp as q) : Ev (wCall sp tx) ρ d k := fun Q q => h _ (hs _ q)
theorem ev_ifT (h : Et c ρ true) (a : Ev t ρ d k) : Ev (wIfE c t u) ρ d k := fun Q q => h _ (a _ q)
theorem ev_ifF (h : Et c ρ false) (a : Ev u ρ d k) : Ev (wIfE c t u) ρ d k := fun Q q => h _ (a _ q)
theorem ev_if (h : Et c ρ b) (a : b = true → Ev t ρ d k) (a' : b = false → Ev u ρ d k) : Ev (wIfE c t u) ρ d k := by
  cases b with
  | true => exact ev_ifT h (a rfl)
  | false => exact ev_ifF h (a' rfl)
theorem et_test (h : Ev t ρ (.bl b) k) : Et (wTest t) ρ b := fun Q q => h _ q
theorem et_not (h : Et c ρ b) : Et (wNot c) ρ (!b) := fun Q q => h _ q
theorem et_and (h : Et c ρ b) (h' : b = true → Et c' ρ b') : Et (wAnd c c') ρ (b && b') := fun Q q => h _ (by
  cases b with
  | true => exact h' rfl _ q
  | false => exact q)
theorem et_or (h : Et c ρ b) (h' : b = false → Et c' ρ b') : Et (wOr c c') ρ (b || b') := fun Q q => h _ (by
  cases b with
  | true => exact q
  | false => exact h' rfl _ q)
theorem ev_chain {f g : D → D → Oz} {x : D} {kx : Kd} (ha : Ev t ρ d k) (hb : Ev u ρ e k') (h1 : f d e = some (.bl b, .fz)) (hc : b = true → Ev w ρ x kx) (h2 : b = true → g e x = some (.bl b', .fz)) : Ev (wChain f g t u w) ρ (.bl (b && b')) .fz := fun Q q => by
  rw [wChain_e]
  refine ha _ (hb _ ?_)
  rw [h1]
  cases b with
  | true =>
    rw [chK_t]
    refine hc rfl _ ?_
    rw [h2 rfl]; exact q
  | false => rw [chK_f]; exact q
/-! statements -/
variable {P : PEnds} {s r : WS}
theorem sq_asg (h : Ev w ρ d .fz) (k : r P (ρ.set i (.fz d))) : wSeq (wAsg i w) r P ρ := h _ k
theorem sq_asgN (h : Ev w ρ d .nw) (k : r P (ρ.set i (.ow d))) : wSeq (wAsg i w) r P ρ := h _ k
theorem go_asg (h : Ev w ρ d .fz) (k : P.nx (ρ.set i (.fz d))) : wAsg i w P ρ := h _ k
theorem go_asgN (h : Ev w ρ d .nw) (k : P.nx (ρ.set i (.ow d))) : wAsg i w P ρ := h _ k
theorem go_ret (h : Ev w ρ d k) (q : P.rt d k.ret) : wRet w P ρ := h _ q
theorem sq_ret (h : Ev w ρ d k) (q : P.rt d k.ret) : wSeq (wRet w) r P ρ := h _ q
theorem go_ifT (h : Et c ρ true) (k : s P ρ) : wIf c s r P ρ := h _ k
theorem go_ifF (h : Et c ρ false) (k : r P ρ) : wIf c s r P ρ := h _ k
theorem sq_ifT {q : WS} (h : Et c ρ true) (k : wSeq s q P ρ) : wSeq (wIf c s r) q P ρ := h _ k
theorem sq_ifF {q : WS} (h : Et c ρ false) (k : wSeq r q P ρ) : wSeq (wIf c s r) q P ρ := h _ k
theorem sq_next (k : r P ρ) : wSeq wNext r P ρ := k
theorem sq_skip {q : WS} (h : Et c ρ false) (k : q P ρ) : wSeq (wIf c s wNext) q P ρ := h _ k
theorem go_skip (h : Et c ρ false) (k : P.nx ρ) : wIf c s wNext P ρ := h _ k
theorem sq_sq {q : WS} (k : wSeq s (wSeq r q) P ρ) : wSeq (wSeq s r) q P ρ := k
theorem sq_par2 (h : Ev t ρ d .fz) (h' : Ev u ρ e .fz) (k : r P ((ρ.set i (.fz d)).set j (.fz e))) : wSeq (wPar [i, j] (nCons t (nCons u nNil))) r P ρ := h _ (h' _ ⟨rfl, k⟩)
theorem sq_asgT2 {l : Nat} {a b : D} (h : Ev w ρ (.tup [a, b]) .fz) (k : r P ((ρ.set i (.fz a)).set j (.fz b))) : wSeq (wAsgT (wgTup 2 (wgCons (wgName i) (wgCons (wgName j) wgNil))) w) r P ρ := h _ ⟨rfl, k⟩
theorem sq_asgT3 {l : Nat} {a b c : D} (h : Ev w ρ (.tup [a, b, c]) .fz) (k : r P (((ρ.set i (.fz a)).set j (.fz b)).set l (.fz c))) : wSeq (wAsgT (wgTup 3 (wgCons (wgName i) (wgCons (wgName j) (wgCons (wgName l) wgNil)))) w) r P ρ := h _ ⟨rfl, k⟩
theorem ev_sl1 {n m : Int} {lo : Option Int} (h : Ev t ρ d k) (e : dSlice d (some n) none = some (z, kz)) : Ev (wSlice t (wPSome (wCon (.int n))) wPNone) ρ z kz := fun Q q => h _ (by show oB _ _; rw [e]; exact q)
theorem sq_app {xs : List D} (ho : ρ[i]? = some (.ow (.lst xs))) (h : Ev w ρ d k) (hl : xs.length < LIM) (q : r P (ρ.set i (.ow (.lst (xs ++ [d]))))) (hk : k.ok = true := by rfl) : wSeq (wMut i w fAppend) r P ρ := ⟨⟨_, ho⟩, h _ (toF_ok hk (by rw [ho]; show (match fAppend (.lst xs) d with | some z => _ | none => False); rw [fAppend, if_pos hl]; exact q))⟩
theorem go_app {xs : List D} (ho : ρ[i]? = some (.ow (.lst xs))) (h : Ev w ρ d k) (hl : xs.length < LIM) (q : P.nx (ρ.set i (.ow (.lst (xs ++ [d]))))) (hk : k.ok = true := by rfl) : wMut i w fAppend P ρ := ⟨⟨_, ho⟩, h _ (toF_ok hk (by rw [ho]; show (match fAppend (.lst xs) d with | some z => _ | none => False); rw [fAppend, if_pos hl]; exact q))⟩
end
section
variable {g : WG} {tb : WS} {P : PEnds} {α : Type}
/-- a loop that lays more items behind a list, turn by turn -/
theorem loop_fm (e : α → D) (f : α → List D) (C : α → Prop) (S : List D → Rho → Prop) (total : List D)
    (hs : ∀ a acc ρ, C a → S acc ρ → (acc ++ f a).length ≤ total.length → ∀ J : Rho → Prop, (∀ ρ', S (acc ++ f a) ρ' → J ρ') → g (e a) ρ fun ρ1 => tb ⟨J, P.rt, P.nx, J⟩ ρ1)
    (he : ∀ ρ, S total ρ → P.nx ρ) : ∀ (l : List α) (acc : List D) (ρ : Rho), (∀ a ∈ l, C a) → acc ++ l.flatMap f = total → S acc ρ → wLoop g tb P (l.map e) ρ
  | [], acc, ρ, _, ht, h => he ρ (by simpa [← ht] using h)
  | a :: l, acc, ρ, hc, ht, h => hs a acc ρ (hc a (by simp)) h (by rw [← ht]; simp) _ fun ρ' h' => loop_fm e f C S total hs he l (acc ++ f a) ρ' (fun b hb => hc b (by simp [hb])) (by rw [← ht]; simp) h'
/-- a loop that ends at the first item of a kind -/
theorem loop_find (e : α → D) (p : α → Bool) (S : Rho → Prop) (h0 : Option α) (C : α → Prop)
    (hy : ∀ a ρ, C a → S ρ → p a = true → h0 = some a → ∀ J : Rho → Prop, g (e a) ρ fun ρ1 => tb ⟨J, P.rt, P.nx, J⟩ ρ1)
    (hn : ∀ a ρ, C a → S ρ → p a = false → ∀ J : Rho → Prop, (∀ ρ', S ρ' → J ρ') → g (e a) ρ fun ρ1 => tb ⟨J, P.rt, P.nx, J⟩ ρ1)
    (he : ∀ ρ, S ρ → h0 = none → P.nx ρ) : ∀ (l : List α) (ρ : Rho), (∀ a ∈ l, C a) → (l.filter p).head? = h0 → S ρ → wLoop g tb P (l.map e) ρ
  | [], ρ, _, h, s => he ρ s (by rw [← h]; rfl)
  | a :: l, ρ, hc, h, s => by
    cases hp : p a with
    | true => exact hy a ρ (hc a (by simp)) s hp (by rw [← h, List.filter_cons_of_pos hp]; rfl) _
    | false => exact hn a ρ (hc a (by simp)) s hp _ fun ρ' s' => loop_find e p S h0 C hy hn he l ρ' (fun b hb => hc b (by simp [hb])) (by rw [← h, List.filter_cons_of_neg (by simp [hp])]) s'
theorem go_ext {ρ : Rho} {w : WE} {k : Kd} {i : Nat} {xs es : List D} (ho : ρ[i]? = some (.ow (.lst xs))) (h : Ev w ρ (.lst es) k) (hl : xs.length + es.length ≤ LIM) (q : P.nx (ρ.set i (.ow (.lst (xs ++ es))))) : wExtend i w P ρ := ⟨⟨_, ho⟩, h _ (by
  show (match ρ[i]?, D.lst es with
    | some (.ow (.lst ds)), .lst es => ds.length + es.length ≤ LIM ∧ P.nx (ρ.set i (.ow (.lst (ds ++ es))))
    | _, _ => False)
  rw [ho]; exact ⟨hl, q⟩)⟩
end
/-! comprehensions that stand still -/
def Ei (wi : WI) (ρ : Rho) (xs : List D) : Prop := ∀ Q : List D → Rho → Prop, Q xs ρ → wi ρ Q
section
variable {α : Type} {ρ : Rho} {wi : WI} {tt : WT} {t w : WE} {i j : Nat} {k : Kd} {xs : List D}
theorem ei_tup (h : Ev w ρ (.tup xs) k) : Ei (wiO w) ρ xs := fun Q q => h _ q
theorem ei_lst (h : Ev w ρ (.lst xs) k) : Ei (wiO w) ρ xs := fun Q q => h _ q
theorem rng0 (n : Nat) : rng 0 n = (List.range n).map fun (k : Nat) => D.int (k : Int) := by simp [rng]
theorem ei_r1 {n : Nat} {ta : WA} (h : Ea ta ρ [.int n]) (hn : n ≤ 1000000000) : Ei (wiR1 ta) ρ ((List.range n).map fun (k : Nat) => D.int (k : Int)) := fun Q q => by
  rw [wiR1_e]
  refine h _ ?_
  refine ⟨by unfold i62; omega, ?_⟩
  rw [show ((n : Int).toNat) = n by omega, rng0]
  exact q
theorem et_yes : Et wYes ρ true := fun Q q => q
theorem fm_filter (tb : α → Bool) (el : α → D) : ∀ l : List α, l.filterMap (fun a => if tb a = true then some (el a) else none) = (l.filter tb).map el
  | [] => rfl
  | a :: l => by
    rw [List.filterMap_cons, List.filter_cons, fm_filter tb el l]
    by_cases c : tb a = true <;> simp [c]
theorem ev_comp1 (e : α → D) (tb : α → Bool) (el : α → D) (l : List α) (hi : Ei wi ρ (l.map e)) (hl : l.length ≤ LIM) (ht : ∀ a ∈ l, Et tt ((wipeR ρ [i]).set i (.fz (e a))) (tb a))
    (he : ∀ a ∈ l, tb a = true → Ev t ((wipeR ρ [i]).set i (.fz (e a))) (el a) k) (hk : k.ok = true := by rfl) (hr : restR ρ (wipeR ρ [i]) [i] = ρ := by rfl) (hw : ∀ d, wipeR ((wipeR ρ [i]).set i (.fz d)) [i] = wipeR ρ [i] := by intro; rfl) :
    Ev (wComp wi (wgName i) tt t [i]) ρ (.lst ((l.filter tb).map el)) .nw := fun Q q => by
  unfold wComp
  refine hi _ ?_
  refine comp_mp e (fun a => if tb a = true then some (el a) else none) l hl (fun a ha K hK => ?_) ?_
  · show tt ((wipeR ρ [i]).set i (.fz (e a))) _
    refine ht a ha _ ?_
    by_cases c : tb a = true
    · rw [if_pos c]
      rw [if_pos c] at hK
      refine he a ha c _ (toF_ok hk ?_)
      rw [hw]; exact hK
    · rw [if_neg c]
      rw [if_neg c] at hK
      rw [hw]; exact hK
  · rw [fm_filter, hr]; exact q
theorem ev_comp2 (e1 e2 : α → D) (tb : α → Bool) (el : α → D) (l : List α) (hi : Ei wi ρ (l.map fun a => .tup [e1 a, e2 a])) (hl : l.length ≤ LIM) (ht : ∀ a ∈ l, Et tt (((wipeR ρ [i, j]).set i (.fz (e1 a))).set j (.fz (e2 a))) (tb a))
    (he : ∀ a ∈ l, tb a = true → Ev t (((wipeR ρ [i, j]).set i (.fz (e1 a))).set j (.fz (e2 a))) (el a) k) (hk : k.ok = true := by rfl) (hr : restR ρ (wipeR ρ [i, j]) [i, j] = ρ := by rfl)
    (hw : ∀ d d', wipeR (((wipeR ρ [i, j]).set i (.fz d)).set j (.fz d')) [i, j] = wipeR ρ [i, j] := by intros; rfl) :
    Ev (wComp wi (wgTup 2 (wgCons (wgName i) (wgCons (wgName j) wgNil))) tt t [i, j]) ρ (.lst ((l.filter tb).map el)) .nw := fun Q q => by
  unfold wComp
  refine hi _ ?_
  refine comp_mp (fun a => .tup [e1 a, e2 a]) (fun a => if tb a = true then some (el a) else none) l hl (fun a ha K hK => ?_) ?_
  · refine ⟨rfl, ?_⟩
    show tt (((wipeR ρ [i, j]).set i (.fz (e1 a))).set j (.fz (e2 a))) _
    refine ht a ha _ ?_
    by_cases c : tb a = true
    · rw [if_pos c]
      rw [if_pos c] at hK
      refine he a ha c _ (toF_ok hk ?_)
      rw [hw]; exact hK
    · rw [if_neg c]
      rw [if_neg c] at hK
      rw [hw]; exact hK
  · rw [fm_filter, hr]; exact q
theorem go_for {g : WG} {tb : WS} {P : PEnds} (hi : Ei wi ρ xs) (h : wLoop g tb P xs ρ) : wFor wi g tb P ρ := hi _ h
theorem ei_tupF (h : Ev w ρ (.tup xs) k) (hk : k.ok = true := by rfl) : Ei (wiF w) ρ xs := fun Q q => h _ (toF_ok hk q)
end
/-! ints -/
section
variable {x y : Int}
theorem i_le : bLeD (.int x) (.int y) = some (.bl (decide (x ≤ y)), .fz) := rfl
theorem i_lt : bLtD (.int x) (.int y) = some (.bl (decide (x < y)), .fz) := rfl
theorem i_ge : bGeD (.int x) (.int y) = some (.bl (decide (x ≥ y)), .fz) := rfl
theorem i_gt : bGtD (.int x) (.int y) = some (.bl (decide (x > y)), .fz) := rfl
end
end VL

namespace VL
open PySem PySem.Spec PyProof.Rows L2
/-! ### readings that may answer many things, the slots as they were -/
def Dm (t : WE) (ρ : Rho) (R : D → Prop) : Prop := ∀ Q : D → Kd → Rho → Prop, (∀ d, R d → Q d .fz ρ) → t ρ Q
def Dl (t : WA) (ρ : Rho) (n : Nat) (R : D → Prop) : Prop := ∀ Q : List D → Rho → Prop, (∀ ds, ds.length = n → (∀ x ∈ ds, R x) → Q ds ρ) → t ρ Q
def Dx (t : WX) (ρ : Rho) (R : List A → Prop) : Prop := ∀ Q : List A → Rho → Prop, (∀ as, R as → Q as ρ) → t ρ Q
section
variable {ρ : Rho} {t u w : WE} {ta : WA} {tx : WX} {R S T : D → Prop} {i j n : Nat} {k k' : Kd} {d : D} {m : Int} {r : WS} {P : PEnds}
theorem dm_ev (h : Ev t ρ d .fz) (hR : R d) : Dm t ρ R := fun Q q => h _ (q _ hR)
theorem dm_mono (h : Dm t ρ R) (hs : ∀ d, R d → S d) : Dm t ρ S := fun Q q => h _ fun d r => q d (hs d r)
theorem dm_next (hw : ρ[i]? = some .w) (h : Ev t ρ (.int m) k) (hm : 0 < m) (hk : k.ok = true := by rfl) : Dm (wCall spNext (xW i (xCons t xNil))) ρ (fun d => ∃ r, d = .int r ∧ 0 ≤ r ∧ r < m) :=
  fun Q q => ⟨hw, h _ (toF_ok hk (show spNext [.w, .d (.int m)] (fun d k => Q d k ρ) from next_go hm fun r a b => q _ ⟨r, rfl, a, b⟩))⟩
theorem dm_bin {f : D → D → Oz} (ha : Dm t ρ R) (hb : Dm u ρ S) (h : ∀ d e, R d → S e → ∃ z, f d e = some (z, .fz) ∧ T z) : Dm (wBin f t u) ρ T :=
  fun Q q => ha _ fun d hd => hb _ fun e he => by
    obtain ⟨z, h1, h2⟩ := h d e hd he
    show oB _ _
    rw [h1]; exact q _ h2
theorem dl_nil : Dl wNil ρ 0 R := fun Q q => q [] rfl (by simp)
theorem dl_cons (h : Dm t ρ R) (l : Dl ta ρ n R) : Dl (wConsF t ta) ρ (n + 1) R := fun Q q => h _ fun d hd => l _ fun ds h1 h2 => q (d :: ds) (by simp [h1]) fun x hx => by
  rcases List.mem_cons.mp hx with rfl | hx
  · exact hd
  · exact h2 x hx
theorem dl_ev (h : Ev t ρ d k) (hR : R d) (l : Dl ta ρ n R) (hk : k.ok = true := by rfl) : Dl (wConsF t ta) ρ (n + 1) R := fun Q q => h _ (toF_ok hk (l _ fun ds h1 h2 => q (d :: ds) (by simp [h1]) fun x hx => by
  rcases List.mem_cons.mp hx with rfl | hx
  · exact hR
  · exact h2 x hx))
theorem dm_pick (hw : ρ[i]? = some .w) (h : Dl ta ρ n R) (h0 : 0 < n := by decide) (h1 : n ≤ 1000 := by decide) : Dm (wCall spPick (xW i (xCons (wLst ta) xNil))) ρ R :=
  fun Q q => ⟨hw, h _ fun ds hl hR => ⟨by simp only [LIM]; omega, ds, rfl, fun e => by subst e; simp at hl; omega, by omega, fun x hx => q x (hR x hx)⟩⟩
theorem dm_pickE {xs : List D} (hw : ρ[i]? = some .w) (h : Ev t ρ (.lst xs) k) (h0 : xs ≠ []) (h1 : xs.length ≤ 1000) (hR : ∀ x ∈ xs, R x) (hk : k.ok = true := by rfl) : Dm (wCall spPick (xW i (xCons t xNil))) ρ R :=
  fun Q q => ⟨hw, h _ (toF_ok hk ⟨xs, rfl, h0, h1, fun x hx => q x (hR x hx)⟩)⟩
theorem dm_max {x : Int} {V : Int → Prop} (h : Ev t ρ (.int x) k) (h' : Dm u ρ fun d => ∃ r, d = .int r ∧ V r) : Dm (wCl cMax (wCons t (wCons u wNil))) ρ (fun d => ∃ r, d = .int (max x r) ∧ V r) := fun Q q => h _ (h' _ fun d ⟨r, e, hv⟩ => by
  subst e
  show oB (cMax [.int x, .int r]) (fun z k => Q z k ρ)
  rw [cMax2]; exact q _ ⟨r, rfl, hv⟩)
theorem dx_nil : Dx xNil ρ (fun as => as = []) := fun Q q => q [] rfl
theorem dx_cons {U : List A → Prop} (h : Dm t ρ R) (l : Dx tx ρ U) : Dx (xCons t tx) ρ (fun as => ∃ d bs, as = .d d :: bs ∧ R d ∧ U bs) := fun Q q => h _ fun d hd => l _ fun bs hb => q _ ⟨d, bs, rfl, hd, hb⟩
theorem dm_call {sp : FS} {U : List A → Prop} (h : Dx tx ρ U) (hs : ∀ as, U as → ∀ q : D → Kd → Prop, (∀ d, T d → q d .fz) → sp as q) : Dm (wCall sp tx) ρ T := fun Q q => h _ fun as ha => hs as ha _ q
/-- a call of one demonic argument, the rest stands -/
theorem dm_call1 {sp : FS} {as : List A} (h : Dm t ρ R) (l : Exs tx ρ as) (hs : ∀ d, R d → ∀ q : D → Kd → Prop, (∀ z, T z → q z .fz) → sp (.d d :: as) q) : Dm (wCall sp (xCons t tx)) ρ T := fun Q q => h _ fun d hd => l _ (hs d hd _ q)
theorem sq_asgD (h : Dm w ρ R) (q : ∀ d, R d → r P (ρ.set i (.fz d))) : wSeq (wAsg i w) r P ρ := h _ fun d hd => q d hd
theorem go_asgD (h : Dm w ρ R) (q : ∀ d, R d → P.nx (ρ.set i (.fz d))) : wAsg i w P ρ := h _ fun d hd => q d hd
theorem sq_par2D (h : Dm t ρ R) (h' : Dm u ρ S) (q : ∀ d e, R d → S e → r P ((ρ.set i (.fz d)).set j (.fz e))) : wSeq (wPar [i, j] (nCons t (nCons u nNil))) r P ρ := h _ fun d hd => h' _ fun e he => ⟨rfl, q d e hd he⟩
theorem sq_parL {d : D} (h : Ev t ρ d .nw) (h' : Dm u ρ S) (q : ∀ e, S e → r P ((ρ.set i (.ow d)).set j (.fz e))) : wSeq (wPar [i, j] (nCons t (nCons u nNil))) r P ρ := h _ (h' _ fun e he => ⟨rfl, q e he⟩)
theorem sq_parM {d : D} (h : Ev t ρ d .nw) (h' : Ev u ρ e .fz) (q : r P ((ρ.set i (.ow d)).set j (.fz e))) : wSeq (wPar [i, j] (nCons t (nCons u nNil))) r P ρ := h _ (h' _ ⟨rfl, q⟩)
theorem dm_add {V W : Int → Prop} (ha : Dm t ρ fun d => ∃ r, d = .int r ∧ V r) (hb : Dm u ρ fun d => ∃ r, d = .int r ∧ W r) : Dm (wBin bAdd t u) ρ (fun d => ∃ r, d = .int r ∧ ∃ a b, r = a + b ∧ V a ∧ W b) :=
  dm_bin ha hb fun d e ⟨a, h1, h2⟩ ⟨b, h3, h4⟩ => by subst h1; subst h3; exact ⟨_, bAdd_i, _, rfl, a, b, rfl, h2, h4⟩
theorem dm_int {x : Int} {V : Int → Prop} (h : Ev t ρ (.int x) .fz) (hv : V x) : Dm t ρ (fun d => ∃ r, d = .int r ∧ V r) := dm_ev h ⟨x, rfl, hv⟩
/-- a draw added -/
theorem dm_addE {x : Int} {W : Int → Prop} (ha : Ev t ρ (.int x) k) (hb : Dm u ρ fun d => ∃ r, d = .int r ∧ W r) : Dm (wBin bAdd t u) ρ (fun d => ∃ r, d = .int (x + r) ∧ W r) := fun Q q => ha _ (hb _ fun d ⟨r, e, h⟩ => by
  subst e
  show oB (bAdd (.int x) (.int r)) _
  rw [bAdd_i]; exact q _ ⟨r, rfl, h⟩)
end
end VL

namespace VL
open PySem PySem.Spec PyProof.Rows L2
open Evl (Ex)
variable {K : PySem.W.Frag}
/-! ### d.update(e), e a new dict -/
def tUpd (td ty : TE) : TE := fun σ H Q => td σ H fun x H1 => ∃ a, x = .ref a ∧ IsD H1 a ∧ ty σ H1 fun y H2 => ∃ b kvs more, y = .ref b ∧ H2 a = some (.dK kvs) ∧ H2 b = some (.dK more) ∧ a ≠ b ∧ kvs.length + more.length ≤ sizeLine ∧ Q .non (upd H2 a (.dK (mergeK kvs more)))
theorem len_merge : ∀ (more kvs : List (Key × V)), (mergeK kvs more).length ≤ kvs.length + more.length
  | [], kvs => by simp [mergeK]
  | (k, v) :: more, kvs => by
    have a := len_merge more (putK kvs k v)
    have b := length_putK kvs k v
    show (mergeK (putK kvs k v) more).length ≤ _
    rw [List.length_cons]
    omega
theorem pe_upd {X : Cx} {o e : Expr} {apos cpos : Pos} {td ty : TE} (ho : PE X o td) (he : PE X e ty) (m : M1 X o "update" apos e cpos) : PE X (.Call (.Attribute o "update" apos) [e] [] cpos) (tUpd td ty) := by
  refine ⟨fun pins s σ H Q I h => ?_⟩
  refine wpAny_Call_method m.base m.few m.line PySem.F.plainAttrs_dict PySem.F.slot_dict_update PySem.F.type_dict_update (thn (ho.run pins s σ H _ I h) fun u s1 ⟨x, H1, I1, rx, a, ex, d, q1⟩ => ?_)
  subst ex
  obtain rfl : u = Value.ref a := rx
  obtain ⟨t1, t2, _⟩ := isD_at I1 d
  refine ⟨t1, t2, ?_⟩
  rw [m.trees]
  refine Calls.callWith_builtin rfl (Calls.evalArgs_plain (Calls.spliced_cons (thn (he.run pins s1 σ H1 _ I1 q1) fun iv s2 ⟨y, H2, I2, ry, b, kvs, more, ey, ha, hb, ne, hl, q2⟩ => Calls.spliced_nil ?_)))
  subst ey
  obtain rfl : iv = Value.ref b := ry
  obtain ⟨z1, n1, vs, r1, d1⟩ := dk_of I2.hok ha
  obtain ⟨z2, n2, us, r2, d2⟩ := dk_of I2.hok hb
  have l1 : kvs.length = vs.length := Paired.length r1
  have l2 : more.length = us.length := Paired.length r2
  refine call_meetsIn PySem.F.slot_dict_update d1.typeIs PySem.F.entry_dict_update (PySem.F.args_dict_update_2 _ _) (meets_dict_update (mixKind X.prog X.w) a b ne n2) ⟨vs, us, d1, d2, by rw [← l1, ← l2]; exact hl, fun h' m1 _ same => ?_⟩
  have hx : ∃ ob, h'.get? a = some ob := let ⟨ob, _, _, g, _⟩ := m1; ⟨ob, g⟩
  exact ⟨.non, _, d_write I2 (by rw [ha]; exact True.intro) same hx (dk_new (Nat.le_trans (len_merge more kvs) hl) n1 (KV.merge r2 r1) m1), rfl, q2⟩
def wUpd (j : Nat) (w : WE) : WS := fun P ρ => (∃ es, ρ[j]? = some (.ow (.dk es))) ∧ w ρ fun d k ρ1 => match ρ1[j]?, d, k with
  | some (.ow (.dk es)), .dk more, .nw => es.length + more.length ≤ LIM ∧ P.nx (ρ1.set j (.ow (.dk (mergeD es more))))
  | _, _, _ => False
theorem snd_upd {j : Nat} {te : TE} {w : WE} (h : SndE K te w) : SndS K (tDrop (tUpd (tVar j) te)) (wUpd j w) := fun b P E G ρ σ H e s hq => by
  obtain ⟨⟨es0, e0⟩, hq⟩ := hq
  obtain ⟨a, h1, h2, h3, h4, vs0, h5, h6⟩ := s.ow j _ e0
  refine ⟨_, h1, a, rfl, .inl ⟨_, .inl h5⟩, ?_⟩
  refine h b G ρ σ H _ _ s hq fun d k ρ' v G' H' q x s' r => ?_
  split at q
  · rename_i es more e2
    obtain ⟨a', c1, c2, c3, c4, vs, c6, c7⟩ := s'.ow j _ e2
    rw [h1] at c1; cases c1
    obtain ⟨a2, rfl, o1, o2, o3, us, o4, o5⟩ := r
    have ne : a ≠ a2 := fun z => by
      subst z
      rw [hd_ne h2, h5] at o1; cases o1
    have l1 : vs.length = es.length := RpK.length c7
    have l2 : us.length = more.length := RpK.length o5
    exact ⟨a2, vs, us, rfl, c6, o4, ne, by rw [l1, l2]; exact lim_le q.1, e.nx _ σ G' _ q.2 (s'.put e2 h1 ⟨_, upd_same, RpK.merge o5 c7⟩)⟩
  · exact q.elim
theorem s_upd {X : Cx} {e : Expr} {te : TE} {w : WE} {n : Str} {np ap cp pos : Pos} (i : Nat) (he : SE X e te w) (hN : X.N[i]? = some n := by rfl) (hv : Vis X.env.scope n := by first | exact Or.inl rfl | exact Or.inr (Or.inl rfl) | exact Or.inr (Or.inr rfl)) (hd : (n == ("__debug__" : Str)) = false := by decide) (hcd : (n == ("__classdict__" : Str)) = false := by decide)
    (h1 : attributeBase (.Name n np) "update" X.env (eval (.Name n np) X.env) = eval (.Name n np) X.env := by rfl)
    (h2 : ((backTo cp (starEach [e] X.env)).all (fun x => !x.1) && (backToKw cp (keywordEach [] X.env)).all (fun x => x.1.isSome) && decide (([e] : List Expr).length + ([] : List Keyword).length + (if ([] : List Keyword).isEmpty then 0 else 1) < 30)) = true := by rfl)
    (h3 : (ap.endLine == cp.line) = true := by rfl) (h4 : backTo cp (starEach [e] X.env) = [(false, eval e X.env)] := by rfl) :
    SS X (.Expr (.Call (.Attribute (.Name n np) "update" ap) [e] [] cp) pos) (tDrop (tUpd (tVar i) te)) (wUpd i w) :=
  ⟨ps_expr (pe_upd (pe_var hN hv hd hcd) he.pe ⟨h1, h2, h3, h4⟩), snd_upd he.snd⟩
end VL

/-! VQ0: sets of keys (ints and texts) that can be walked. -/
namespace VL
open PySem PySem.Spec PyProof.Rows L2
open Evl (Ex)

/-- a table by whose slots a walk goes -/
def Wk (w : World) (t : SetTable) : Prop := Ris t.place.toList ∧ (w.params.followText "set-order" = true ∨ t.led = true)
def eKey (e : Int × Value) : Key := match e.2 with
  | .int k _ => .inl k
  | .str x _ => .inr x
  | _ => .inl 0
def KEnt (w : World) (e : Int × Value) : Prop := keyIs (eKey e) e.2 = true ∧ e.1 = keyH w (eKey e)
theorem eKey_of {k : Key} {e : Int × Value} (h : keyIs k e.2 = true) : eKey e = k := by
  obtain ⟨c, v⟩ := e
  rcases keyIs_shape h with ⟨i, t, rfl, q⟩ | ⟨x, t, rfl, q⟩ <;> (simp only at q; subst q; rfl)
theorem kent_scan {w : World} {e : Int × Value} (h : KEnt w e) : e.2.scannable = true := by
  obtain ⟨c, v⟩ := e
  rcases keyIs_shape h.1 with ⟨i, t, _, q⟩ | ⟨x, t, _, q⟩ <;> (simp only at q; subst q; rfl)
theorem kent_is {w : World} {e : Int × Value} (h : KEnt w e) (P : Program) (k : Key) : (mixKind P w).is k e.2 = true ↔ eKey e = k := by
  rw [mixKind_is]
  exact ⟨eKey_of, fun q => q ▸ h.1⟩
theorem kent_els {w : World} {l : List (Int × Value)} (P : Program) (h : ∀ e ∈ l, KEnt w e) : ElemsOf (mixKind P w) l := fun e he => ⟨⟨eKey e, (kent_is (h e he) P _).2 rfl, (h e he).2⟩, kent_scan (h e he)⟩
/-- at a there lies a set of these keys, in an order of its own -/
def SetM (w : World) (h : Heap) (a : Addr) (ks : List Key) : Prop :=
  ∃ o es ep t, h.get? a = some o ∧ o.ExactSet ∧ o.data = .set es ep t ∧ ((∀ e ∈ es.toList, KEnt w e) ∧ (es.toList.map eKey).Perm ks ∧ ks.Nodup) ∧ (es.size < scanBound ∧ t.fits es.size = true) ∧ Wk w t
theorem SetM.to {w : World} {h h' : Heap} {a : Addr} {ks : List Key} (R : SetM w h a ks) (k : ∀ o, h.get? a = some o → h'.get? a = some o) : SetM w h' a ks :=
  let ⟨o, es, ep, t, ho, r⟩ := R; ⟨o, es, ep, t, k o ho, r⟩
theorem setM_len {w : World} {h : Heap} {a : Addr} {ks : List Key} (R : SetM w h a ks) : ks.length < scanBound := by
  obtain ⟨o, es, ep, t, _, _, _, ⟨_, pm, _⟩, ⟨hb, _⟩, _⟩ := R
  rw [← pm.length_eq, List.length_map, Array.length_toList]; exact hb
section
variable {P : Program} {w : World} {A : Around} {E : Value → Shared → Prop} {s : Shared} {a : Addr} {ks : List Key}

/-- the new table is stored, and laid anew where it is too full -/
theorem setM_end {f : Bool → Sem Unit} (hf : ∀ (b : Bool) (s₁ : Shared) (Q' : Unit → Shared → Prop), Q' () s₁ → wpAny (model P w) A (f b) Q' E s₁)
    {o : Obj} {es es1 : Array (Int × Value)} {ep : Nat} {t t1 : SetTable} (ho : s.heap.get? a = some o) (hx : o.ExactSet) (hd : o.data = .set es ep t)
    (all : (∀ e ∈ es1.toList, KEnt w e) ∧ (es1.toList.map eKey).Perm ks ∧ ks.Nodup) (room : es1.size < scanBound) (fit : t1.fits es1.size = true) (hw : Wk w t1) {wd : Bool} {R : Option Bool → Shared → Prop}
    (hR : ∀ h', Heap.SameBut a s.heap h' → SetM w h' a ks → R (some true) { s with heap := h' }) :
    wpAny (model P w) A (do
        storeSet a es1 t1
        if (!wd && t1.tooFull) = true then do
            f (relayAll t1 es1 (SetTable.grown es1.size)).2.2
            storeSet a (relayAll t1 es1 (SetTable.grown es1.size)).1 (relayAll t1 es1 (SetTable.grown es1.size)).2.1
            pure (some true)
          else pure (some true)) R E s := by
  have z1 := store_at (es' := es1) (t' := t1) ho hd
  have c1 := Heap.SameBut.update s.heap a (Obj.putSet es1 t1)
  refine wpAny_bind (wpAny_storeSet_of ho hd ?_ (fits_of_scanBound room))
  split
  · have y1 := relayAll_perm t1 es1 (SetTable.grown es1.size)
    have y2 := relayAll_fits t1 es1 (SetTable.grown es1.size)
    have y3 := relayAll_ris t1 es1 (SetTable.grown es1.size)
    have y4 := relayAll_led t1 es1 (SetTable.grown es1.size)
    generalize relayAll t1 es1 (SetTable.grown es1.size) = Z at y1 y2 y3 y4 ⊢
    obtain ⟨es2, t2, b⟩ := Z
    simp only at y1 y2 y3 y4 ⊢
    have y5 : es2.size < scanBound := by
      have := y1.length_eq
      rw [Array.length_toList, Array.length_toList] at this
      rw [this]; exact room
    refine wpAny_bind (hf _ _ _ (wpAny_bind (wpAny_storeSet_of z1 rfl (wpAny_pure (hR _ (c1.trans (Heap.SameBut.update _ a _)) ?_)) (fits_of_scanBound y5))))
    exact ⟨_, es2, _, t2, store_at (es' := es2) (t' := t2) z1 rfl, hx, rfl, ⟨fun e he => all.1 e (y1.mem_iff.mp he), (y1.map eKey).trans all.2.1, all.2.2⟩, ⟨y5, y2⟩, y3, hw.2.imp_right fun q => y4.trans q⟩
  · exact wpAny_pure (hR _ c1 ⟨_, es1, _, t1, z1, hx, rfl, all, ⟨room, fit⟩, hw⟩)
/-- a key laid to those that lie there -/
def addK (ks : List Key) (k : Key) : List Key := if ks.any (fun j => decide (j = k)) = true then ks else ks ++ [k]
theorem addK_in {ks : List Key} {k : Key} (h : k ∈ ks) : addK ks k = ks := if_pos (List.any_eq_true.mpr ⟨k, h, decide_eq_true rfl⟩)
theorem addK_out {ks : List Key} {k : Key} (h : k ∉ ks) : addK ks k = ks ++ [k] := if_neg fun q => by
  obtain ⟨j, hj, e⟩ := List.any_eq_true.mp q
  exact h (of_decide_eq_true e ▸ hj)
theorem setM_add {k : Key} {v : Value} {Q : Bool → Shared → Prop} (hk : keyIs k v = true) (R : SetM w s.heap a ks) (room : ks.length + 1 < scanBound)
    (hQ : ∀ b h', Heap.SameBut a s.heap h' → SetM w h' a (addK ks k) → Q b { s with heap := h' }) :
    wpAny (model P w) A (setAddHashed a v ((mixKind P w).hash k)) Q E s := by
  obtain ⟨o, es, ep, t, ho, hx, hd, ⟨al, pm, nd⟩, ⟨hb, hf⟩, hw⟩ := R
  have el : ElemsOf (mixKind P w) es.toList := kent_els P al
  have sc : v.scannable = true := kent_scan (w := w) (e := (keyH w k, v)) ⟨by rw [eKey_of (e := (keyH w k, v)) hk]; exact hk, by rw [eKey_of (e := (keyH w k, v)) hk]⟩
  have ek : eKey (keyH w k, v) = k := eKey_of hk
  unfold setAddHashed setAddHashedIn
  refine wpAny_holding (wpAny_bind (wpAny_setState_of ho hd hf ?_))
  simp only [byScan_of sc hb el, ↓reduceIte]
  unfold setAddByScan
  refine wpAny_bind (wpAny_bind (wpAny_rule (wpAny_bind (wpAny_setScan_of (knd := mixKind P w) hk ho hd hf el ?_))))
  cases fi : es.toList.findIdx? (fun e => (mixKind P w).is k e.2) with
  | some j =>
    obtain ⟨hj, pj, _⟩ := List.findIdx?_eq_some_iff_getElem.mp fi
    have hm : k ∈ ks := by
      refine pm.mem_iff.mp (List.mem_map.mpr ⟨es.toList[j], List.getElem_mem hj, ?_⟩)
      exact (kent_is (al _ (List.getElem_mem hj)) P k).1 pj
    refine wpAny_pure (wpAny_pure (hQ _ s.heap (Heap.SameBut.refl a s.heap) ?_))
    rw [addK_in hm]
    exact ⟨o, es, ep, t, ho, hx, hd, ⟨al, pm, nd⟩, ⟨hb, hf⟩, hw⟩
  | none =>
    have hn : k ∉ ks := fun hm => by
      obtain ⟨e, he, q⟩ := List.mem_map.mp (pm.mem_iff.mpr hm)
      have := List.findIdx?_eq_none_iff.mp fi e he
      rw [(kent_is (al e he) P k).2 q] at this; cases this
    have gw : ∀ (b : Bool) {s₁ : Shared} {Q' : Unit → Shared → Prop}, Q' () s₁ → wpAny (model P w) A (match b with | true => rule "set.scan.the-table-gave-way" | false => pure ()) Q' E s₁ := fun b s₁ Q' q => by
      cases b
      · exact wpAny_pure q
      · exact wpAny_rule q
    have y1 := layNew_perm t es (keyH w k) v
    have y2 := layNew_fits t es (keyH w k) v
    have y3 := layNew_ris t es (keyH w k) v hw.1
    have y4 := layNew_led t es (keyH w k) v
    show wpAny (model P w) A _ _ _ _
    have hh : (mixKind P w).hash k = keyH w k := rfl
    simp only [hh]
    generalize layNew t es (keyH w k) v = Z at y1 y2 y3 y4 ⊢
    obtain ⟨es1, t1, wd, b⟩ := Z
    simp only at y1 y2 y3 y4 ⊢
    have p1 : es1.toList.Perm ((keyH w k, v) :: es.toList) := (by rw [Array.toList_push] at y1; exact y1.trans (List.perm_append_singleton _ _))
    have a1 : (∀ e ∈ es1.toList, KEnt w e) ∧ (es1.toList.map eKey).Perm (addK ks k) ∧ (addK ks k).Nodup := by
      refine ⟨fun e he => ?_, ?_, ?_⟩
      · rcases List.mem_cons.mp (p1.mem_iff.mp he) with rfl | q
        · exact ⟨by rw [ek]; exact hk, by rw [ek]⟩
        · exact al e q
      · have := p1.map eKey
        rw [List.map_cons, ek] at this
        rw [addK_out hn]
        exact (this.trans (pm.cons k)).trans (List.perm_append_singleton k ks).symm
      · rw [addK_out hn]
        exact (List.perm_append_singleton k ks).nodup_iff.mpr (List.nodup_cons.mpr ⟨hn, nd⟩)
    have b1 : es1.size < scanBound := by
      have q := a1.2.1.length_eq
      rw [List.length_map, Array.length_toList, addK_out hn, List.length_append] at q
      rw [q]; exact room
    have w1 : Wk w t1 := ⟨y3, hw.2.imp_right fun q => y4.trans q⟩
    have fin : ∀ h', Heap.SameBut a s.heap h' → SetM w h' a (addK ks k) → Q true { s with heap := h' } := fun h' => hQ true h'
    refine wpAny_bind (gw _ ?_)
    split
    · refine wpAny_bind ?_
      rw [hashByValue_scannable 8 sc]
      refine wpAny_pure (setM_end (ks := addK ks k) (fun b s₁ Q' q => gw b q) ho hx hd a1 b1 ?_ ?_ fun h' sb r => wpAny_pure (fin h' sb r))
      · split
        · exact y2
        · exact SetTable.fits_plain_off y2
      · split
        · exact w1
        · exact ⟨w1.1, w1.2⟩
    · refine wpAny_bind (wpAny_pure ?_)
      simp only [↓reduceIte]
      exact setM_end (ks := addK ks k) (fun b s₁ Q' q => gw b q) ho hx hd a1 b1 y2 w1 fun h' sb r => wpAny_pure (fin h' sb r)
end
end VL

/-! VQ1: set(xs) of a list of keys. -/
namespace VL
open PySem PySem.Spec PyProof.Rows L2
open Evl (Ex)
def metK (ks : List Key) : List Key := ks.foldl addK []
theorem addK_len (ks : List Key) (k : Key) : (addK ks k).length ≤ ks.length + 1 := by
  unfold addK
  split
  · omega
  · simp
theorem met_len : ∀ (ks acc : List Key), (ks.foldl addK acc).length ≤ acc.length + ks.length
  | [], acc => Nat.le_refl _
  | k :: ks, acc => by
    have a := met_len ks (addK acc k)
    have b := addK_len acc k
    rw [List.foldl_cons, List.length_cons]
    omega
theorem met_step {ks : List Key} {i : Nat} {k : Key} (h : ks[i]? = some k) : (ks.take (i + 1)).foldl addK [] = addK ((ks.take i).foldl addK []) k := by
  rw [List.take_succ, h, List.foldl_append] <;> rfl
section
variable {P : Program} {w : World} {A : Around} {R : Result → Shared → Prop} {I : Addr} {fp wr : List Addr} {G : Array GenState → Array GenState → Prop} {n : Nat} {Pv : Nat → Value → Prop} {St : Nat → Shared → Prop}
/-- the walk of an update lays key behind key -/
theorem loopM (W : WalksS P w A.in1 I fp wr G n Pv St) (S : Addr) (out : S ∉ fp) (ks : List Key) (len : ks.length = n) (room : n + 1 < scanBound) (hv : ∀ i v, Pv i v → ∃ k, ks[i]? = some k ∧ keyIs k v = true) :
    ∀ (m i : Nat) (s : Shared), n - i = m → i ≤ n → St i s → SetM w s.heap S ((ks.take i).foldl addK []) →
      (∀ s', Moved (S :: wr) G s s' → SetM w s'.heap S (metK ks) → R (.ok (.ret .none)) s') → codeAny (model P w) A (.builtin "set.update.loop" ⟨[.ref S, .ref I], []⟩) R s := by
  have up : ∀ b ∈ wr, b ∈ S :: wr := fun b hb => List.mem_cons_of_mem _ hb
  have ow : S ∉ wr := fun q => out (W.sub _ q)
  intro m
  induction m with
  | zero =>
    intro i s e1 e2 st M q
    obtain rfl : i = n := by omega
    refine codeAny_builtin PyProof.Rows.F.entry_set_update_loop ?_
    rw [Around.under_plainId PyProof.Rows.F.plain_set_update_loop _]
    show wpAny _ A.in1 (pyNext (.ref I) >>= _) _ _ s
    refine wpAny_bind (W.done s _ _ st fun s1 mv => wpAny_pure (q s1 (mv.mono up) ?_))
    have := M.to (h' := s1.heap) fun o => mv.heap S o ow
    rw [← len, List.take_length] at this
    exact this
  | succ m ih =>
    intro i s e1 e2 st M q
    have hi : i < n := by omega
    refine codeAny_builtin PyProof.Rows.F.entry_set_update_loop ?_
    rw [Around.under_plainId PyProof.Rows.F.plain_set_update_loop _]
    show wpAny _ A.in1 (pyNext (.ref I) >>= _) _ _ s
    refine wpAny_bind (W.item i s _ _ hi st fun v s1 hp st1 mv => ?_)
    obtain ⟨k, hk, kv⟩ := hv i v hp
    show wpAny _ A.in1 (holding [v] (setAdd S v) >>= _) _ _ s1
    refine wpAny_bind (wpAny_holding ?_)
    unfold setAdd
    refine wpAny_holding (wpAny_bind ((mixKind P w).pyHash (k := k) kv ?_))
    have l1 := met_len (ks.take i) []
    have l2 : (ks.take i).length ≤ i := by rw [List.length_take]; omega
    refine setM_add (s := { s1 with toks := s1.toks + 1 }) kv (M.to fun o => mv.heap S o ow) (by simp only [List.length_nil] at l1; omega) fun b h1 sb M1 => ?_
    rw [← met_step hk] at M1
    refine wpAny_pure ⟨plainId_quiet PyProof.Rows.F.plain_set_update_loop _, ih (i + 1) _ (by omega) hi (W.frame _ s1 _ _ st1 (Nat.le_succ _) fun c hc o e => ?_) M1 fun s2 mv2 M2 => ?_⟩
    · rw [sb.2 c (fun z : c = S => out (z ▸ hc))]; exact e
    · refine q s2 (Moved.trans W.gtrans ((mv.mono up).then_heap (Nat.le_succ _) fun c o hc e => ?_) mv2) M2
      rw [sb.2 c (fun z : c = S => hc (by rw [z]; exact List.mem_cons_self))]; exact e
end
section
variable {P : Program} {w : World} {A : Around} {E : Value → Shared → Prop} {s : Shared}
/-- a new empty set, as the walk order's setting has it -/
def emptyS (w : World) : Obj := { cls := .type "set", dict := none, data := .set #[] 0 (.fresh 0 0 (!w.params.followText "set-order")) }
theorem code_setM (a : Value) {Q : Value → Shared → Prop} (h : Q (.ref s.heap.objs.size) { s with heap := s.heap.push (emptyS w) }) :
    codeAny (model P w) A (.call (.builtin "set.__new__") ⟨[.type "set", a], []⟩) (wants Q E) s := by
  refine codeAny_of_tree ?_
  show wpAny _ A.in1 (do checkBuiltinCall "set.__new__" ⟨[.type "set", a], []⟩; again (.builtin "set.__new__" ⟨[.type "set", a], []⟩)) _ _ s
  refine wpAny_bind (wpAny_of_eq (PySem.F.newCall_set_1 a) (wpAny_pure ⟨plainId_quiet PySem.F.plain_set_new _, codeAny_builtin PySem.F.entry_set_new ?_⟩))
  rw [Around.under_plainId PySem.F.plain_set_new _]
  unfold Builtin.«set.__new__» Builtin.Frozenset.newClass
  have sub := sub_set_self
  obtain ⟨hp, g, d, tk, os⟩ := s
  dsimp only
  wp_walk
  refine wpAny_askSetting (wpAny_pure ?_)
  dsimp only
  simp only [newObj]
  exact wpAny_bind (wpAny_alloc (wpAny_pure (wpAny_pure h)))
theorem setM_empty (w : World) (h : Heap) : SetM w (h.push (emptyS w)) h.objs.size [] := by
  obtain ⟨o, es, ep, t, ho, hx, hd, g, nd, hm, hb, hf, hn, hr, hl⟩ := setR_fresh (h := h) w
  have e : es.toList = [] := List.length_eq_zero_iff.mp (by rw [Array.length_toList]; exact hn)
  exact ⟨o, es, ep, t, ho, hx, hd, ⟨fun x hx => (by rw [e] at hx; cases hx), by rw [e]; exact List.Perm.refl _, List.nodup_nil⟩, ⟨hb, hf⟩, hr, hl⟩
end
end VL

/-! VQ2: set(xs) called; sorted of it. -/
namespace VL
open PySem PySem.Spec PyProof.Rows L2
open Evl (Ex)
section
variable {P : Program} {w : World} {A : Around} {E : Value → Shared → Prop} {s : Shared}
theorem call_setM {l : Addr} {its : Array Value} {ks : List Key} {Q : Value → Shared → Prop} (hh : A.handled = none) (hl : s.heap.IsList l its) (len : ks.length = its.size)
    (hv : ∀ (i : Nat) (v : Value), its[i]? = some v → ∃ k, ks[i]? = some k ∧ keyIs k v = true) (room : its.size + 1 < scanBound)
    (q : ∀ (h' : Heap) (tk : Nat), SetM w h' s.heap.objs.size (metK ks) → (∀ b o, s.heap.get? b = some o → h'.get? b = some o) → Q (.ref s.heap.objs.size) { s with heap := h', toks := tk }) :
    wpAny (model P w) A (call (.type "set") [.ref l]) Q E s := by
  obtain ⟨c, tl, hmro⟩ := PySem.F.called_set.mro
  have made := PySem.F.called_set.made
  have sub := PySem.F.called_set.sub
  refine wpAny_call (codeAny_of_tree ?_)
  show wpAny _ _ (callAny (.type "set") _) _ _ _
  refine wpAny_pure ⟨Code.quiet_builtin _ (by decide +kernel), codeAny_builtin PySem.F.entry_type_call ?_⟩
  rw [Around.under_plain (weight_type_call_type "set" [.ref l] []) rfl]
  have u1 := PySem.F.called_set.notType
  have u2 := PySem.F.called_set.canCreate
  have u3 := PySem.F.typeCall_set_1 (.ref l)
  repeat (any_goals (first | assumption | wp_step))
  refine codeAny_mono (code_setM (w := w) (.ref l) (E := E) (Q := fun x s1 => x = .ref s.heap.objs.size ∧ s1 = { s with heap := s.heap.push (emptyS w) }) ⟨rfl, rfl⟩) fun r s1 hr => ?_
  cases r with
  | error e => exact hr
  | ok fl =>
    cases fl with
    | ret x =>
      obtain ⟨rfl, rfl⟩ := hr
      have nS : (s.heap.push (emptyS w)).get? s.heap.objs.size = some (emptyS w) := Heap.get?_push_size _ rfl
      have nT : Shared.TypeIs { s with heap := s.heap.push (emptyS w) } (.ref s.heap.objs.size) "set" := ⟨_, nS, rfl⟩
      have u4 := PySem.F.called_set.init.lookup
      have u5 := PySem.F.called_set.init.bind (.ref s.heap.objs.size)
      repeat (any_goals (first | assumption | wp_step))
      refine codeAny_mono (codeAny_call_builtin (R := wants (fun r s2 => r = .none ∧ ∃ h' tk, s2 = { s with heap := h', toks := tk } ∧ SetM w h' s.heap.objs.size (metK ks) ∧ (∀ b o, s.heap.get? b = some o → h'.get? b = some o)) E)
        PySem.F.called_set.init.plain PySem.F.entry_set_init (check_set_init_1 nT ?_)) fun r2 s2 hr2 => ?_
      · obtain ⟨⟨oc, od, dt, os⟩, ol, cl, nl, dl⟩ := hl
        simp only at cl dl
        subst cl; subst dl
        have ol' : (s.heap.push (emptyS w)).get? l = some { cls := .type "list", dict := od, data := .seq its nl, slots := os } := Heap.get?_push_of_some _ ol
        have v1 := PySem.F.sub_list_set
        have v2 := PySem.F.sub_list_frozenset
        have v3 : (Value.type "list" == Value.type "dict") = false := by decide
        have l1 : (s.heap.push (emptyS w)).IsList l its := ⟨_, ol', rfl, nl, rfl⟩
        unfold Builtin.«set.__init__» noKeywords Builtin.Frozenset.updateFrom
        generalize hPI : pyIter = PI
        wp_walk
        subst hPI
        refine wpAny_pyIter_list l1 (wpAny_bind (wpAny_runValue ?_))
        have lS : l < s.heap.objs.size := Heap.lt_size ol
        have z1 : (s.heap.push (emptyS w)).objs.size = s.heap.objs.size + 1 := size_push' _ _
        have nI : l ≠ (s.heap.push (emptyS w)).objs.size := by rw [z1]; exact Nat.ne_of_lt (Nat.lt_succ_of_lt lS)
        have nF : s.heap.objs.size ∉ [(s.heap.push (emptyS w)).objs.size, l] := by
          rw [z1]
          simp only [List.mem_cons, List.not_mem_nil, or_false, not_or]
          exact ⟨Nat.ne_of_lt (Nat.lt_succ_self _), Nat.ne_of_gt lS⟩
        refine loopM (w := w) ((Walks.list (by simp [hh]) _ l nI its).toS) s.heap.objs.size nF ks len room (fun i v hiv => hv i v hiv) (its.size - 0) 0 _ rfl (Nat.zero_le _) ⟨⟨_, Heap.get?_push_size _ rfl, rfl, rfl⟩, l1.push _⟩ ?_ ?_
        · exact (setM_empty w s.heap).to fun o e => Heap.get?_push_of_some _ e
        · intro s2 mv M
          obtain ⟨h2, g2, d2, t2, o2⟩ := s2
          obtain rfl : g2 = s.gens := mv.gens
          obtain rfl : d2 = s.drawn := mv.drawn
          obtain rfl : o2 = s.os := mv.os
          refine wpAny_pure ?_
          show wpAny _ _ (ret Value.none) _ _ _
          refine wpAny_pure ⟨rfl, h2, t2, rfl, M, fun b o e => ?_⟩
          have hb := Heap.lt_size e
          refine mv.heap b o ?_ (Heap.get?_push_of_some _ (Heap.get?_push_of_some _ e))
          simp only [List.mem_cons, List.not_mem_nil, or_false, not_or]
          rw [z1]
          exact ⟨Nat.ne_of_lt hb, Nat.ne_of_lt (Nat.lt_succ_of_lt hb)⟩
      · cases r2 with
        | error e => exact hr2
        | ok fl2 =>
          cases fl2 with
          | ret r =>
            obtain ⟨rfl, h', tk, rfl, M, keep⟩ := hr2
            repeat (any_goals (first | assumption | wp_step))
            exact q _ _ M keep
          | _ => exact hr2.elim
    | _ => exact hr.elim
end
end VL

/-! VQ3: sorted(set(xs)). -/
namespace VL
open PySem PySem.Spec PyProof.Rows L2
open Evl (Ex)
theorem perm_un {α β : Type} {f : α → β} {l m : List β} (p : l.Perm m) : ∀ es : List α, es.map f = m → ∃ xs : List α, xs.Perm es ∧ xs.map f = l := by
  induction p with
  | nil =>
    intro es h
    exact ⟨es, .refl _, h⟩
  | @cons x l m p ih =>
    intro es h
    cases es with
    | nil => cases h
    | cons e es =>
      injection h with h1 h2
      obtain ⟨xs, q1, q2⟩ := ih es h2
      exact ⟨e :: xs, q1.cons e, by rw [List.map_cons, h1, q2]⟩
  | swap x y l =>
    intro es h
    match es, h with
    | a :: b :: es, h =>
      injection h with h1 h2
      injection h2 with h2 h3
      exact ⟨b :: a :: es, .swap a b es, by rw [List.map_cons, List.map_cons, h1, h2, h3]⟩
  | trans p q ih1 ih2 =>
    intro es h
    obtain ⟨ys, a1, a2⟩ := ih2 es h
    obtain ⟨xs, b1, b2⟩ := ih1 ys a2
    exact ⟨xs, b1.trans a1, b2⟩
def dK : D → Key
  | .int i => .inl i
  | .str x => .inr x
  | _ => .inl 0
def dV : D → V
  | .int i => .int i
  | .str x => .str x
  | _ => .non
/-- ints, or texts -/
def Flat (sh : Sh) (ds : List D) : Prop := (sh = .int ∨ sh = .str) ∧ ∀ d ∈ ds, hasSh sh d = true ∧ notEmp d = true
def uniqD (ds : List D) : List D := (metK (ds.map dK)).map kD
theorem kD_dK {sh : Sh} {d : D} (h0 : sh = .int ∨ sh = .str) (h : hasSh sh d = true) : kD (dK d) = d := by
  rcases h0 with rfl | rfl <;> cases d <;> simp [hasSh] at h <;> rfl
theorem met_mem : ∀ (ks acc : List Key) (k : Key), k ∈ ks.foldl addK acc ↔ k ∈ acc ∨ k ∈ ks
  | [], acc, k => by simp
  | j :: ks, acc, k => by
    rw [List.foldl_cons, met_mem ks, List.mem_cons]
    have : k ∈ addK acc j ↔ k ∈ acc ∨ k = j := by
      by_cases h : j ∈ acc
      · rw [addK_in h]
        exact ⟨.inl, fun q => q.elim id fun e => e ▸ h⟩
      · rw [addK_out h, List.mem_append, List.mem_singleton]
    rw [this, or_assoc]
theorem uniq_mem {sh : Sh} {ds : List D} (h : Flat sh ds) (d : D) : d ∈ uniqD ds ↔ d ∈ ds := by
  unfold uniqD metK
  rw [List.mem_map]
  constructor
  · rintro ⟨k, hk, rfl⟩
    obtain ⟨e, he, rfl⟩ := List.mem_map.mp (((met_mem _ _ _).mp hk).resolve_left (by simp))
    rw [kD_dK h.1 (h.2 e he).1]; exact he
  · intro hd
    exact ⟨dK d, (met_mem _ _ _).mpr (.inr (List.mem_map.mpr ⟨d, hd, rfl⟩)), kD_dK h.1 (h.2 d hd).1⟩
theorem uniq_flat {sh : Sh} {ds : List D} (h : Flat sh ds) : Flat sh (uniqD ds) := ⟨h.1, fun d hd => h.2 d ((uniq_mem h d).mp hd)⟩
theorem met_nodup : ∀ (ks acc : List Key), acc.Nodup → (ks.foldl addK acc).Nodup
  | [], acc, h => h
  | j :: ks, acc, h => met_nodup ks _ (by
    by_cases q : j ∈ acc
    · rw [addK_in q]; exact h
    · rw [addK_out q]; exact (List.perm_append_singleton j acc).nodup_iff.mpr (List.nodup_cons.mpr ⟨q, h⟩))
theorem kD_inj {a b : Key} (h : kD a = kD b) : a = b := by
  cases a <;> cases b <;> simp [kD] at h <;> rw [h]
theorem uniq_nodup (ds : List D) : (uniqD ds).Nodup := by
  unfold uniqD
  have := met_nodup (ds.map dK) [] List.nodup_nil
  exact List.pairwise_map.mpr (this.imp fun h e => h (kD_inj e))
theorem rel_key {d : D} {sh : Sh} {v : V} {u : Value} {K : PySem.W.Frag} {G : Hp} (h0 : sh = .int ∨ sh = .str) (h : hasSh sh d = true) (r : Rp K G v d) (q : RelV v u) : keyIs (dK d) u = true ∧ v = dV d := by
  rcases h0 with rfl | rfl <;> cases d <;> simp [hasSh] at h <;> cases r
  · obtain ⟨t, rfl⟩ := q
    exact ⟨keyIs_int _ _, rfl⟩
  · obtain ⟨t, rfl⟩ := q
    exact ⟨keyIs_str _ _, rfl⟩
theorem key_reads {k : Key} {v : Value} {h : Heap} {sh : Sh} (h0 : sh = .int ∨ sh = .str) (q : keyIs k v = true) (z : hasSh sh (kD k) = true) : Reads h v (toPy (kD k)) [] := by
  rcases keyIs_shape q with ⟨i, t, rfl, rfl⟩ | ⟨x, t, rfl, rfl⟩
  · exact .int i t
  · exact .str x t
theorem keys_reads {h : Heap} {sh : Sh} (h0 : sh = .int ∨ sh = .str) : ∀ {l : List (Int × Value)} {w : World}, (∀ e ∈ l, KEnt w e ∧ hasSh sh (kD (eKey e)) = true) → ReadsAll h (l.map (·.2)) (toPys (l.map fun e => kD (eKey e))) []
  | [], _, _ => .nil
  | e :: l, w, z => .cons (as := []) (bs := []) (key_reads h0 (z e (by simp)).1.1 (z e (by simp)).2) (keys_reads h0 (w := w) fun x hx => z x (by simp [hx]))
section
variable {P : Program} {w : World} {A : Around} {E : Value → Shared → Prop} {s : Shared} {a : Addr} {ks : List Key}
theorem sorted_setM {sh : Sh} {Q : Value → Shared → Prop} (M : SetM w s.heap a ks) (hh : A.handled = none) (hs : Flat sh (ks.map kD)) (hu : A.units + 8 < cLine)
    (hQ : ∀ s' p (out : Array Value) (c : Nat), (∀ b o, s.heap.get? b = some o → s'.heap.get? b = some o) → s'.gens = s.gens → s'.os = s.os → s.heap.objs.size ≤ p →
      s'.heap.get? p = some (seqObj "list" out c) → Vals ((isort (ks.map kD)).map dV) out.toList → Q (.ref p) s') :
    wpAny (model P w) A (call (.builtin "sorted") [.ref a]) Q E s := by
  obtain ⟨o, es, ep, t, ho, hx, hd, ⟨al, pm, nd⟩, ⟨hb, hf⟩, hw⟩ := M
  refine Calls.call_function_entry kind_sorted plain_sorted entry_sorted (args_sorted1 _) ?_
  unfold Builtin.«sorted»
  refine wpAny_bind (m := checkCount "sorted" 1 1 _) (wpAny_pure ?_)
  refine wpAny_bind (collect_set (A := A.in1) hh ⟨o, ho, hx.1, hd⟩ hf hb hw.1 hw.2 fun s1 vs k1 hz g1 o1 pv => ?_)
  have lv : vs.length ≤ sizeLine := by
    rw [pv.length_eq, List.length_map, Array.length_toList]
    exact fits_of_scanBound hb
  obtain ⟨xs, px, rfl⟩ : ∃ xs : List (Int × Value), xs.Perm es.toList ∧ xs.map (·.2) = vs := by
    have : vs.Perm (es.toList.map (·.2)) := pv
    exact perm_un this _ rfl
  have ax : ∀ e ∈ xs, KEnt w e ∧ hasSh sh (kD (eKey e)) = true := fun e he => by
    have h1 := px.mem_iff.mp he
    refine ⟨al e h1, (hs.2 _ (List.mem_map.mpr ⟨eKey e, pm.mem_iff.mp (List.mem_map.mpr ⟨e, h1, rfl⟩), rfl⟩)).1⟩
  have kx : (xs.map eKey).Perm ks := (px.map eKey).trans pm
  obtain ⟨d0, h0⟩ : ∃ d0, hasSh sh d0 = true := by
    rcases hs.1 with rfl | rfl
    · exact ⟨.int 0, rfl⟩
    · exact ⟨.str Str.empty, by decide +kernel⟩
  have rd : ∀ h : Heap, ReadsAll h (xs.map (·.2)) (toPys (xs.map fun e => kD (eKey e))) [] := fun h => keys_reads hs.1 (w := w) ax
  have hsx : ∀ d ∈ (xs.map fun e => kD (eKey e)), hasSh sh d = true ∧ notEmp d = true := fun d hd => by
    obtain ⟨e, he, rfl⟩ := List.mem_map.mp hd
    exact hs.2 _ (List.mem_map.mpr ⟨eKey e, kx.mem_iff.mp (List.mem_map.mpr ⟨e, he, rfl⟩), rfl⟩)
  have dep : depSh sh = 0 := by rcases hs.1 with rfl | rfl <;> rfl
  refine wpAny_bind (wpAny_newList ?_ lv)
  have hL : (s1.heap.push (seqObj "list" (xs.map (·.2)).toArray 0)).get? s1.heap.objs.size = some (seqObj "list" (xs.map (·.2)).toArray 0) := Heap.get?_push_size _ rfl
  have hm : (xs.map (·.2)).map (pk s1.heap sh d0) = xs.map fun e => kD (eKey e) := pk_map (fun d hd => (hsx d hd).1) (rd _)
  refine wpAny_bind (wpAny_holding (wpAny_call_entry slot_list_sort ⟨_, hL, rfl⟩ entry_list_sort (SrtO.list_sort_ord (swo_sh (h := s1.heap) h0) hL lv (fun h2 => ?_) fun out q1 q2 => ⟨_, rfl, ?_⟩) (args_list_sort _)))
  · intro h' keep
    refine sh_cmp (s := { s1 with heap := h' }) (rd _) (fun b o e => ?_) (rd _) hsx h2 ?_
    · exact keep b o (Nat.ne_of_lt (Heap.lt_size e)) (Heap.get?_push_of_some _ e)
    · have e : A.in1.in1.units = A.units + 1 + 1 := rfl
      rw [e, dep]; omega
  · obtain ⟨c, hc⟩ := sortedHeap_at (vs := xs.map (·.2)) (out := out.toArray) hL
    have so : out.map (pk s1.heap sh d0) = isort (ks.map kD) := by
      have O := sh_ord sh
      refine srt_uniq O (fun y hy => ?_) ?_ (isort_srt O _ fun y hy => (hs.2 y hy).1) ?_
      · obtain ⟨u, _, rfl⟩ := List.mem_map.mp hy
        exact pk_sh h0 u
      · exact List.pairwise_map.mpr q1
      · have := q2.perm.map (pk s1.heap sh d0)
        rw [hm] at this
        refine this.trans (List.Perm.trans ?_ (isort_perm _).symm)
        have := kx.map kD
        rw [List.map_map] at this
        exact this
    refine wpAny_pure ⟨_, rfl, hQ _ s1.heap.objs.size out.toArray c (fun b u e => ?_) g1 o1 hz hc ?_⟩
    · have q := k1 b u e
      have hlt := Heap.lt_size q
      show (sortedHeap (s1.heap.push (seqObj "list" (xs.map (·.2)).toArray 0)) s1.heap.objs.size (xs.map (·.2)) out.toArray).get? b = some u
      rw [sortedHeap_old (Nat.ne_of_lt hlt) (by rw [size_push']; exact Nat.lt_succ_of_lt hlt)]
      exact Heap.get?_push_of_some _ q
    · rw [← so]
      have mem : ∀ u ∈ out, ∃ e ∈ xs, e.2 = u := fun u hu => List.mem_map.mp (q2.perm.mem_iff.mp hu)
      show Vals ((out.map (pk s1.heap sh d0)).map dV) out
      clear so q1 q2 hc
      induction out with
      | nil => exact .nil
      | cons u out ih =>
        refine .cons ?_ (ih fun z hz => mem z (by simp [hz]))
        obtain ⟨e, he, rfl⟩ := mem u (by simp)
        have e1 : pk s1.heap sh d0 e.2 = kD (eKey e) := pk_eq (ax e he).2 (key_reads hs.1 (ax e he).1.1 (ax e he).2)
        rw [e1]
        rcases keyIs_shape (ax e he).1.1 with ⟨i, t, q1, q2⟩ | ⟨x, t, q1, q2⟩
        · rw [q1, q2]; exact ⟨t, rfl⟩
        · rw [q1, q2]; exact ⟨t, rfl⟩
end
end VL

/-! VQ4: the expression sorted(set(xs)). -/
namespace VL
open PySem PySem.Spec PyProof.Rows L2
open Evl (Ex)
variable {K : PySem.W.Frag}
def tSSet (K : PySem.W.Frag) (ta : TE) : TE := fun σ H Q => ta σ H fun x H1 => ∃ l vs ds sh, x = V.ref l ∧ SqL K H1 l vs ∧ RpL K H1 vs ds ∧ Flat sh ds ∧ ds.length + 1 < scanBound ∧
  ∀ p, H1 p = none → Q (.ref p) (upd H1 p (.lst ((isort (uniqD ds)).map dV)))
theorem rel_keys {G : Hp} {sh : Sh} : ∀ {ds : List D} {vs : List V} {us : List Value}, Flat sh ds → RpL K G vs ds → Vals vs us → ∀ (i : Nat) (v : Value), us[i]? = some v → ∃ k, (ds.map dK)[i]? = some k ∧ keyIs k v = true
  | _, _, _, _, .nil, .nil, i, v, h => by simp at h
  | d :: ds, _, _, f, .cons r rs, .cons q qs, 0, v, h => by
    simp at h; subst h
    exact ⟨dK d, rfl, (rel_key f.1 (f.2 d (by simp)).1 r q).1⟩
  | d :: ds, _, _, f, .cons r rs, .cons q qs, i + 1, v, h => by
    obtain ⟨k, h1, h2⟩ := rel_keys ⟨f.1, fun z hz => f.2 z (by simp [hz])⟩ rs qs i v (by simpa using h)
    exact ⟨k, by simpa using h1, h2⟩
section
variable {X : Cx} {a : Expr} {ta : TE} {t : WE} {p p2 q pos : Pos}
theorem pe_sset (hc : X.calm = true) (hu : X.A.units + 64 < cLine) (hg : Gl X "sorted") (hm : X.mg "sorted" = none) (hg2 : Gl X "set") (hm2 : X.mg "set" = none) (ha : PE X a ta)
    (na : starEach [a] X.env = (false, eval a X.env) :: starEach [] X.env := by rfl) : PE X (.Call (.Name "sorted" p) [.Call (.Name "set" p2) [a] [] q] [] pos) (tSSet X.K ta) := by
  refine ⟨fun pins s σ H Q I h => ?_⟩
  refine Call_ (ld_blt I hg hm (show bootBuiltins "sorted" = some (.builtin "sorted") by decide +kernel) ?_)
  refine PyProof.Rows.callWith_builtin1 (PyProof.Rows.args_cons ?_ rfl) rfl rfl
  refine Call_ (ld_blt I hg2 hm2 (show bootBuiltins "set" = some (.type "set") by decide +kernel) ?_)
  refine PyProof.Rows.callWith_type1 (PyProof.Rows.args_cons (thn (ha.run pins s σ H _ I h) fun v s1 ⟨x, H1, I1, r1, q1⟩ => PyProof.Rows.args_nil ?_) na) na rfl
  obtain ⟨l, vs, ds, sh, rfl, hq, rp, hf, room, q1⟩ := q1
  cases r1
  obtain ⟨its, rv, pl, hz⟩ := I1.list hq
  have e1 : its.toArray.size = ds.length := by
    rw [List.size_toArray, ← rv.length]
    exact rp.length
  refine call_setM (I1.ok.hd hc) pl.isList (ks := ds.map dK) (by rw [List.length_map, e1]) (fun i v e => rel_keys hf rp rv i v (by simpa using e)) (by rw [e1]; exact room) fun h' tk M keep => ?_
  refine PyProof.Rows.args_nil ?_
  refine sorted_setM (s := { s1 with heap := h', toks := tk }) (sh := sh) M (I1.ok.hd hc) (uniq_flat hf) (by omega) fun s2 pp out c k2 g2 o2 hp hg hv => ?_
  have I2 : Inv X pins σ H1 { s1 with heap := h', toks := tk } := I1.kept fun b o e => keep b o e
  have hn : H1 pp = none := I2.hok.fresh hp
  have hlen : ((isort (uniqD ds)).map dV).length ≤ sizeLine := by
    have z1 := met_len (ds.map dK) []
    rw [List.length_map, (isort_perm _).length_eq]
    unfold uniqD metK
    rw [List.length_map]
    simp only [List.length_nil, List.length_map] at z1
    have : scanBound ≤ sizeLine := by decide +kernel
    omega
  have J : Inv X pins σ (upd H1 pp (.lst ((isort (uniqD ds)).map dV))) { ({ s1 with heap := h', toks := tk } : Shared) with heap := s2.heap, gens := s2.gens, drawn := s2.drawn, toks := s2.toks } :=
    Inv.call (s := { s1 with heap := h', toks := tk }) I2 (ch := []) (Un.laid k2 hp hn) (I2.hok.laid k2 hp ⟨hlen, out.toList, c, hv, hg⟩) (by rw [g2]; exact I2.bare) (fun _ z => nomatch z)
  have e : s2 = { s1 with heap := s2.heap, gens := s2.gens, drawn := s2.drawn, toks := s2.toks } := by
    cases s2
    cases s1
    cases o2
    rfl
  rw [e]
  exact ⟨.ref pp, _, J, rfl, q1 pp hn⟩
theorem flat_rp {G : Hp} {sh : Sh} : ∀ {ds : List D}, Flat sh ds → RpL K G (ds.map dV) ds
  | [], _ => .nil
  | d :: ds, f => .cons (by
      have h0 := f.1
      have h := (f.2 d (by simp)).1
      rcases h0 with rfl | rfl <;> cases d <;> simp [hasSh] at h <;> first | exact .int _ | exact .str _) (flat_rp ⟨f.1, fun z hz => f.2 z (by simp [hz])⟩)
def wSortSet (t : WE) : WE := fun ρ Q => t ρ fun d _ ρ1 => ∃ ds sh, d = .lst ds ∧ Flat sh ds ∧ ds.length + 1 < scanBound ∧ Q (.lst (isort (uniqD ds))) .nw ρ1
theorem snd_sset (h : SndE K ta t) : SndE K (tSSet K ta) (wSortSet t) := by
  intro b G ρ σ H Q R s hq k
  refine h b G ρ σ H _ _ s hq fun d kd ρ1 v G1 H1 q1 x1 s1 r1 => ?_
  obtain ⟨ds, sh, rfl, hf, room, q1⟩ := q1
  obtain ⟨l, vs, rfl, e1, e2⟩ := r1.ov s1
  refine ⟨l, vs, ds, sh, rfl, .inl (.inl (hd_le _ _ e1)), e2.mono (s1.sub.trans hd_le), hf, room, fun p hp => ?_⟩
  refine (res_of s1 (fun d k' ρ' v G' H' q x s r => k d k' ρ' v G' H' q (x1.trans x) s (r.back x1.h)) q1).new p _ rfl hp ⟨_, upd_same, ?_⟩
  have fi : Flat sh (isort (uniqD ds)) := ⟨hf.1, fun d hd => (uniq_flat hf).2 d ((isort_perm _).mem_iff.mp hd)⟩
  exact flat_rp fi
theorem c_sortset (hr : Room k X.A) (hm : X.mg "sorted" = none) (hm2 : X.mg "set" = none) (ha : SE X a ta t) (hg : Gl X "sorted" := by rfl) (hg2 : Gl X "set" := by rfl) (hc : X.calm = true := by rfl)
    (na : starEach [a] X.env = (false, eval a X.env) :: starEach [] X.env := by rfl) : SE X (.Call (.Name "sorted" p) [.Call (.Name "set" p2) [a] [] q] [] pos) (tSSet X.K ta) (wSortSet t) :=
  ⟨pe_sset hc (u64 hr) hg hm hg2 hm2 ha.pe na, snd_sset ha.snd⟩
end
end VL

/-! VQ5: sorted(d), list(d) of a dict of keys. -/
namespace VL
open PySem PySem.Spec PyProof.Rows L2
open Evl (Ex)
variable {K : PySem.W.Frag}
theorem srt_chain : ∀ {l : List D} {x : D}, (∀ y ∈ x :: l, hasSh .str y = true) → (∀ p q a b, x :: l = p ++ a :: b :: q → dlt b a = false) → SrtD (x :: l)
  | [], x, _, _ => List.pairwise_singleton _ _
  | y :: l, x, h, c => by
    have O := sh_ord .str
    have ih : SrtD (y :: l) := srt_chain (fun z hz => h z (by simp at hz ⊢; exact .inr hz)) fun p q a b e => c (x :: p) q a b (by rw [e] <;> rfl)
    have hx := h x (by simp)
    have hy := h y (by simp)
    have c0 : dlt y x = false := c [] l x y rfl
    refine List.pairwise_cons.mpr ⟨fun z hz => ?_, ih⟩
    have hz' := h z (by simp at hz ⊢; exact .inr hz)
    rcases List.mem_cons.mp hz with rfl | hz
    · exact c0
    · have c1 := (List.pairwise_cons.mp ih).1 z hz
      cases q : dlt z x with
      | false => rfl
      | true =>
        rcases O.tot x y hx hy with a | a | a
        · rw [O.tr z x y hz' hx hy q a] at c1; cases c1
        · subst a; rw [q] at c1; cases c1
        · rw [a] at c0; cases c0
theorem rising_at : ∀ {l : List Str} {x : Str}, risingS x l = true → ∀ p q a b, x :: l = p ++ a :: b :: q → dlt (.str b) (.str a) = false
  | [], x, _, p, q, a, b, e => by
    have := congrArg List.length e
    simp at this
    omega
  | y :: l, x, h, p, q, a, b, e => by
    have h' : (!ltCps y.cps.toList x.cps.toList) = true ∧ risingS y l = true := by simpa [risingS] using h
    cases p with
    | nil =>
      simp at e
      obtain ⟨rfl, rfl, rfl⟩ := e
      have := h'.1
      rw [ltCps_eq] at this
      simpa [dlt] using this
    | cons z p =>
      injection e with e1 e2
      exact rising_at h'.2 p q a b e2
theorem srt_strs {ys : List Str} (h : sortedS ys = true) (hs : ∀ y ∈ ys, hasSh .str (.str y) = true) : SrtD (ys.map .str) := by
  cases ys with
  | nil => exact List.Pairwise.nil
  | cons x l =>
    refine srt_chain (x := .str x) (l := l.map .str) (fun z hz => ?_) fun p q a b e => ?_
    · obtain ⟨y, hy, rfl⟩ := List.mem_map.mp (show z ∈ (x :: l).map D.str from hz)
      exact hs y hy
    · obtain ⟨p1, r1, e1, rfl, e2⟩ := List.map_eq_append_iff.mp (show (x :: l).map D.str = p ++ (a :: b :: q) from e)
      obtain ⟨a1, r2, rfl, rfl, e3⟩ := List.map_eq_cons_iff.mp e2
      obtain ⟨b1, r3, rfl, rfl, e4⟩ := List.map_eq_cons_iff.mp e3
      exact rising_at (show risingS x l = true from h) p1 r3 a1 b1 e1
def rSortKD : List V → Hp → VK → Prop := fun xs H Q => ∃ (a : Addr) (kvs : List (Key × V)) (ks : List Str), xs = [.ref a] ∧ Rd H a (.dK kvs) ∧ kvs.map (·.1) = ks.map Sum.inr ∧ ks.length < 64 ∧
    ∀ ys p, ys.Perm ks → sortedS ys = true → H p = none → Q (.ref p) (upd H p (.lst (ys.map V.str)))
theorem rpk_keys {G : Hp} : ∀ {kvs : List (Key × V)} {es : List (Key × D)}, RpK K G kvs es → kvs.map (·.1) = es.map (·.1)
  | _, _, .nil => rfl
  | _, _, .cons a r => by rw [List.map_cons, List.map_cons, rpk_keys r]
def PSortK (ds : List D) (z : D) (k : Kd) : Prop := ∃ (es : List (Key × D)) (ks : List Str), ds = [.dk es] ∧ es.map (·.1) = ks.map Sum.inr ∧ ks.length < 64 ∧ (∀ x ∈ ks, hasSh .str (.str x) = true) ∧ z = .lst (isort (keysD es)) ∧ k = .nw
theorem strs_rp {G : Hp} : ∀ ys : List Str, RpL K G (ys.map V.str) (ys.map D.str)
  | [] => .nil
  | y :: ys => .cons (.str y) (strs_rp ys)
theorem snd_sortK : ClP K rSortKD PSortK := fun G B H vs ds z k R g g2 o p r => by
  obtain ⟨es, ks, rfl, hk, h64, hs, rfl, rfl⟩ := p
  cases o with
  | cons o1 o2 =>
    cases o2
    obtain ⟨a, kvs, rfl, t, l⟩ := o1
    refine ⟨a, kvs, ks, rfl, rd_mono g2 t, by rw [rpk_keys l, hk], h64, fun ys p pm ss hp => r.new p _ rfl hp ?_⟩
    have hy : ∀ y ∈ ys, hasSh .str (.str y) = true := fun y hy => hs y (pm.mem_iff.mp hy)
    have e0 : keysD es = ks.map .str := by
      have : keysD es = (es.map (·.1)).map kD := by unfold keysD; rw [List.map_map]; rfl
      rw [this, hk, List.map_map]; rfl
    have e : isort (keysD es) = ys.map D.str := by
      rw [e0]
      refine (srt_uniq (sh_ord .str) (fun y hy' => ?_) (srt_strs ss hy) (isort_srt (sh_ord .str) _ fun y hy' => ?_) ((pm.map D.str).trans (isort_perm _).symm)).symm
      · obtain ⟨x, hx, rfl⟩ := List.mem_map.mp hy'
        exact hy x hx
      · obtain ⟨x, hx, rfl⟩ := List.mem_map.mp hy'
        exact hs x hx
    rw [e]
    exact ⟨_, upd_same, strs_rp ys⟩
def rListKD : List V → Hp → VK → Prop := fun xs H Q => ∃ (a : Addr) (kvs : List (Key × V)), xs = [.ref a] ∧ Rd H a (.dK kvs) ∧ ∀ p, H p = none → Q (.ref p) (upd H p (.lst (kvs.map fun kv => kV kv.1)))
def PListK (ds : List D) (z : D) (k : Kd) : Prop := ∃ es : List (Key × D), ds = [.dk es] ∧ z = .lst (keysD es) ∧ k = .nw
theorem keys_rp {G G' : Hp} : ∀ {kvs : List (Key × V)} {es : List (Key × D)}, RpK K G kvs es → RpL K G' (kvs.map fun kv => kV kv.1) (keysD es)
  | _, _, .nil => .nil
  | _, _, .cons a r => .cons (kD_rp _) (keys_rp r)
theorem snd_listK : ClP K rListKD PListK := fun G B H vs ds z k R g g2 o p r => by
  obtain ⟨es, rfl, rfl, rfl⟩ := p
  cases o with
  | cons o1 o2 =>
    cases o2
    obtain ⟨a, kvs, rfl, t, l⟩ := o1
    exact ⟨a, kvs, rfl, rd_mono g2 t, fun p hp => r.new p _ rfl hp ⟨_, upd_same, keys_rp l⟩⟩
section
variable {X : Cx} {e : Expr} {es : List Expr} {xa : TA} {x : WA} {pp pos : Pos}
theorem c_sortK (hr : Room k X.A) (hm : X.mg "sorted" = none) (ha : SO X (e :: es) xa x) (hg : Gl X "sorted" := by rfl) (he : starEach (e :: es) X.env = (false, eval e X.env) :: starEach es X.env := by rfl) (hpl : (backTo pos (starEach es X.env)).any (·.1) = false := by rfl) (hc : X.calm = true := by rfl) : SE X (.Call (.Name "sorted" pp) (e :: es) [] pos) (tCB rSortKD xa) (wClP PSortK x) :=
  ⟨pe_callB (call_sortedD hc) hg hm (by decide +kernel) ha.pa (by decide) (by decide) he hpl, snd_clP snd_sortK ha.snd⟩
theorem c_listK (hr : Room k X.A) (hm : X.mg "list" = none) (ha : SO X (e :: es) xa x) (hg : Gl X "list" := by rfl) (he : starEach (e :: es) X.env = (false, eval e X.env) :: starEach es X.env := by rfl) (hpl : (backTo pos (starEach es X.env)).any (·.1) = false := by rfl) (hc : X.calm = true := by rfl) : SE X (.Call (.Name "list" pp) (e :: es) [] pos) (tCB rListKD xa) (wClP PListK x) :=
  ⟨pe_callTy (call_listD hc) hg hm (by decide +kernel) ha.pa (by decide) (by decide) he hpl, snd_clP snd_listK ha.snd⟩
end
end VL

/-! VQ6: int(text), the signs of a text one by one. -/
namespace VL
open PySem PySem.Spec PyProof.Rows L2
open Evl (Ex)
variable {K : PySem.W.Frag}
def cIntT : List D → Oz
  | [.str a] => if a.length ≤ 640 then (PySem.intText? a).bind fun n => ozI n else none
  | _ => none
def rIntT : List V → Hp → VK → Prop := fun xs H Q => ∃ a n, xs = [.str a] ∧ PySem.intText? a = some n ∧ a.length ≤ 640 ∧ Q (.int n) H
theorem snd_cIntT : ClS K rIntT cIntT := fun G B H vs ds z k R g g2 o hf r => by
  unfold cIntT at hf
  split at hf
  · rename_i a
    split at hf
    · rename_i hl
      cases o with
      | cons o1 o2 =>
        cases o2
        obtain rfl := ov_str o1
        cases hi : PySem.intText? a with
        | none => rw [hi] at hf; cases hf
        | some n =>
          rw [hi] at hf
          exact ⟨a, n, rfl, hi, hl, res_int hf r⟩
    · cases hf
  · cases hf
def signsD (x : Str) : List D := x.cps.toList.map fun c => .str ⟨#[c]⟩
theorem str_walk {G B : Hp} (x : Str) : Walks K (Its x) (signsD x) G B := fun G2 H2 i e1 e2 e3 => by
  have hl : x.cps.size = (signsD x).length := by unfold signsD; rw [List.length_map, Array.length_toList]
  refine ⟨fun d hd => ?_, fun hi => Nat.le_trans (Nat.le_of_eq hl) hi⟩
  unfold signsD at hd
  rw [List.getElem?_map, Array.getElem?_toList] at hd
  cases hx : x.cps[i]? with
  | none => rw [hx] at hd; cases hd
  | some c =>
    rw [hx] at hd; cases hd
    refine ⟨(Array.getElem?_eq_some_iff.mp hx).1, fun v H3 y => ?_⟩
    obtain ⟨rfl, c', h2, rfl⟩ := y
    rw [hx] at h2; cases h2
    exact .inl ⟨rfl, .str _⟩
def wiSO (w : WE) : WI := fun ρ Q => w ρ fun d _ ρ1 => match d with
  | .str x => Q (signsD x) ρ1
  | _ => False
theorem sndIO_str {te : TE} {w : WE} (h : SndE K te w) : SndIO K (iStr te) (wiSO w) := fun b G ρ σ H Q R s hq k => by
  refine h b G ρ σ H _ _ s hq fun d kd ρ' v G' H' q x s' r => ?_
  split at q
  · rename_i z
    obtain rfl := ov_str (r.ov s')
    exact ⟨z, rfl, k _ ρ' _ G' H' q x s' (str_walk z)⟩
  · exact q.elim
section
variable {X : Cx} {e : Expr} {es : List Expr} {te : TE} {t : WE} {xa : TA} {x : WA} {pp pos : Pos}
theorem io_str {tg : Expr} (h : SE X e te t) : SIO X tg e (iStr te) (wiSO t) := ⟨pi_str h.pe, sndIO_str h.snd⟩
theorem c_intT (hm : X.mg "int" = none) (ha : SO X (e :: es) xa x) (hg : Gl X "int" := by rfl) (he : starEach (e :: es) X.env = (false, eval e X.env) :: starEach es X.env := by rfl) (hpl : (backTo pos (starEach es X.env)).any (·.1) = false := by rfl) : SE X (.Call (.Name "int" pp) (e :: es) [] pos) (tCB rIntT xa) (wCl cIntT x) :=
  e_callT call_int_str snd_cIntT hm (by decide +kernel) ha hg (by decide) (by decide) he hpl
end
end VL

/-! VQ7: more lemmas of use to several laws (gathered out of the texts of k07 and k08). -/
namespace VL
open PySem PySem.Spec PyProof.Rows L2
section
variable {α : Type} {ρ : Rho} {wi : WI} {tt : WT} {t : WE} {i j l m : Nat} {k : Kd}
theorem ev_comp4 (e1 e2 e3 e4 : α → D) (tb : α → Bool) (el : α → D) (L : List α) (hi : Ei wi ρ (L.map fun a => .tup [e1 a, e2 a, e3 a, e4 a])) (hl : L.length ≤ LIM)
    (ht : ∀ a ∈ L, Et tt (((((wipeR ρ [i, j, l, m]).set i (.fz (e1 a))).set j (.fz (e2 a))).set l (.fz (e3 a))).set m (.fz (e4 a))) (tb a))
    (he : ∀ a ∈ L, tb a = true → Ev t (((((wipeR ρ [i, j, l, m]).set i (.fz (e1 a))).set j (.fz (e2 a))).set l (.fz (e3 a))).set m (.fz (e4 a))) (el a) k) (hk : k.ok = true := by rfl) (hr : restR ρ (wipeR ρ [i, j, l, m]) [i, j, l, m] = ρ := by rfl)
    (hw : ∀ d1 d2 d3 d4, wipeR (((((wipeR ρ [i, j, l, m]).set i (.fz d1)).set j (.fz d2)).set l (.fz d3)).set m (.fz d4)) [i, j, l, m] = wipeR ρ [i, j, l, m] := by intros; rfl) :
    Ev (wComp wi (wgTup 4 (wgCons (wgName i) (wgCons (wgName j) (wgCons (wgName l) (wgCons (wgName m) wgNil))))) tt t [i, j, l, m]) ρ (.lst ((L.filter tb).map el)) .nw := fun Q q => by
  unfold wComp
  refine hi _ ?_
  refine comp_mp (fun a => .tup [e1 a, e2 a, e3 a, e4 a]) (fun a => if tb a = true then some (el a) else none) L hl (fun a ha K hK => ?_) ?_
  · refine ⟨rfl, ?_⟩
    show tt (((((wipeR ρ [i, j, l, m]).set i (.fz (e1 a))).set j (.fz (e2 a))).set l (.fz (e3 a))).set m (.fz (e4 a))) _
    refine ht a ha _ ?_
    by_cases c : tb a = true
    · rw [if_pos c]
      rw [if_pos c] at hK
      refine he a ha c _ (toF_ok hk ?_)
      rw [hw]; exact hK
    · rw [if_neg c]
      rw [if_neg c] at hK
      rw [hw]; exact hK
  · rw [fm_filter, hr]; exact q
end
section
variable {ρ : Rho} {t u v w tk tv : WE} {c : WT} {R S : D → Prop} {k k' k3 : Kd} {d e : D} {i j : Nat} {r : WS} {P : PEnds} {wi : WI} {x : Int}
def DmN (t : WE) (ρ : Rho) (R : D → Prop) : Prop := ∀ Q : D → Kd → Rho → Prop, (∀ d, R d → Q d .nw ρ) → t ρ Q
def Dt (c : WT) (ρ : Rho) : Prop := ∀ Q : Bool → Rho → Prop, (∀ b, Q b ρ) → c ρ Q
theorem dmN_ev (h : Ev t ρ d .nw) (hR : R d) : DmN t ρ R := fun Q q => h _ (q _ hR)
theorem dmN_if (h : Dt c ρ) (a : DmN t ρ R) (b : DmN u ρ R) : DmN (wIfE c t u) ρ R := fun Q q => by
  rw [wIfE_e]
  refine h _ fun z => ?_
  cases z with
  | true => exact a _ q
  | false => exact b _ q
theorem dt_gt {V : Int → Prop} (h : Dm t ρ fun d => ∃ r, d = .int r ∧ V r) (h' : Ev u ρ (.int x) k) : Dt (wTest (wBin bGtD t u)) ρ := fun Q q => h _ fun d ⟨r, e, _⟩ => h' _ (by
  subst e
  exact q (decide (r > x)))
theorem dmN_disp {s : Str} (hk : Ev tk ρ (.str s) k) (hv : Dm tv ρ R) : DmN (wDisp (pCons tk tv pNil)) ρ (fun d => ∃ v, d = .dk [(.inr s, v)] ∧ R v) := fun Q q => hk _ (hv _ fun v hv => by
  refine ⟨by simp, ?_⟩
  exact q _ ⟨v, rfl, hv⟩)
theorem dm_tup2b (h : Ev t ρ d k) (h' : Dm u ρ R) (hk : k.ok = true := by rfl) : Dm (wTup (wConsF t (wConsF u wNil))) ρ (fun z => ∃ e, z = .tup [d, e] ∧ R e) := fun Q q => h _ (toF_ok hk (h' _ fun e he => ⟨by simp [LIM], q _ ⟨e, rfl, he⟩⟩))
theorem dm_tup2c (h : Dm t ρ R) (h' : Dm u ρ S) : Dm (wTup (wConsF t (wConsF u wNil))) ρ (fun z => ∃ d e, z = .tup [d, e] ∧ R d ∧ S e) := fun Q q => h _ fun d hd => h' _ fun e he => ⟨by simp [LIM], q _ ⟨d, e, rfl, hd, he⟩⟩
theorem dm_tup4 {T : D → Prop} (h1 : Dm t ρ R) (h2 : Dm u ρ S) (h3 : Ev v ρ d k) (h4 : Dm w ρ T) (hk : k.ok = true := by rfl) : Dm (wTup (wConsF t (wConsF u (wConsF v (wConsF w wNil))))) ρ (fun z => ∃ a b c, z = .tup [a, b, d, c] ∧ R a ∧ S b ∧ T c) := fun Q q =>
  h1 _ fun a ha => h2 _ fun b hb => h3 _ (toF_ok hk (h4 _ fun c hc => ⟨by simp [LIM], q _ ⟨a, b, c, rfl, ha, hb, hc⟩⟩))
theorem sq_parNN (h : Ev t ρ d .nw) (h' : Ev u ρ e .nw) (q : r P ((ρ.set i (.ow d)).set j (.ow e))) : wSeq (wPar [i, j] (nCons t (nCons u nNil))) r P ρ := h _ (h' _ ⟨rfl, q⟩)
theorem ev_dk0 : Ev wDk0 ρ (.dk []) .nw := fun _ q => q
theorem go_upd {es : List (Key × D)} (ho : ρ[i]? = some (.ow (.dk es))) (h : DmN w ρ R) (q : ∀ d, R d → ∃ more, d = .dk more ∧ es.length + more.length ≤ LIM ∧ P.nx (ρ.set i (.ow (.dk (mergeD es more))))) : wUpd i w P ρ := ⟨⟨_, ho⟩, h _ fun d hd => by
  obtain ⟨more, rfl, hl, hq⟩ := q d hd
  rw [ho]
  exact ⟨hl, hq⟩⟩
theorem go_appD {xs : List D} (ho : ρ[i]? = some (.ow (.lst xs))) (h : Dm w ρ R) (hl : xs.length < LIM) (q : ∀ d, R d → P.nx (ρ.set i (.ow (.lst (xs ++ [d]))))) : wMut i w fAppend P ρ :=
  ⟨⟨_, ho⟩, h _ fun d hd => by
    show (match ρ[i]? with
      | some (.ow d0) => match fAppend d0 d with
        | some z => P.nx (ρ.set i (.ow z))
        | none => False
      | _ => False)
    rw [ho]
    show (match fAppend (.lst xs) d with
        | some z => P.nx (ρ.set i (.ow z))
        | none => False)
    rw [fAppend, if_pos hl]
    exact q d hd⟩
theorem dm_w {sp : FS} (hw : ρ[i]? = some .w) (hs : ∀ q : D → Kd → Prop, (∀ z, R z → q z .fz) → sp [.w] q) : Dm (wCall sp (xW i xNil)) ρ R := fun Q q => ⟨hw, hs _ q⟩
theorem sq_asgT2D {l : Nat} (h : Dm w ρ R) (q : ∀ d, R d → ∃ a b, d = .tup [a, b] ∧ r P ((ρ.set i (.fz a)).set j (.fz b))) : wSeq (wAsgT (wgTup 2 (wgCons (wgName i) (wgCons (wgName j) wgNil))) w) r P ρ := h _ fun d hd => by
  obtain ⟨a, b, rfl, hq⟩ := q d hd
  exact ⟨rfl, hq⟩
theorem dmN_comp {B : Nat} (hB : B ≤ LIM) (hi : ∀ Q : List D → Rho → Prop, (∀ xs, xs.length ≤ B → Q xs ρ) → wi ρ Q) (he : ∀ x, Dm t ((wipeR ρ [i]).set i (.fz x)) R) (hr : restR ρ (wipeR ρ [i]) [i] = ρ := by rfl) (hw : ∀ d, wipeR ((wipeR ρ [i]).set i (.fz d)) [i] = wipeR ρ [i] := by intro; rfl) :
    ∀ Q : D → Kd → Rho → Prop, (∀ ds, ds.length ≤ B → (∀ d ∈ ds, R d) → Q (.lst ds) .nw ρ) → wComp wi (wgName i) wYes t [i] ρ Q := fun Q q => by
  unfold wComp
  refine hi _ fun xs hx => ?_
  refine comp_rel (fun _ o => ∃ d, o = some d ∧ R d) xs [] (by simpa using Nat.le_trans hx hB) (fun x _ K hK => ?_) fun ds hd => ?_
  · simp only [wgName, wYes]
    show (if true = true then t ((wipeR ρ [i]).set i (.fz x)) (toF fun d ρ3 => K (some d) (wipeR ρ3 [i])) else K none (wipeR ((wipeR ρ [i]).set i (.fz x)) [i]))
    rw [if_pos rfl]
    refine he x _ fun d hd => ?_
    show K (some d) (wipeR ((wipeR ρ [i]).set i (.fz x)) [i])
    rw [hw]
    exact hK _ ⟨d, rfl, hd⟩
  · obtain ⟨a, b⟩ := PF.all (p := R) (fun x o ⟨d, h1, h2⟩ => ⟨d, h1, h2⟩) hd
    rw [List.nil_append, hr]
    exact q ds (by omega) b
end
theorem okL {n : Nat} {xs : List D} (h : ∀ x ∈ xs, okE n x = true) : okE (n + 1) (.lst xs) = true := by rw [okE_lst]; exact okEs_all.mpr h
theorem bEq_nilT {xs : List D} (h : okE 20 (.tup xs) = true) : bEq (.tup xs) (.tup []) = ozB (decide (xs = [])) := by
  unfold bEq
  rw [if_pos ⟨h, rfl⟩]
  cases xs with
  | nil => rfl
  | cons x xs => simp [eqv, eqvs]
theorem bNe_nilT {xs : List D} (h : okE 20 (.tup xs) = true) : bNe (.tup xs) (.tup []) = ozB (!decide (xs = [])) := by
  unfold bNe
  rw [if_pos ⟨h, by simp [okE, okEs]⟩]
  cases xs <;> simp [eqv, eqvs]
theorem bEq_nil {xs : List D} (h : okE 20 (.lst xs) = true) : bEq (.lst xs) (.lst []) = ozB (decide (xs = [])) := by
  unfold bEq
  rw [if_pos ⟨h, rfl⟩]
  cases xs with
  | nil => rfl
  | cons x xs => simp [eqv, eqvs]
theorem sort_go {ta : WA} {ρ : Rho} {xs : List D} {sh : Sh} (h : Ea ta ρ [.lst xs]) (hs : SShp sh xs) : Ev (wClP PSort ta) ρ (.lst (isort xs)) .nw := fun Q q => h _ ⟨.lst (isort xs), .nw, ⟨xs, sh, rfl, hs, rfl, rfl⟩, q⟩
theorem ret_own {ρ : Rho} {i : Nat} {d : D} {sp : FS} {P : PEnds} (ho : ρ[i]? = some (.ow d)) (h : sp [.d d] fun d k => P.rt d k.ret) : wRet (wCall sp (xCons (wVar i) xNil)) P ρ := by
  show wVar i ρ _
  rw [wVar_e, ho]
  exact h
theorem own_go {ρ : Rho} {i : Nat} {d : D} {Q : D → Rho → Prop} (ho : ρ[i]? = some (.ow d)) (h : Q d (ρ.set i (.fz d))) : wVar i ρ (toF Q) := by
  rw [wVar_e, ho]; exact h
theorem ix_natL {xs : List D} {k : Nat} {d : D} (h : xs[k]? = some d) : bSubs (.lst xs) (.int k) = some (d, .fz) := by
  have hl := (List.getElem?_eq_some_iff.mp h).1
  have e : ixN xs.length (k : Int) = some k := by
    unfold ixN
    simp
    omega
  show (atI xs (k : Int)).map (fun d => (d, Kd.fz)) = _
  unfold atI
  rw [e]
  simp [h]
theorem ix_natT {xs : List D} {k : Nat} {d : D} (h : xs[k]? = some d) : bSubs (.tup xs) (.int k) = some (d, .fz) := by
  have hl := (List.getElem?_eq_some_iff.mp h).1
  have e : ixN xs.length (k : Int) = some k := by
    unfold ixN
    simp
    omega
  show (atI xs (k : Int)).map (fun d => (d, Kd.fz)) = _
  unfold atI
  rw [e]
  simp [h]
theorem ev_lenT {α : Type} {f : α → D} {ρ : Rho} {w : WE} {ws : List α} {k : Kd} (h : Ev w ρ (.tup (ws.map f)) k) : Ev (wCl cLen (wCons w wNil)) ρ (.int ws.length) .fz := ev_cl (ea_cons h ea_nil) (by show ozI _ = _; rw [List.length_map]; rfl)
theorem ev_lenL {α : Type} {f : α → D} {ρ : Rho} {w : WE} {ws : List α} {k : Kd} (h : Ev w ρ (.lst (ws.map f)) k) : Ev (wCl cLen (wCons w wNil)) ρ (.int ws.length) .fz := ev_cl (ea_cons h ea_nil) (by show ozI _ = _; rw [List.length_map]; rfl)
theorem ev_sset {ρ : Rho} {t : WE} {k : Kd} {ds : List D} {sh : Sh} (h : Ev t ρ (.lst ds) k) (hf : Flat sh ds) (hl : ds.length ≤ 1000) : Ev (wSortSet t) ρ (.lst (isort (uniqD ds))) .nw := fun Q q => h _ ⟨ds, sh, rfl, hf, Nat.lt_of_le_of_lt (Nat.succ_le_succ hl) (by decide +kernel), q⟩
theorem sq_asgT4 {i j l m : Nat} {a b c d : D} {ρ : Rho} {w : WE} {r : WS} {P : PEnds} (h : Ev w ρ (.tup [a, b, c, d]) .fz) (k : r P ((((ρ.set i (.fz a)).set j (.fz b)).set l (.fz c)).set m (.fz d))) : wSeq (wAsgT (wgTup 4 (wgCons (wgName i) (wgCons (wgName j) (wgCons (wgName l) (wgCons (wgName m) wgNil))))) w) r P ρ := h _ ⟨rfl, k⟩
theorem flat_if {α β : Type} (p : α → Bool) (f : α → β) : ∀ l : List α, (l.flatMap fun a => if p a = true then [f a] else []) = (l.filter p).map f
  | [] => rfl
  | a :: l => by
    rw [List.flatMap_cons, flat_if p f l, List.filter_cons]
    by_cases c : p a = true <;> simp [c]
theorem put_keys (es : List (Key × D)) (k : Key) (v : D) : (putD es k v).map (·.1) = addK (es.map (·.1)) k := by
  by_cases h : k ∈ es.map (·.1)
  · rw [addK_in h]
    have ha : (es.any fun kv => decide (kv.1 = k)) = true := by
      obtain ⟨p, hp, e⟩ := List.mem_map.mp h
      exact List.any_eq_true.mpr ⟨p, hp, by simp [e]⟩
    unfold putD
    rw [if_pos ha, List.map_map]
    refine List.map_congr_left fun p _ => ?_
    show (if p.1 = k then (p.1, v) else p).1 = p.1
    split <;> rfl
  · rw [addK_out h]
    have ha : (es.any fun kv => decide (kv.1 = k)) = false := by
      rw [Bool.eq_false_iff]
      intro q
      obtain ⟨p, hp, e⟩ := List.any_eq_true.mp q
      exact h (List.mem_map.mpr ⟨p, hp, by simpa using e⟩)
    unfold putD
    rw [if_neg (by rw [ha]; decide), List.map_append]; rfl
theorem merge_keys : ∀ (more es : List (Key × D)), (mergeD es more).map (·.1) = (more.map (·.1)).foldl addK (es.map (·.1))
  | [], es => rfl
  | p :: more, es => by
    show (mergeD (putD es p.1 p.2) more).map (·.1) = _
    rw [merge_keys more, put_keys]; rfl
theorem prs_map {α : Type} (s : α → Str) (v : α → D) : ∀ l : List α, prsOf (l.map fun a => .tup [.str (s a), v a]) = some (l.map fun a => (Sum.inr (s a), v a))
  | [] => rfl
  | a :: l => by
    rw [List.map_cons]
    show (match keyOf (.str (s a)), prsOf (l.map fun a => .tup [.str (s a), v a]) with
      | some key, some l => some ((key, v a) :: l)
      | _, _ => none) = _
    rw [prs_map s v l]; rfl
theorem ev_sortK {t : WE} {ρ : Rho} {k : Kd} {es : List (Key × D)} (h : Ev t ρ (.dk es) k) (hk : ∀ x ∈ keysD es, ∃ s, x = .str s ∧ hasSh .str (.str s) = true) (hl : es.length < 64) : Ev (wClP PSortK (wCons t wNil)) ρ (.lst (isort (keysD es))) .nw := fun Q q => h _ (by
  refine ⟨_, _, ⟨es, (keysD es).map fun x => (match x with
    | .str s => s
    | _ => Str.empty), rfl, ?_, by rw [List.length_map]; unfold keysD; rw [List.length_map]; exact hl, fun x hx => ?_, rfl, rfl⟩, q⟩
  · rw [List.map_map]
    unfold keysD at hk ⊢
    rw [List.map_map]
    refine List.map_congr_left fun p hp => ?_
    obtain ⟨s, e, _⟩ := hk (kD p.1) (List.mem_map.mpr ⟨p, hp, rfl⟩)
    show p.1 = Sum.inr (match kD p.1 with
      | .str s => s
      | _ => Str.empty)
    rw [e]
    obtain ⟨k, v⟩ := p
    cases k with
    | inl i => cases e
    | inr s' => cases e; rfl
  · obtain ⟨d, hd, rfl⟩ := List.mem_map.mp hx
    obtain ⟨s, rfl, hs⟩ := hk d hd
    exact hs)
theorem dmT_comp {wi : WI} {tt : WT} {ρ : Rho} {i : Nat} {xs : List D} (hi : Ei wi ρ xs) (hl : xs.length ≤ LIM) (ht : ∀ x ∈ xs, Dt tt ((wipeR ρ [i]).set i (.fz x))) (hv : ∀ x, ((wipeR ρ [i]).set i (.fz x))[i]? = some (.fz x) := by intro; rfl) (hr : restR ρ (wipeR ρ [i]) [i] = ρ := by rfl) (hw : ∀ d, wipeR ((wipeR ρ [i]).set i (.fz d)) [i] = wipeR ρ [i] := by intro; rfl) :
    ∀ Q : D → Kd → Rho → Prop, (∀ ds, ds.Sublist xs → Q (.lst ds) .nw ρ) → wComp wi (wgName i) tt (wVar i) [i] ρ Q := fun Q q => by
  unfold wComp
  refine hi _ ?_
  refine comp_rel (fun x o => o = some x ∨ o = none) xs [] (by simpa using hl) (fun x hx K hK => ?_) fun ds hd => ?_
  · show tt ((wipeR ρ [i]).set i (.fz x)) _
    refine ht x hx _ fun c => ?_
    cases c with
    | true =>
      rw [if_pos rfl]
      refine ev_var (hv x) _ ?_
      show K (some x) (wipeR ((wipeR ρ [i]).set i (.fz x)) [i])
      rw [hw]
      exact hK _ (.inl rfl)
    | false =>
      rw [if_neg (by decide), hw]
      exact hK _ (.inr rfl)
  · rw [List.nil_append, hr]
    exact q ds (hd.sub fun x d h => by
      rcases h with h | h
      · cases h; rfl
      · cases h)
theorem dt_eq {t u : WE} {ρ : Rho} {x : Int} {k : Kd} {V : Int → Prop} (h : Dm t ρ fun d => ∃ r, d = .int r ∧ V r) (h' : Ev u ρ (.int x) k) : Dt (wTest (wBin bEq t u)) ρ := fun Q q => h _ fun d ⟨r, e, _⟩ => h' _ (by
  subst e
  rw [bEq_ints]
  exact q (decide (r = x)))
theorem ev_slh {t : WE} {ρ : Rho} {d z : D} {k kz : Kd} {n : Int} (h : Ev t ρ d k) (e : dSlice d none (some n) = some (z, kz)) : Ev (wSlice t wPNone (wPSome (wCon (.int n)))) ρ z kz := fun Q q => h _ (by show oB _ _; rw [e]; exact q)
theorem sq_par3D {R S T : D → Prop} {t u v : WE} {ρ : Rho} {i j l : Nat} {r : WS} {P : PEnds} (h : Dm t ρ R) (h' : Dm u ρ S) (h2 : Dm v ρ T) (q : ∀ d e f, R d → S e → T f → r P (((ρ.set i (.fz d)).set j (.fz e)).set l (.fz f))) : wSeq (wPar [i, j, l] (nCons t (nCons u (nCons v nNil)))) r P ρ := h _ fun d hd => h' _ fun e he => h2 _ fun f hf => ⟨rfl, q d e f hd he hf⟩
theorem flat_filter {α β : Type} (p : β → Bool) (f : α → List β) : ∀ l : List α, (l.flatMap f).filter p = l.flatMap fun a => (f a).filter p
  | [] => rfl
  | a :: l => by rw [List.flatMap_cons, List.filter_append, List.flatMap_cons, flat_filter p f l]
theorem flat_map' {α β γ : Type} (g : β → γ) (f : α → List β) : ∀ l : List α, (l.flatMap f).map g = l.flatMap fun a => (f a).map g
  | [] => rfl
  | a :: l => by rw [List.flatMap_cons, List.map_append, List.flatMap_cons, flat_map' g f l]
theorem ei_r2 {ρ : Rho} {a : Int} {n : Nat} {b : Int} {ta : WA} (h : Ea ta ρ [.int a, .int b]) (e : b = a + n) (ha : -1000000000 ≤ a ∧ a ≤ 1000000000) (hn : n ≤ 1000000000) : Ei (wiR2 ta) ρ ((List.range n).map fun (k : Nat) => D.int (a + (k : Int))) := fun Q q => by
  rw [wiR2_e]
  refine h _ ?_
  subst e
  refine ⟨by unfold i62; omega, by unfold i62; omega, ?_⟩
  rw [show ((a + (n : Int) - a).toNat) = n by omega]
  exact q
theorem cMax_ints {xs : List Int} {m : Int} (hm : m ∈ xs) (h : ∀ x ∈ xs, x ≤ m) : cMax [.lst (xs.map .int)] = ozI m := by
  cases xs with
  | nil => cases hm
  | cons a as =>
    have hs : ∀ d ∈ as.map D.int, hasSh .int d = true := fun d hd => by obtain ⟨i, _, rfl⟩ := List.mem_map.mp hd; rfl
    have ho : allOrd ((a :: as).map .int) = true := allOrd_sh (sh := .int) (by decide) fun d hd => by obtain ⟨i, _, rfl⟩ := List.mem_map.mp hd; rfl
    show (if allOrd ((a :: as).map .int) = true then some (maxDD (.int a) (as.map .int), Kd.fz) else none) = _
    rw [if_pos ho]
    obtain ⟨m1, m2⟩ := maxDD_spec (sh := .int) (as.map .int) (.int a) rfl hs
    obtain ⟨c, hc, ec⟩ := List.mem_map.mp (show maxDD (.int a) (as.map .int) ∈ (a :: as).map D.int from m1)
    rw [← ec] at m2 ⊢
    have h1 := m2 (.int m) (show D.int m ∈ (a :: as).map D.int from List.mem_map.mpr ⟨m, hm, rfl⟩)
    have h2 : ¬ c < m := of_decide_eq_false (by simpa [dlt] using h1)
    have h3 := h c hc
    have : c = m := by omega
    rw [this]; rfl
theorem min_head {sh : Sh} {x : D} {xs : List D} (hx : hasSh sh x = true) (hs : ∀ d ∈ xs, hasSh sh d = true) : ∃ t, isort (x :: xs) = minDD x xs :: t := by
  have O := sh_ord sh
  have all : ∀ d ∈ x :: xs, hasSh sh d = true := fun d hd => by
    rcases List.mem_cons.mp hd with rfl | hd
    · exact hx
    · exact hs d hd
  have pm := isort_perm (x :: xs)
  have so := isort_srt O (x :: xs) all
  obtain ⟨m1, m2⟩ := minDD_spec xs x hx hs
  cases e : isort (x :: xs) with
  | nil => rw [e] at pm; exact absurd pm.length_eq (by simp)
  | cons h t =>
    rw [e] at pm so
    have hh : h ∈ x :: xs := pm.mem_iff.mp (by simp)
    have a1 := m2 h hh
    have a2 : dlt (minDD x xs) h = false := by
      rcases List.mem_cons.mp (pm.mem_iff.mpr m1) with q | q
      · rw [q]; exact O.irr _ (all h hh)
      · exact (List.pairwise_cons.mp so).1 _ q
    rcases O.tot h (minDD x xs) (all h hh) (all _ m1) with q | q | q
    · rw [q] at a1; cases a1
    · exact ⟨t, by rw [q]⟩
    · rw [q] at a2; cases a2
theorem ei_k {ρ : Rho} {i : Nat} {es : List (Key × D)} (h : ρ[i]? = some (.fz (.dk es))) : Ei (wiK i) ρ (keysD es) := fun Q q => by
  unfold wiK
  rw [wVar_e, h]
  exact q
theorem put_new {es : List (Key × D)} {k : Key} {v : D} (h : valD es k = none) : putD es k v = es ++ [(k, v)] := by
  have hn : (es.any fun kv => decide (kv.1 = k)) = false := by
    rw [Bool.eq_false_iff]
    intro ha
    obtain ⟨p, hp, e⟩ := List.any_eq_true.mp ha
    unfold valD at h
    rw [Option.map_eq_none_iff] at h
    have := List.find?_eq_none.mp h p hp
    simp at e this
    exact this e
  unfold putD
  rw [if_neg (by rw [hn]; decide)]
theorem valD_new {es : List (Key × D)} {k : Key} {v : D} (h : valD es k = none) (k' : Key) : valD (putD es k v) k' = if k = k' then some v else valD es k' := by
  have hn : (es.any fun kv => decide (kv.1 = k)) = false := by
    rw [Bool.eq_false_iff]
    intro ha
    obtain ⟨p, hp, e⟩ := List.any_eq_true.mp ha
    unfold valD at h
    rw [Option.map_eq_none_iff] at h
    have := List.find?_eq_none.mp h p hp
    simp at e this
    exact this e
  unfold putD
  rw [if_neg (by rw [hn]; decide)]
  unfold valD
  rw [List.find?_append]
  by_cases c : k = k'
  · subst c
    unfold valD at h
    rw [Option.map_eq_none_iff] at h
    rw [h]
    simp
  · rw [if_neg c]
    cases es.find? (fun kv => decide (kv.1 = k')) with
    | none => simp [c]
    | some p => simp
theorem len_put (es : List (Key × D)) (k : Key) (v : D) : (putD es k v).length ≤ es.length + 1 := by
  unfold putD
  split
  · simp
  · simp
theorem bNe_nilL {xs : List D} (h : okE 20 (.lst xs) = true) : bNe (.lst xs) (.lst []) = ozB (!decide (xs = [])) := by
  unfold bNe
  rw [if_pos ⟨h, by simp [okE, okEs]⟩]
  cases xs <;> simp [eqv, eqvs]
end VL

/-! VX0: defs that raise an own error with one field (a number or a text), calls of such defs, try .. except. -/
namespace VL
open PySem PySem.Spec PyProof.Rows L2
open Evl (Ex)
variable {K : PySem.W.Frag}
/-- data that an error's field may hold -/
def atV : D → Option V
  | .int i => some (.int i)
  | .str s => if s.length ≤ 1000 then some (.str s) else none
  | _ => none
def SvOk : Bool → V → Prop
  | true, v => ∃ s, v = .str s ∧ s.length ≤ 1000
  | false, v => ∃ i, v = .int i
def isTx : D → Bool
  | .str _ => true
  | _ => false
theorem atV_ok {d : D} {v : V} (h : atV d = some v) : SvOk (isTx d) v := by
  cases d with
  | int i => cases h; exact ⟨i, rfl⟩
  | str s =>
    change (if s.length ≤ 1000 then some (V.str s) else none) = some v at h
    split at h
    · cases h; exact ⟨s, rfl, by assumption⟩
    · cases h
  | _ => cases h
theorem atV_rp {d : D} {v : V} {G : Hp} (h : atV d = some v) : Rp K G v d := by
  cases d with
  | int i => cases h; exact .int i
  | str s =>
    change (if s.length ≤ 1000 then some (V.str s) else none) = some v at h
    split at h
    · cases h; exact .str s
    · cases h
  | _ => cases h
theorem ov_atV {d : D} {u v : V} {G B : Hp} (h : atV d = some v) (o : Ov K G B u d) : u = v := by
  cases d with
  | int i => cases h; exact ov_int o
  | str s =>
    change (if s.length ≤ 1000 then some (V.str s) else none) = some v at h
    split at h
    · cases h; exact ov_str o
    · cases h
  | _ => cases h
/-- what the wish W takes -/
def XOk (K : PySem.W.Frag) (b : Bs) (C : Addr) (f : Str) (W : L2.WX) (x : D → Rho → Prop) : Prop := ∀ a v ρ σ G H d, x a ρ → atV a = some v → Sim K b G ρ σ H → H d = some (.xd [(f, v)]) → W (.ref C) (some d) σ H
abbrev WRE := (D → Rho → Prop) → WE
abbrev WRS := (D → Rho → Prop) → WS
def SndEQ (K : PySem.W.Frag) (C : Addr) (f : Str) (W : L2.WX) (te : TE) (t : WRE) : Prop := ∀ (b : Bs) (G : Hp) (ρ : Rho) (σ : L2.St) (H : Hp) (Q : D → Kd → Rho → Prop) (R : VK) (x : D → Rho → Prop), XOk K b C f W x → Sim K b G ρ σ H → t x ρ Q →
  (∀ d k ρ' v G' H', Q d k ρ' → Xt b ρ σ G H ρ' G' H' → Sim K b G' ρ' σ H' → Rv K b H G' H' ρ' σ k v d → R v H') → te σ H R
def SndQ (K : PySem.W.Frag) (C : Addr) (f : Str) (W : L2.WX) (ts : TS) (t : WRS) : Prop := ∀ (b : Bs) (P : PEnds) (E : Ends) (G : Hp) (ρ : Rho) (σ : L2.St) (H : Hp) (x : D → Rho → Prop), EOk K b P E → XOk K b C f W x → Sim K b G ρ σ H → t x P ρ → ts E σ H
section
variable {C : Addr} {f : Str} {W : L2.WX} {ts us : TS} {t u : WRS} {te : TE} {w : WRE}
theorem sndQ_of {t : WS} (h : SndS K ts t) : SndQ K C f W ts (fun _ => t) := fun b P E G ρ σ H x e _ s q => h b P E G ρ σ H e s q
theorem sndQ_seq (ha : SndQ K C f W ts t) (hb : SndQ K C f W us u) : SndQ K C f W (tSeq ts us) (fun x => wSeq (t x) (u x)) := fun b P E G ρ σ H x e o s h =>
  ha b { P with nx := u x P } { E with nx := us E } G ρ σ H x ⟨fun ρ σ G H h s => hb b P E G ρ σ H x e o s h, e.rt, e.bk, e.ct⟩ o s h
theorem sndQ_if {tc : TT} {c : WT} (hc : SndT K tc c) (ha : SndQ K C f W ts t) (hb : SndQ K C f W us u) : SndQ K C f W (tIfS tc ts us) (fun x => wIf c (t x) (u x)) := fun b P E G ρ σ H x e o s h =>
  hc b G ρ σ H _ _ s h fun c ρ1 G1 H1 q1 x1 s1 => by
    cases c with
    | true => exact iteT (ha b P E G1 ρ1 σ H1 x e o s1 q1)
    | false => exact iteF (hb b P E G1 ρ1 σ H1 x e o s1 q1)
theorem sndQ_ret (h : SndEQ K C f W te w) : SndQ K C f W (tRet te) (fun x => wRet (w x)) := fun b P E G ρ σ H x e o s hq =>
  h b G ρ σ H _ _ x o s hq fun d k ρ' v G' H' q x s' r => e.rt d _ v ρ' σ G' H' q s' (r.rr s s')
theorem sndQ_asg {i : Nat} (h : SndEQ K C f W te w) : SndQ K C f W (tAsg te (gName i)) (fun x => wAsg i (w x)) := fun b P E G ρ σ H x e o s hq =>
  h b G ρ σ H _ _ x o s hq fun d k ρ' v G' H' q x s' r => name_ok (R := E.nx) r s x s' q fun ρ2 G2 q2 s2 => e.nx ρ2 _ G2 H' q2 s2
end
/-! ### a call of a def that may raise -/
abbrev FSX := List A → (D → Kd → Prop) → (D → Prop) → Prop
def toSpX (K : PySem.W.Frag) (C : Addr) (f : Str) (sp : FSX) : Sp := fun vs H R E => ∃ (aw : Option Addr) (G : Hp) (as : List A) (q : D → Kd → Prop) (x : D → Prop), Ex G (hd aw H) ∧ (∀ a, aw = some a → WOk K G H a) ∧ Paired (RpA K ⟨aw, G, hd aw H⟩ G) vs as ∧ sp as q x ∧
  (∀ d k v G' H', q d k → Ex G G' → Ex G' (hd aw H') → Ex (hd aw H) (hd aw H') → (∀ a o, hd aw H a = some o → G a = none → G' a = none) → (∀ a, aw = some a → WOk K G' H' a) → Rr K ⟨aw, G, hd aw H⟩ G' H' k v d → R v H') ∧
  ∀ a v G' H' d, x a → atV a = some v → Ex G G' → Ex G' (hd aw H') → Ex (hd aw H) (hd aw H') → (∀ a o, hd aw H a = some o → G a = none → G' a = none) → (∀ a, aw = some a → WOk K G' H' a) → H' d = some (.xd [(f, v)]) → E (.ref C) (some d) H'
def wCallX (sp : FSX) (t : WX) : WRE := fun x ρ Q => t ρ fun as ρ1 => sp as (fun d k => Q d k ρ1) (fun a => x a ρ1)
theorem Sim.after {b : Bs} {G1 H1 G2 H2 : Hp} {ρ1 : Rho} {σ : L2.St} (s1 : Sim K b G1 ρ1 σ H1) (g : Ex G1 G2) (sub : Ex G2 (hd b.aw H2)) (hh : Ex (hd b.aw H1) (hd b.aw H2)) (new : ∀ a o, hd b.aw H1 a = some o → G1 a = none → G2 a = none) (wk : ∀ a, b.aw = some a → WOk K G2 H2 a) : Sim K b G2 ρ1 σ H2 := by
  refine ⟨s1.len, sub, s1.g0.trans g, s1.b0.trans hh, fun a o e n => ?_, fun i d e => ?_, fun i d e => ?_, s1.dj, s1.ws, wk⟩
  · exact new a o (s1.b0 a o e) (s1.new a o e n)
  · obtain ⟨v, e1, r⟩ := s1.fz i d e
    exact ⟨v, e1, r.mono g⟩
  · obtain ⟨a, e1, e2, e3, e4, e5⟩ := s1.ow i d e
    obtain ⟨o, ho, _⟩ := e5.there
    have ho' : hd b.aw H1 a = some o := by rw [hd_ne e2]; exact ho
    exact ⟨a, e1, e2, e3, new a o ho' e4, e5.mono g fun u hu => by
      have : hd b.aw H1 a = some u := by rw [hd_ne e2]; exact hu
      exact (hd_some (hh a u this)).2⟩
theorem snd_callX {C : Addr} {f : Str} {W : L2.WX} {sp : FSX} {ta : TA} {t : WX} (h : SndX K ta t) : SndEQ K C f W (tCallS (toSpX K C f sp) (L2.WE W) ta) (wCallX sp t) := by
  intro b G ρ σ H Q R x o s hq k
  refine h b G ρ σ H _ _ s hq fun as ρ1 vs G1 H1 q1 x1 s1 r1 => ?_
  refine ⟨b.aw, G1, as, _, _, s1.sub, s1.wk, Paired.mapP r1 (fun v a r => by cases a with | d d => exact r | w => exact r), q1, fun d kd v G2 H2 q2 g sub hh new wk rr => ?_, fun a v G2 H2 d q2 av g sub hh new wk ed => ?_⟩
  · have s2 := s1.after g sub hh new wk
    have x2 : Xt b ρ1 σ G1 H1 ρ1 G2 H2 := ⟨g, hh, fun a o e n _ => new a o e n, fun _ _ e => e⟩
    refine k d kd ρ1 v G2 H2 q2 (x1.trans x2) s2 ?_
    cases kd with
    | fz => exact rr
    | nw =>
      obtain ⟨a, e0, e1, e2, e3, e4⟩ := rr
      exact ⟨a, e0, Evl.fresh_back x1.h e1, e2, e3, e4⟩
    | br i => exact rr.elim
  · exact o a v ρ1 σ G2 H2 d q2 av (s1.after g sub hh new wk) ed
section
variable {P : Program} {w : World} {mg : Str → Option Value} {base : Heap}
theorem fn_okX {x qual : Str} {st : Stmt} {fa : Addr} {fd : FuncData} {N ps : List Str} {k : Nat} {C : Addr} {f : Str} {sp : FSX} (t : WRS) (F : Fun K x qual st fa fd) (S : FnScope N ps (defScope st))
    (hb : ∀ (cdv : Value) (A : Around) (outer : List Env) (s : Shared) (H : Hp) (E : XK), Room k (A.deeper (envOfC qual (defScope st) s.heap.objs.size fa cdv)) →
      ∃ ts, PSs (cxOf (L2.CX P w) P w K mg base N qual (defScope st) fa cdv A outer s H E) (defBody st) ts ∧ SndQ K C f (fun cls d _ H => E cls d H) ts t)
    (hs : ∀ as q x, sp as q x → as.length = ps.length ∧ t (fun a _ => x a) ⟨fun _ => q .non .fz, q, fun _ => False, fun _ => False⟩ (rho0 N.length as)) : FnOk P w K mg base (L2.CX P w) (k + 1) fa fd ps (toSpX K C f sp) := by
  refine F.okX S (fun vs H Q E h => ?_) fun cdv A outer s H vs Q E hr h => ?_
  · obtain ⟨aw, G, as, q, x, _, _, r, hq, _⟩ := h
    rw [Paired.len r]
    exact (hs as q x hq).1
  · obtain ⟨aw, G, as, q, x, g, hw, r, hq, back, backX⟩ := h
    obtain ⟨ts, hps, hsn⟩ := hb cdv A outer s H E hr
    refine ⟨ts, hps, hsn ⟨aw, G, hd aw H⟩ ⟨fun _ => q .non .fz, q, fun _ => False, fun _ => False⟩ _ G _ _ H (fun a _ => x a) ⟨fun ρ σ G' H' q1 s1 => ?_, fun d k v ρ σ G' H' q1 s1 rr => ?_, fun ρ σ G' H' q1 s1 => q1.elim, fun ρ σ G' H' q1 s1 => q1.elim⟩ (fun a v ρ σ G' H' d xa av s1 ed => ?_) (start_sim g hw r) (hs as q x hq).2⟩
    · exact back .non .fz .non G' H' q1 s1.g0 s1.sub s1.b0 s1.new s1.wk .non
    · exact back d k v G' H' q1 s1.g0 s1.sub s1.b0 s1.new s1.wk rr
    · exact backX a v G' H' d xa av s1.g0 s1.sub s1.b0 s1.new s1.wk ed
end
/-! ### the making of the error -/
def spInit (tx : Bool) (C : Addr) (f : Str) : Sp := fun vs H Q _ => ∃ (a : Addr) (v : V), vs = [.ref a, v] ∧ SvOk tx v ∧ H a = some (exo a C none) ∧ ∀ d, H d = none → d ≠ a → Q .non (upd (upd H d (exd d [(f, v)])) a (exo a C (some d)))
def tRaiseO (tx : Bool) (C : Addr) (f : Str) (W : L2.WX) (te : TE) : TS := fun _ σ H => tMkO C (spInit tx C f) [] (tCons te tNil) σ H fun cls d H' => W cls d σ H'
def wRaise (tx : Bool) (w : WE) : WRS := fun x _ ρ => w ρ fun d _ ρ1 => isTx d = tx ∧ (atV d).isSome = true ∧ x d ρ1
theorem sndQ_raise {tx : Bool} {C : Addr} {f : Str} {W : L2.WX} {te : TE} {w : WE} (h : SndE K te w) : SndQ K C f W (tRaiseO tx C f W te) (wRaise tx w) := fun b P E G ρ σ H x e o s hq => by
  refine h b G ρ σ H _ (fun v H1 => [v].length ≤ 1000 ∧ ∀ a, H1 a = none → spInit tx C f (.ref a :: ([v] ++ [])) (upd H1 a (exo a C none)) (fun v2 H2 => v2 = .non ∧ ∃ (d : Addr) (fs : List (Str × V)), H2 a = some (exo a C (some d)) ∧ H2 d = some (exd d fs) ∧ H1 d = none ∧ W (.ref C) (some d) σ (upd (L2.del H2 a) d (.xd fs))) (fun _ _ _ => False)) s hq fun d k ρ' v G' H' ⟨q0, q1, q2⟩ x1 s' r => ⟨by simp, fun a ha => ?_⟩
  obtain ⟨v', hv⟩ := Option.isSome_iff_exists.mp q1
  obtain rfl := ov_atV hv (r.ov s')
  refine ⟨a, v, rfl, q0 ▸ atV_ok hv, upd_same, fun d2 hd2 hda => ⟨rfl, d2, [(f, v)], upd_same, ?_, ?_, ?_⟩⟩
  · rw [upd_ne hda, upd_same]
  · rw [upd_ne hda] at hd2; exact hd2
  · have hd3 : H' d2 = none := by rw [upd_ne hda] at hd2; exact hd2
    have e1 : upd (L2.del (upd (upd (upd H' a (exo a C none)) d2 (exd d2 [(f, v)])) a (exo a C (some d2))) a) d2 (.xd [(f, v)]) = upd H' d2 (.xd [(f, v)]) := by
      funext c
      by_cases c1 : c = d2
      · subst c1; rw [upd_same, upd_same]
      · rw [upd_ne c1, upd_ne c1]
        by_cases c2 : c = a
        · subst c2; rw [L2.del_same, ha]
        · rw [L2.del_ne c2, upd_ne c2, upd_ne c1, upd_ne c2]
    rw [e1]
    exact o d v ρ' σ G' _ d2 q2 hv (s'.laid hd3) upd_same
section
variable {X : Cx} {e : Expr} {es : List Expr} {te : TE} {ta : TA} {p1 p2 pos : Pos}
/-- B.__init__(self, ..), B an own class that has ValueError's -/
theorem pe_clsinit {pl : Sem Bool} {B : Addr} {y : Str} (hg : Gl X y) (hm : X.mg y = some (.ref B)) (tyB : PySem.W.typeIn X.K (.ref B) = some (.type "type")) (rd : PySem.W.readsIn X.K B (.type "type") = true)
    (gaB : PySem.W.specialIn X.K (.ref B) "__getattribute__" = some (some (.builtin "type.__getattribute__"))) (vV : PySem.W.findCls X.K (.ref B) (.type "type") "__init__" = some (.val (.builtin "ValueError.__init__"))) (ha : PA X (e :: es) ta)
    (hdb : (y == ("__debug__" : Str)) = false := by decide)
    (hc : eval (.Call (.Attribute (.Name y p1) "__init__" p2) (e :: es) [] pos) X.env = (do
      let ov ← eval (.Name y p1) X.env
      standAt p2.atName
      let (f, first) ← holding [ov] (getMethod ov "__init__" pl)
      callWith pos f first (backTo pos (starEach (e :: es) X.env)) (backToKw pos (keywordEach [] X.env))) := by rfl)
    (he : starEach (e :: es) X.env = (false, eval e X.env) :: starEach es X.env := by rfl) (hpl : (backTo pos (starEach es X.env)).any (·.1) = false := by rfl) :
    PE X (.Call (.Attribute (.Name y p1) "__init__" p2) (e :: es) [] pos) (tVeI X.K ta) := by
  refine ⟨fun pins s σ H Q I h => ?_⟩
  refine PySem.W.methodCall_KW (ld_glob I hg hm ?_ hdb) hc
  obtain ⟨m, fr⟩ := I.fr
  refine PySem.W.method_of_cls fr I.ok.mod.kin gaB ?_
  refine PySem.W.cls_val fr I.ok.mod.kin tyB rd vV (by decide +kernel) ?_
  show wpAny _ _ (callWith pos (Value.builtin "ValueError.__init__") [] (backTo pos (starEach (e :: es) X.env)) []) _ _ _
  refine PyProof.Rows.callWith_method1 (thn (ha.run pos pins _ σ H _ (I.tok _) h) fun us s1 ⟨vs, H1, I1, r1, a, C, ws, ev, hl, T, ea, q⟩ => ?_) he hpl
  subst ev
  cases r1 with
  | @cons _ u0 _ ur ra rw' =>
    obtain rfl : u0 = Value.ref a := ra
    have hlen : ur.length ≤ sizeLine := by
      rw [← Paired.length rw', sizeLine_eq]
      omega
    exact oinit_ok T I1 ea hlen fun s' J => ⟨.non, H1, J, rfl, q⟩
end
end VL

/-! VX1: rules for statements that may raise; an own class's error; try .. except. -/
namespace VL
open PySem PySem.Spec PyProof.Rows L2
open Evl (Ex)
structure SEQ (X : Cx) (C : Addr) (f : Str) (W : L2.WX) (e : Expr) (te : TE) (t : WRE) : Prop where
  pe : PE X e te
  snd : SndEQ X.K C f W te t
structure SSQ (X : Cx) (C : Addr) (f : Str) (W : L2.WX) (st : Stmt) (ts : TS) (t : WRS) : Prop where
  ps : PS X st ts
  snd : SndQ X.K C f W ts t
structure SBQ (X : Cx) (C : Addr) (f : Str) (W : L2.WX) (st : List Stmt) (ts : TS) (t : WRS) : Prop where
  ps : PSs X st ts
  snd : SndQ X.K C f W ts t
/-- what the written part says of an own class, at C, that keeps one field f -/
structure OwnE (K : PySem.W.Frag) (mg : Str → Option Value) (n f : Str) (C fI : Addr) : Prop where
  T : OexC K C
  E : ExcC K C
  gC : mg n = some (.ref C)
  no : PySem.W.findIn K (.ref C) f = some none
  ex : PySem.W.exmOne K (.ref C) (.ref C) = some true
  iC : PySem.W.findIn K (.ref C) "__init__" = some (some (.ref fI))
  tI : PySem.W.typeIn K (.ref fI) = some (.type "function")
section
variable {X : Cx} {C fI : Addr} {n f : Str} {W : L2.WX} {e c : Expr} {es : List Expr} {te : TE} {t : WE} {w : WRE} {st : Stmt} {sts ls rs : List Stmt} {ts us : TS} {r s : WRS} {u : WS} {tt : TT} {p : WT} {pos pp p1 p2 p3 : Pos}
theorem q_of (h : SS X st ts u) : SSQ X C f W st ts (fun _ => u) := ⟨h.ps, sndQ_of h.snd⟩
theorem qb_of (h : SB X sts ts u) : SBQ X C f W sts ts (fun _ => u) := ⟨h.ps, sndQ_of h.snd⟩
theorem qb_one (h : SSQ X C f W st ts r) : SBQ X C f W [st] ts r := ⟨pss_one h.ps, h.snd⟩
theorem qb_cons (h : SSQ X C f W st ts r) (k : SBQ X C f W sts us s) : SBQ X C f W (st :: sts) (tSeq ts us) (fun x => wSeq (r x) (s x)) := ⟨pss_cons h.ps k.ps, sndQ_seq h.snd k.snd⟩
theorem q_if (hc : ST X c tt p) (ha : SBQ X C f W ls ts r) (hb : SBQ X C f W rs us s) : SSQ X C f W (.If c ls rs pos) (tIfS tt ts us) (fun x => wIf p (r x) (s x)) := ⟨ps_if hc.pt ha.ps hb.ps, sndQ_if hc.snd ha.snd hb.snd⟩
theorem q_ret (h : SEQ X C f W e te w) : SSQ X C f W (.Return (some e) pos) (tRet te) (fun x => wRet (w x)) := ⟨ps_ret h.pe, sndQ_ret h.snd⟩
theorem q_asg (i : Nat) {x : Str} {pos' : Pos} (hN : X.N.Nodup) (he : SEQ X C f W e te w) (hi : X.N[i]? = some x := by rfl) (hx : Loc X.env.scope x := by first | exact Or.inl rfl | exact Or.inr rfl) (hs : swapsWith e (some (.Name x pos')) pos.line X.env = pure false := by rfl)
    (hf : X.fn x = true ∨ X.env.scope.names.lookup x = some .local := by first | exact .inl rfl | exact .inr rfl) : SSQ X C f W (.Assign [.Name x pos'] e pos) (tAsg te (gName i)) (fun z => wAsg i (w z)) := ⟨ps_set hN hi hx he.pe hs hf, sndQ_asg he.snd⟩
/-- a def that may raise -/
abbrev OkX (P : Program) (w : World) (base : Heap) {K : PySem.W.Frag} {mg : Str → Option Value} {x : Str} {ps : List Str} {st : Stmt} (D : Df K mg x ps st) (k : Nat) (C : Addr) (f : Str) (sp : FSX) : Prop := FnOk P w K mg base (L2.CX P w) k D.f D.fd ps (toSpX K C f sp)
theorem e_callX {x : Str} {ps : List Str} {st : Stmt} {k : Nat} {sp : FSX} {xa : TA} {y : WX} {D : Df X.K X.mg x ps st} (F : OkX X.prog X.w X.base D k C f sp) (hr : Room k X.A) (tk : Takes X W) (ha : SX X (e :: es) xa y) (hg : Gl X x := by rfl) (hdb : (x == ("__debug__" : Str)) = false := by decide)
    (he : starEach (e :: es) X.env = (false, eval e X.env) :: starEach es X.env := by rfl) (hpl : (backTo pos (starEach es X.env)).any (·.1) = false := by rfl) : SEQ X C f W (.Call (.Name x pp) (e :: es) [] pos) (tCallS (toSpX X.K C f sp) (L2.WE W) xa) (wCallX sp y) :=
  ⟨pe_callS F hr hg D.g D.F.kp D.b (fun σ => passAt tk σ) ha.pa hdb he hpl, snd_callX ha.snd⟩
/-- raise N(e) -/
theorem q_raise {tx : Bool} {k : Nat} {fd : FuncData} {ps : List Str} (hc : X.calm = true) (tk : Takes X W) (O : OwnE X.K X.mg n f C fI) (FI : FnOk X.prog X.w X.K X.mg X.base CX0 k fI fd ps (spInit tx C f)) (hb : Binds X.K fd ps []) (hr : Room (k + 1) X.A) (he : SE X e te t) (hg : Gl X n := by rfl)
    (hdb : (n == ("__debug__" : Str)) = false := by decide) (hse : starEach (e :: []) X.env = (false, eval e X.env) :: starEach [] X.env := by rfl) (hpl : (backTo pos (starEach [] X.env)).any (·.1) = false := by rfl) :
    SSQ X C f W (.Raise (some (.Call (.Name n pp) [e] [] pos)) none p2) (tRaiseO tx C f W te) (wRaise tx t) :=
  ⟨ps_raise hc tk (pmk_oex O.T O.iC O.tI FI hr hb .nil pass0 hg O.gC (pa_cons he.pe pa_nil hse) hdb hse hpl), sndQ_raise he.snd⟩
/-! ### try -/
/-- n.f, n the error that the suite holds -/
def tByF (C : Addr) (f : Str) (a : Addr) (cls : Value) (d : Option Addr) (te : TE) : TE := fun σ H Q => te σ H fun x H1 => x = .ref a ∧ cls = .ref C ∧ ∃ (dd : Addr) (v : V), d = some dd ∧ H1 dd = some (.xd [(f, v)]) ∧ Q v H1
theorem pe_byF {a : Addr} {oe : Obj} {cls : Value} {d : Option Addr} {pn : List (Addr × Obj)} (O : OwnE X.K X.mg n f C fI) (hz : Zc cls d oe) (hf : ∃ vs, oe.data = .fields vs) (he : PE (X.suite a ((a, oe) :: pn)) e te)
    (hb : attributeBase e f X.env (eval e X.env) = eval e X.env := by rfl) :
    PE (X.suite a ((a, oe) :: pn)) (.Attribute e f pos) (tByF C f a cls d te) := by
  refine ⟨fun pins s σ H Q I h => ?_⟩
  refine attr_of hb (thn (he.run pins s σ H _ I h) fun u s1 hh => ?_)
  obtain ⟨x, H1, I1, rx, ex, ec, dd, v, ed, ea, q⟩ := hh
  subst ex
  obtain rfl : u = Value.ref a := rx
  subst ec
  subst ed
  obtain ⟨ha, _⟩ := I1.pin (a, oe) (List.mem_append_left _ List.mem_cons_self)
  obtain ⟨vs, hd⟩ := hf
  have hx : ObjOk X.prog X.w H1 s1.heap dd (.xd [(f, v)]) := I1.hok dd _ ea
  obtain ⟨mA, hns, hr⟩ := hx
  obtain ⟨od, ho, hl⟩ := lookIn_ns hns
  have l : List.lookup f [(f, v)] = some v := by simp [List.lookup]
  obtain ⟨u, hu, ru⟩ := RelO.some_of (v := v) (o := mA f) (by rw [← l]; exact hr f)
  have J : PySem.W.InstAt s1.heap a oe C (some od) := ⟨ha, hz.1, by unfold PySem.W.notCls; rw [hd] <;> rfl, by rw [hz.2]; exact ho⟩
  exact HandSPX.exc_get I1.kIn J O.E.hg O.E.hk O.E.hs (PySem.W.findObj_own O.E.hd O.no rfl (by rw [hl, hu])) (handed_of ru) ⟨v, H1, I1.tok _, ru, q⟩
/-- isinstance(n, c) -/
def rIsD (K : PySem.W.Frag) (C a : Addr) (cls : Value) (d : Option Addr) : List V → Hp → VK → Prop := fun xs H Q => ∃ (cv : Value) (c : V) (b : Bool) (dd : Addr) (fs : List (Str × V)), cls = .ref C ∧ xs = [.ref a, c] ∧ ClsV c cv ∧ PySem.W.kitOne K (.ref C) cv = some b ∧ d = some dd ∧ H dd = some (.xd fs) ∧ Q (.bl b) H
theorem call_isD {a : Addr} {oe : Obj} {cls : Value} {pn : List (Addr × Obj)} {d : Option Addr} (E : ExcC X.K C) (hz : Zc cls d oe) (hf : ∃ vs, oe.data = .fields vs) : CallR (X.suite a ((a, oe) :: pn)) (.builtin "isinstance") (rIsD X.K C a cls d) := by
  intro pins s σ H xs us Q I r h
  obtain ⟨cv, c, b, dd, fs, ecl, rfl, hcv, e, ed, hd, q⟩ := h
  subst ecl
  cases r with
  | cons rx rr =>
    cases rr with
    | cons rt rr =>
      cases rr
      cases rx
      have ec := hcv.eq rt
      subst ec
      subst ed
      obtain ⟨hget, _⟩ := I.pin (a, oe) (List.mem_append.mpr (.inl List.mem_cons_self))
      obtain ⟨vs, hv⟩ := hf
      have hx : ObjOk X.prog X.w H s.heap dd (.xd fs) := I.hok dd _ hd
      obtain ⟨mA, hns, _⟩ := hx
      obtain ⟨od, ho, _⟩ := lookIn_ns hns
      have J : PySem.W.InstAt s.heap a oe C (some od) := ⟨hget, hz.1, by unfold PySem.W.notCls; rw [hv] <;> rfl, by rw [hz.2]; exact ho⟩
      have hcl : (PySem.W.clsIn X.K C).isSome = true := by obtain ⟨cd, hc, _⟩ := PySem.W.any_some E.hd; rw [hc]; rfl
      exact PySem.W.kia_one (PySem.W.kitx_exc hcl E.hg E.hk E.hs E.ha E.hn E.ht E.hm) I.kIn J e (fun z => nomatch z) fun tk => ⟨.bl b, H, I.kept (t' := tk) fun _ _ z => z, rfl, q⟩
end
end VL

/-! VX2: three shapes of try .. except. -/
namespace VL
open PySem PySem.Spec PyProof.Rows L2
open Evl (Ex)
variable {K : PySem.W.Frag}
/-- a slot that nothing is told of -/
theorem Sim.setU {b : Bs} {G H : Hp} {ρ : Rho} {σ : L2.St} (s : Sim K b G ρ σ H) (i : Nat) (x : Option V) : Sim K b G (ρ.set i .un) (σ.set i x) H := by
  have key : ∀ (j : Nat) (y : Slot), (ρ.set i .un)[j]? = some y → y ≠ .un → (j ≠ i ∧ ρ[j]? = some y) := fun j y e' ne => by
    by_cases hj : j = i
    · subst hj
      by_cases hl : j < ρ.length
      · rw [List.getElem?_set_self hl] at e'; cases e'; exact absurd rfl ne
      · rw [List.getElem?_eq_none (by simpa using hl)] at e'; cases e'
    · rw [List.getElem?_set_ne (Ne.symm hj)] at e'; exact ⟨hj, e'⟩
  refine ⟨by simp [s.len], s.sub, s.g0, s.b0, s.new, fun j y e' => ?_, fun j y e' => ?_, fun j k y z v' hne e1 e2 e3 e4 => ?_, fun j e' => ?_, s.wk⟩
  · obtain ⟨hj, h⟩ := key j _ e' (by simp)
    rw [List.getElem?_set_ne (Ne.symm hj)]; exact s.fz j y h
  · obtain ⟨hj, h⟩ := key j _ e' (by simp)
    rw [List.getElem?_set_ne (Ne.symm hj)]; exact s.ow j y h
  · obtain ⟨hj, h⟩ := key j _ e1 (by simp)
    obtain ⟨hk, h'⟩ := key k _ e2 (by simp)
    rw [List.getElem?_set_ne (Ne.symm hj)] at e3
    rw [List.getElem?_set_ne (Ne.symm hk)] at e4
    exact s.dj j k y z v' hne h h' e3 e4
  · obtain ⟨hj, h⟩ := key j _ e' (by simp)
    rw [List.getElem?_set_ne (Ne.symm hj)]; exact s.ws j h
/-- a new tuple, frozen -/
theorem Sim.tup {b : Bs} {G H : Hp} {ρ : Rho} {σ : L2.St} (s : Sim K b G ρ σ H) {p : Addr} {vs : List V} {ds : List D} (h : H p = none) (r : RpL K G vs ds) : Sim K b (upd G p (.tup vs)) ρ σ (upd H p (.tup vs)) ∧ Rp K (upd G p (.tup vs)) (.ref p) (.tup ds) :=
  ⟨s.laidF h, .tup upd_same (r.mono (ex_upd (s.fresh h)))⟩
/-- try: return f(..) / except N as n: return (n.f, isinstance(n, Y)) -/
def tSuA (K : PySem.W.Frag) (C : Addr) (f : Str) (i : Nat) (B : Addr) : Addr → Value → Option Addr → TS := fun a cls d => tRet (tTup (tCons (tByF C f a cls d (tVar i)) (tCons (tCB (rIsD K C a cls d) (tCons (tVar i) (tCons (tC (.ref B)) tNil))) tNil)))
def wTryA (i : Nat) (w : WRE) : WS := fun P ρ => w (fun a ρ1 => i < ρ1.length ∧ P.rt (.tup [a, .bl true]) .fz) ρ fun d k _ => P.rt d k.ret
def noW : L2.WX := fun _ _ _ _ => False
theorem set_at {σ : L2.St} {i : Nat} {x : Option V} (h : i < σ.length) : (σ.set i x)[i]? = some x := by rw [List.getElem?_set_self h]
section
variable {X : Cx} {C fI B : Addr} {n f nn Y : Str} {i j : Nat} {e : Expr} {te : L2.WX → TE} {w : WRE} {pos ph p0 p1 p2 p3 p4 p5 p6 p7 p8 p9 p10 p11 : Pos} {k1 k2 : Nat}
theorem s_tryA (hs : X.stack = X.env :: X.outer) (hf : X.env.frame = some X.env.locals) (O : OwnE X.K X.mg n f C fI) (hN : X.N.Nodup) (gB : X.mg Y = some (.ref B)) (isB : PySem.W.kitOne X.K (.ref C) (.ref B) = some true) (mis : X.mg "isinstance" = none)
    (hb : ∀ (W : L2.WX) (pn : List (Addr × Obj)) (xe : Value → Shared → Prop), Takes (X.tr pn xe) W → PE (X.tr pn xe) e (te W)) (hsn : ∀ W : L2.WX, SndEQ X.K C f W (te W) w)
    (hi : X.N[i]? = some nn := by rfl) (hln : X.env.kindOf nn = some .local := by rfl) (hg : Gl X n := by rfl) (hdb : (n == ("__debug__" : Str)) = false := by decide) (hgi : Gl X "isinstance" := by rfl) (hgY : Gl X Y := by rfl) (hdY : (Y == ("__debug__" : Str)) = false := by decide)
    (hv : Vis X.env.scope nn := by first | exact Or.inl rfl | exact Or.inr (Or.inl rfl) | exact Or.inr (Or.inr rfl)) (hd : (nn == ("__debug__" : Str)) = false := by decide) (hcd : (nn == ("__classdict__" : Str)) = false := by decide)
    (hab : attributeBase (.Name nn p3) f X.env (eval (.Name nn p3) X.env) = eval (.Name nn p3) X.env := by rfl)
    (h1 : starEach [.Attribute (.Name nn p3) f p4, .Call (.Name "isinstance" p5) [.Name nn p6, .Name Y p7] [] p8] X.env = (false, eval (.Attribute (.Name nn p3) f p4) X.env) :: starEach [.Call (.Name "isinstance" p5) [.Name nn p6, .Name Y p7] [] p8] X.env := by rfl)
    (h2 : starEach [.Call (.Name "isinstance" p5) [.Name nn p6, .Name Y p7] [] p8] X.env = (false, eval (.Call (.Name "isinstance" p5) [.Name nn p6, .Name Y p7] [] p8) X.env) :: starEach [] X.env := by rfl)
    (h3 : starEach [.Name nn p6, .Name Y p7] X.env = (false, eval (.Name nn p6) X.env) :: starEach [.Name Y p7] X.env := by rfl) (h4 : starEach [.Name Y p7] X.env = (false, eval (.Name Y p7) X.env) :: starEach [] X.env := by rfl)
    (h5 : (backTo p8 (starEach [.Name Y p7] X.env)).any (·.1) = false := by rfl) :
    SS X (.Try [.Return (some e) p1] [.ExceptHandler (some (.Name n p2)) (some nn) [.Return (some (.Tuple [.Attribute (.Name nn p3) f p4, .Call (.Name "isinstance" p5) [.Name nn p6, .Name Y p7] [] p8] k1 p9)) p0] ph] [] [] pos)
      (fun D σ H => tRet (te (wAs X.K (.ref C) i (tSuA X.K C f i B) noW D)) D σ H) (wTryA i w) := by
  refine ⟨?_, ?_⟩
  · refine ps_try_as (i := i) (tb := fun W => tRet (te W)) hs hf hN hi hln ⟨hg, hdb, .inl O.gC⟩ takes0 (fun W pn xe tk _ => pss_one (ps_ret (hb W pn xe tk))) (fun a oe cls d pn hz hf' => pss_one (ps_ret (pe_tup (pa_cons (pe_byF O hz hf' (pe_var (X := X.suite a ((a, oe) :: pn)) hi hv hd hcd) hab) (pa_cons ?_ pa_nil h2) h1))))
    exact pe_callB (X := X.suite a ((a, oe) :: pn)) (call_isD O.E hz hf') hgi mis (by decide +kernel) (pa_cons (pe_var hi hv hd hcd) (pa_cons (pe_glob hgY gB rfl hdY) pa_nil h4) h3) (by decide) (by decide) h3 h5
  · intro b P E G ρ σ H e s hq
    refine hsn (wAs X.K (.ref C) i (tSuA X.K C f i B) noW E) b G ρ σ H _ _ _ (fun a v ρ1 σ1 G1 H1 d hx av s1 ed => ?_) s hq fun d k ρ' v G' H' q x s' r => e.rt d _ v ρ' σ G' H' q s' (r.rr s s')
    obtain ⟨hl, xa⟩ := hx
    have hl' : i < σ1.length := by rw [← s1.len]; exact hl
    refine ⟨true, O.ex, fun _ ax hax => ?_, fun q => nomatch q⟩
    refine ⟨.ref ax, set_at hl', rfl, rfl, d, v, rfl, ed, .ref ax, set_at hl', .ref B, .ref B, true, d, [(f, v)], rfl, rfl, .own B, isB, rfl, ed, by show 2 ≤ sizeLine; rw [sizeLine_eq]; omega, fun p hp => ?_⟩
    obtain ⟨s2, r2⟩ := s1.tup hp (.cons (atV_rp av) (.cons (.bl true) .nil))
    exact e.rt _ .fz _ ρ1 σ1 _ _ xa s2 r2
/-- try: return f(..) / except N: return None -/
def wTryN (w : WRE) : WS := fun P ρ => w (fun _ _ => P.rt .non .fz) ρ fun d k _ => P.rt d k.ret
theorem s_tryN (hs : X.stack = X.env :: X.outer) (hf : X.env.frame = some X.env.locals) (O : OwnE X.K X.mg n f C fI)
    (hb : ∀ (W : L2.WX) (pn : List (Addr × Obj)) (xe : Value → Shared → Prop), Takes (X.tr pn xe) W → PE (X.tr pn xe) e (te W)) (hsn : ∀ W : L2.WX, SndEQ X.K C f W (te W) w)
    (hg : Gl X n := by rfl) (hdb : (n == ("__debug__" : Str)) = false := by decide) :
    SS X (.Try [.Return (some e) p1] [.ExceptHandler (some (.Name n p2)) none [.Return (some (.Constant .none k1 p3)) p0] ph] [] [] pos)
      (fun D σ H => tRet (te (wOnly X.K (.ref C) (fun _ _ _ => tRet (tC .non)) noW D)) D σ H) (wTryN w) := by
  refine ⟨?_, ?_⟩
  · exact ps_try_only (tb := fun W => tRet (te W)) hs hf ⟨hg, hdb, .inl O.gC⟩ takes0 (fun W pn xe tk _ => pss_one (ps_ret (hb W pn xe tk))) (fun a oe cls d pn hz hf' => pss_one (ps_ret pe_non))
  · intro b P E G ρ σ H e s hq
    refine hsn (wOnly X.K (.ref C) (fun _ _ _ => tRet (tC .non)) noW E) b G ρ σ H _ _ _ (fun a v ρ1 σ1 G1 H1 d hx av s1 ed => ?_) s hq fun d k ρ' v G' H' q x s' r => e.rt d _ v ρ' σ G' H' q s' (r.rr s s')
    exact ⟨true, O.ex, fun _ ax hax => e.rt .non .fz .non ρ1 σ1 G1 H1 hx s1 .non, fun q => nomatch q⟩
/-- try: t = (True, f(..)) / except N as n: t = (False, n.f) -/
def tSuT (C : Addr) (f : Str) (i j : Nat) : Addr → Value → Option Addr → TS := fun a cls d => tAsg (tTup (tCons (tC (.bl false)) (tCons (tByF C f a cls d (tVar i)) tNil))) (gName j)
def wTryT (i j : Nat) (w : WRE) : WS := fun P ρ => w (fun a ρ1 => i < ρ1.length ∧ P.nx ((((ρ1.set i .un).set j (.fz (.tup [.bl false, a]))).set i .un))) ρ (toF fun d ρ1 => P.nx (ρ1.set j (.fz (.tup [.bl true, d]))))
theorem s_tryT {tn : Str} (hs : X.stack = X.env :: X.outer) (hf : X.env.frame = some X.env.locals) (O : OwnE X.K X.mg n f C fI) (hN : X.N.Nodup)
    (hb : ∀ (W : L2.WX) (pn : List (Addr × Obj)) (xe : Value → Shared → Prop), Takes (X.tr pn xe) W → PE (X.tr pn xe) e (te W)) (hsn : ∀ W : L2.WX, SndEQ X.K C f W (te W) w)
    (hi : X.N[i]? = some nn := by rfl) (hj : X.N[j]? = some tn := by rfl) (hij : i ≠ j := by decide) (hln : X.env.kindOf nn = some .local := by rfl) (hg : Gl X n := by rfl) (hdb : (n == ("__debug__" : Str)) = false := by decide)
    (hv : Vis X.env.scope nn := by first | exact Or.inl rfl | exact Or.inr (Or.inl rfl) | exact Or.inr (Or.inr rfl)) (hd : (nn == ("__debug__" : Str)) = false := by decide) (hcd : (nn == ("__classdict__" : Str)) = false := by decide)
    (hab : attributeBase (.Name nn p3) f X.env (eval (.Name nn p3) X.env) = eval (.Name nn p3) X.env := by rfl)
    (hx : Loc X.env.scope tn := by first | exact Or.inl rfl | exact Or.inr rfl) (hfn : X.fn tn = true ∨ X.env.scope.names.lookup tn = some .local := by first | exact .inl rfl | exact .inr rfl)
    (hs1 : swapsWith (.Tuple [.Constant (.bool true) k2 p5, e] k1 p6) (some (.Name tn p1)) p7.line X.env = pure false := by rfl)
    (hs2 : swapsWith (.Tuple [.Constant (.bool false) k2 p8, .Attribute (.Name nn p3) f p4] k1 p9) (some (.Name tn p10)) p11.line X.env = pure false := by rfl)
    (h1 : starEach [.Constant (.bool true) k2 p5, e] X.env = (false, eval (.Constant (.bool true) k2 p5) X.env) :: starEach [e] X.env := by rfl) (h2 : starEach [e] X.env = (false, eval e X.env) :: starEach [] X.env := by rfl)
    (h3 : starEach [.Constant (.bool false) k2 p8, .Attribute (.Name nn p3) f p4] X.env = (false, eval (.Constant (.bool false) k2 p8) X.env) :: starEach [.Attribute (.Name nn p3) f p4] X.env := by rfl)
    (h4 : starEach [.Attribute (.Name nn p3) f p4] X.env = (false, eval (.Attribute (.Name nn p3) f p4) X.env) :: starEach [] X.env := by rfl) :
    SS X (.Try [.Assign [.Name tn p1] (.Tuple [.Constant (.bool true) k2 p5, e] k1 p6) p7] [.ExceptHandler (some (.Name n p2)) (some nn) [.Assign [.Name tn p10] (.Tuple [.Constant (.bool false) k2 p8, .Attribute (.Name nn p3) f p4] k1 p9) p11] ph] [] [] pos)
      (fun D σ H => tAsg (tTup (tCons (tC (.bl true)) (tCons (te (wAs X.K (.ref C) i (tSuT C f i j) noW D)) tNil))) (gName j) D σ H) (wTryT i j w) := by
  refine ⟨?_, ?_⟩
  · exact ps_try_as (i := i) (tb := fun W => tAsg (tTup (tCons (tC (.bl true)) (tCons (te W) tNil))) (gName j)) hs hf hN hi hln ⟨hg, hdb, .inl O.gC⟩ takes0 (fun W pn xe tk _ => pss_one (ps_set (X := X.tr pn xe) hN hj hx (pe_tup (pa_cons pe_bl (pa_cons (hb W pn xe tk) pa_nil h2) h1)) hs1 hfn))
      (fun a oe cls d pn hz hf' => pss_one (ps_set (X := X.suite a ((a, oe) :: pn)) hN hj hx (pe_tup (pa_cons pe_bl (pa_cons (pe_byF O hz hf' (pe_var (X := X.suite a ((a, oe) :: pn)) hi hv hd hcd) hab) pa_nil h4) h3)) hs2 hfn))
  · intro b P E G ρ σ H e s hq
    refine hsn (wAs X.K (.ref C) i (tSuT C f i j) noW E) b G ρ σ H _ _ _ (fun a v ρ1 σ1 G1 H1 d hx' av s1 ed => ?_) s hq fun d k ρ' v G' H' q x s' r => ?_
    · obtain ⟨hl, xa⟩ := hx'
      have hl' : i < σ1.length := by rw [← s1.len]; exact hl
      refine ⟨true, O.ex, fun _ ax hax => ?_, fun q => nomatch q⟩
      refine ⟨.ref ax, set_at hl', rfl, rfl, d, v, rfl, ed, by show 2 ≤ sizeLine; rw [sizeLine_eq]; omega, fun p hp => ?_⟩
      obtain ⟨s2, r2⟩ := (s1.setU i (some (.ref ax))).tup hp (.cons (.bl false) (.cons (atV_rp av) .nil))
      exact e.nx _ _ _ _ xa ((s2.setF j r2).setU i none)
    · refine frozen (R := fun v H' => [V.bl true, v].length ≤ sizeLine ∧ ∀ p, H' p = none → gName j (.ref p) σ (upd H' p (.tup [V.bl true, v])) E.nx) q x s s' r fun d ρ1 v G1 q1 x1 s1 r1 => ⟨by show 2 ≤ sizeLine; rw [sizeLine_eq]; omega, fun p hp => ?_⟩
      obtain ⟨s2, r2⟩ := s1.tup hp (.cons (.bl true) (.cons r1 .nil))
      exact e.nx _ _ _ _ q1 (s2.setF j r2)
end
end VL

/-! VX3: loops that may raise, calls in a try, what the text says of an error's class. -/
namespace VL
open PySem PySem.Spec PyProof.Rows L2
open Evl (Ex)
variable {K : PySem.W.Frag}
theorem sndQ_for {C : Addr} {f : Str} {W : L2.WX} {wi : TI} {t : WI} {tg : TG} {g : WG} {ts : TS} {r : WRS} (hi : SndIF K wi t) (hg : SndG K tg g) (hb : SndQ K C f W ts r) : SndQ K C f W (tFor wi tg ts) (fun x => wFor t g (r x)) := fun b P E G ρ σ H x0 e o0 s hq => by
  refine hi b G ρ σ H _ _ s hq fun xs ρ1 J G1 H1 q1 x1 s1 wk => ?_
  refine ⟨fun i m σ H => m = xs.length - i ∧ i ≤ xs.length ∧ ∃ G2 ρ2, Sim K b G2 ρ2 σ H ∧ Ex G1 G2 ∧ wLoop g (r x0) P (xs.drop i) ρ2, ⟨_, rfl, Nat.zero_le _, G1, ρ1, s1, Ex.refl _, q1⟩, ?_⟩
  rintro i m σ2 H2 ⟨rfl, hi2, G2, ρ2, s2, g2, q2⟩
  obtain ⟨w1, w2⟩ := wk G2 H2 i g2 (g2.trans s2.le) s2.le
  by_cases hlt : i < xs.length
  · obtain ⟨go, yl⟩ := w1 xs[i] (List.getElem?_eq_getElem hlt)
    rw [List.drop_eq_getElem_cons hlt] at q2
    refine .inr ⟨go, fun σ' H' => ∃ G' ρ', Sim K b G' ρ' σ' H' ∧ Ex G1 G' ∧ wLoop g (r x0) P (xs.drop (i + 1)) ρ', fun σ' H' ⟨G', ρ', a1, a2, a3⟩ => ⟨xs.length - (i + 1), by omega, rfl, hlt, G', ρ', a1, a2, a3⟩, fun x H' y => ?_⟩
    refine yl_go s2 (yl x H' y) fun G3 g3 x3 s3 r3 => ?_
    refine hg b G3 ρ2 σ2 H' x _ _ _ s3 r3 q2 fun ρ4 σ4 q4 p4 => ?_
    -- the body, from G3 on: what it leaves frozen stays
    have b' : Sim K ⟨b.aw, G3, b.B0⟩ G3 ρ4 σ4 H' := ⟨p4.1.len, p4.1.sub, Ex.refl _, p4.1.b0, fun a o e1 e2 => e2, p4.1.fz, p4.1.ow, p4.1.dj, p4.1.ws, p4.1.wk⟩
    have back : ∀ {ρ σ G H}, Sim K ⟨b.aw, G3, b.B0⟩ G ρ σ H → Sim K b G ρ σ H ∧ Ex G1 G := fun {ρ σ G H} z =>
      ⟨⟨z.len, z.sub, s3.g0.trans z.g0, z.b0, fun a o e1 e2 => z.new a o e1 (s3.new a o e1 e2), z.fz, z.ow, z.dj, z.ws, z.wk⟩, (g2.trans g3).trans z.g0⟩
    refine hb ⟨b.aw, G3, b.B0⟩ _ _ G3 ρ4 σ4 H' x0 ⟨fun ρ σ G H q z => ?_, fun d k v ρ σ G H q z r => ?_, fun ρ σ G H q z => ?_, fun ρ σ G H q z => ?_⟩ (fun a v ρ σ G H d q av z ed => o0 a v ρ σ G H d q av (back z).1 ed) b' q4
    · exact ⟨G, ρ, (back z).1, (back z).2, q⟩
    · exact e.rt d k v ρ σ G H q (back z).1 (by cases k <;> exact r)
    · exact e.nx ρ σ G H q (back z).1
    · exact ⟨G, ρ, (back z).1, (back z).2, q⟩
  · have ei : i = xs.length := by omega
    subst ei
    rw [List.drop_length] at q2
    exact .inl ⟨w2 (Nat.le_refl _), e.nx ρ2 σ2 G2 H2 q2 s2⟩
section
variable {X : Cx} {C fI B : Addr} {n f nn Y : Str} {i j : Nat} {W : L2.WX} {tg iter e : Expr} {es : List Expr} {sts : List Stmt} {wi : TI} {wj : WI} {tgt : TG} {g : WG} {ts : TS} {r : WRS} {sp : FSX} {xa : TA} {y : VL.WX} {k : Nat} {x : Str} {ps : List Str} {st : Stmt} {pos ph p0 p1 p2 p3 p4 p5 p6 p7 p8 p9 p10 p11 pp pc : Pos} {k1 k2 : Nat}
theorem q_for (hi : SIF X tg iter wi wj) (hg : SG X tg tgt g) (hb : SBQ X C f W sts ts r) (hp : PassesOwn (model X.prog X.w) X.A X.env X.xe := by exact passes_of rfl) (hc : X.calm = true := by rfl) (hs : ∀ x, foldedSetIterable iter X.env x = pure x := by intro _; rfl) :
    SSQ X C f W (.For tg iter sts [] pos) (tFor wi tgt ts) (fun z => wFor wj g (r z)) := ⟨ps_for hp hc hi.pi hg.pg hb.ps hs, sndQ_for hi.snd hg.snd hb.snd⟩
theorem s_tryAc {D : Df X.K X.mg x ps st} (F : OkX X.prog X.w X.base D k C f sp) (hr : Room k X.A) (ha : ∀ (pn : List (Addr × Obj)) (xe : Value → Shared → Prop), SX (X.tr pn xe) (e :: es) xa y) (i : Nat) (O : OwnE X.K X.mg n f C fI) (hN : X.N.Nodup) (gB : X.mg Y = some (.ref B)) (isB : PySem.W.kitOne X.K (.ref C) (.ref B) = some true) (mis : X.mg "isinstance" = none)
    (hs : X.stack = X.env :: X.outer := by rfl) (hf : X.env.frame = some X.env.locals := by rfl)
    (hgx : Gl X x := by rfl) (hdx : (x == ("__debug__" : Str)) = false := by decide) (hse : starEach (e :: es) X.env = (false, eval e X.env) :: starEach es X.env := by rfl) (hpl : (backTo pc (starEach es X.env)).any (·.1) = false := by rfl)
    (hi : X.N[i]? = some nn := by rfl) (hln : X.env.kindOf nn = some .local := by rfl) (hg : Gl X n := by rfl) (hdb : (n == ("__debug__" : Str)) = false := by decide) (hgi : Gl X "isinstance" := by rfl) (hgY : Gl X Y := by rfl) (hdY : (Y == ("__debug__" : Str)) = false := by decide)
    (hv : Vis X.env.scope nn := by first | exact Or.inl rfl | exact Or.inr (Or.inl rfl) | exact Or.inr (Or.inr rfl)) (hd : (nn == ("__debug__" : Str)) = false := by decide) (hcd : (nn == ("__classdict__" : Str)) = false := by decide)
    (hab : attributeBase (.Name nn p3) f X.env (eval (.Name nn p3) X.env) = eval (.Name nn p3) X.env := by rfl)
    (h1 : starEach [.Attribute (.Name nn p3) f p4, .Call (.Name "isinstance" p5) [.Name nn p6, .Name Y p7] [] p8] X.env = (false, eval (.Attribute (.Name nn p3) f p4) X.env) :: starEach [.Call (.Name "isinstance" p5) [.Name nn p6, .Name Y p7] [] p8] X.env := by rfl)
    (h2 : starEach [.Call (.Name "isinstance" p5) [.Name nn p6, .Name Y p7] [] p8] X.env = (false, eval (.Call (.Name "isinstance" p5) [.Name nn p6, .Name Y p7] [] p8) X.env) :: starEach [] X.env := by rfl)
    (h3 : starEach [.Name nn p6, .Name Y p7] X.env = (false, eval (.Name nn p6) X.env) :: starEach [.Name Y p7] X.env := by rfl) (h4 : starEach [.Name Y p7] X.env = (false, eval (.Name Y p7) X.env) :: starEach [] X.env := by rfl)
    (h5 : (backTo p8 (starEach [.Name Y p7] X.env)).any (·.1) = false := by rfl) :
    SS X (.Try [.Return (some (.Call (.Name x pp) (e :: es) [] pc)) p1] [.ExceptHandler (some (.Name n p2)) (some nn) [.Return (some (.Tuple [.Attribute (.Name nn p3) f p4, .Call (.Name "isinstance" p5) [.Name nn p6, .Name Y p7] [] p8] k1 p9)) p0] ph] [] [] pos)
      (fun D σ H => tRet (tCallS (toSpX X.K C f sp) (L2.WE (wAs X.K (.ref C) i (tSuA X.K C f i B) noW D)) xa) D σ H) (wTryA i (wCallX sp y)) :=
  s_tryA (te := fun W => tCallS (toSpX X.K C f sp) (L2.WE W) xa) hs hf O hN gB isB mis (fun W pn xe tk => pe_callS (X := X.tr pn xe) F hr hgx D.g D.F.kp D.b (fun σ => passAt tk σ) (ha pn xe).pa hdx hse hpl) (fun W => snd_callX (ha X.pn X.xe).snd) hi hln hg hdb hgi hgY hdY hv hd hcd hab h1 h2 h3 h4 h5
theorem s_tryNc {D : Df X.K X.mg x ps st} (F : OkX X.prog X.w X.base D k C f sp) (hr : Room k X.A) (ha : ∀ (pn : List (Addr × Obj)) (xe : Value → Shared → Prop), SX (X.tr pn xe) (e :: es) xa y) (O : OwnE X.K X.mg n f C fI)
    (hs : X.stack = X.env :: X.outer := by rfl) (hf : X.env.frame = some X.env.locals := by rfl)
    (hgx : Gl X x := by rfl) (hdx : (x == ("__debug__" : Str)) = false := by decide) (hse : starEach (e :: es) X.env = (false, eval e X.env) :: starEach es X.env := by rfl) (hpl : (backTo pc (starEach es X.env)).any (·.1) = false := by rfl)
    (hg : Gl X n := by rfl) (hdb : (n == ("__debug__" : Str)) = false := by decide) :
    SS X (.Try [.Return (some (.Call (.Name x pp) (e :: es) [] pc)) p1] [.ExceptHandler (some (.Name n p2)) none [.Return (some (.Constant .none k1 p3)) p0] ph] [] [] pos)
      (fun D σ H => tRet (tCallS (toSpX X.K C f sp) (L2.WE (wOnly X.K (.ref C) (fun _ _ _ => tRet (tC .non)) noW D)) xa) D σ H) (wTryN (wCallX sp y)) :=
  s_tryN (te := fun W => tCallS (toSpX X.K C f sp) (L2.WE W) xa) hs hf O (fun W pn xe tk => pe_callS (X := X.tr pn xe) F hr hgx D.g D.F.kp D.b (fun σ => passAt tk σ) (ha pn xe).pa hdx hse hpl) (fun W => snd_callX (ha X.pn X.xe).snd) hg hdb
theorem s_tryTc {tn : Str} {D : Df X.K X.mg x ps st} (F : OkX X.prog X.w X.base D k C f sp) (hr : Room k X.A) (ha : ∀ (pn : List (Addr × Obj)) (xe : Value → Shared → Prop), SX (X.tr pn xe) (e :: es) xa y) (i j : Nat) (O : OwnE X.K X.mg n f C fI) (hN : X.N.Nodup)
    (hs : X.stack = X.env :: X.outer := by rfl) (hf : X.env.frame = some X.env.locals := by rfl)
    (hgx : Gl X x := by rfl) (hdx : (x == ("__debug__" : Str)) = false := by decide) (hse : starEach (e :: es) X.env = (false, eval e X.env) :: starEach es X.env := by rfl) (hpl : (backTo pc (starEach es X.env)).any (·.1) = false := by rfl)
    (hi : X.N[i]? = some nn := by rfl) (hj : X.N[j]? = some tn := by rfl) (hij : i ≠ j := by decide) (hln : X.env.kindOf nn = some .local := by rfl) (hg : Gl X n := by rfl) (hdb : (n == ("__debug__" : Str)) = false := by decide)
    (hv : Vis X.env.scope nn := by first | exact Or.inl rfl | exact Or.inr (Or.inl rfl) | exact Or.inr (Or.inr rfl)) (hd : (nn == ("__debug__" : Str)) = false := by decide) (hcd : (nn == ("__classdict__" : Str)) = false := by decide)
    (hab : attributeBase (.Name nn p3) f X.env (eval (.Name nn p3) X.env) = eval (.Name nn p3) X.env := by rfl)
    (hx : Loc X.env.scope tn := by first | exact Or.inl rfl | exact Or.inr rfl) (hfn : X.fn tn = true ∨ X.env.scope.names.lookup tn = some .local := by first | exact .inl rfl | exact .inr rfl)
    (hs1 : swapsWith (.Tuple [.Constant (.bool true) k2 p5, .Call (.Name x pp) (e :: es) [] pc] k1 p6) (some (.Name tn p1)) p7.line X.env = pure false := by rfl)
    (hs2 : swapsWith (.Tuple [.Constant (.bool false) k2 p8, .Attribute (.Name nn p3) f p4] k1 p9) (some (.Name tn p10)) p11.line X.env = pure false := by rfl)
    (h1 : starEach [.Constant (.bool true) k2 p5, .Call (.Name x pp) (e :: es) [] pc] X.env = (false, eval (.Constant (.bool true) k2 p5) X.env) :: starEach [.Call (.Name x pp) (e :: es) [] pc] X.env := by rfl) (h2 : starEach [.Call (.Name x pp) (e :: es) [] pc] X.env = (false, eval (.Call (.Name x pp) (e :: es) [] pc) X.env) :: starEach [] X.env := by rfl)
    (h3 : starEach [.Constant (.bool false) k2 p8, .Attribute (.Name nn p3) f p4] X.env = (false, eval (.Constant (.bool false) k2 p8) X.env) :: starEach [.Attribute (.Name nn p3) f p4] X.env := by rfl)
    (h4 : starEach [.Attribute (.Name nn p3) f p4] X.env = (false, eval (.Attribute (.Name nn p3) f p4) X.env) :: starEach [] X.env := by rfl) :
    SS X (.Try [.Assign [.Name tn p1] (.Tuple [.Constant (.bool true) k2 p5, .Call (.Name x pp) (e :: es) [] pc] k1 p6) p7] [.ExceptHandler (some (.Name n p2)) (some nn) [.Assign [.Name tn p10] (.Tuple [.Constant (.bool false) k2 p8, .Attribute (.Name nn p3) f p4] k1 p9) p11] ph] [] [] pos)
      (fun D σ H => tAsg (tTup (tCons (tC (.bl true)) (tCons (tCallS (toSpX X.K C f sp) (L2.WE (wAs X.K (.ref C) i (tSuT C f i j) noW D)) xa) tNil))) (gName j) D σ H) (wTryT i j (wCallX sp y)) :=
  s_tryT (te := fun W => tCallS (toSpX X.K C f sp) (L2.WE W) xa) hs hf O hN (fun W pn xe tk => pe_callS (X := X.tr pn xe) F hr hgx D.g D.F.kp D.b (fun σ => passAt tk σ) (ha pn xe).pa hdx hse hpl) (fun W => snd_callX (ha X.pn X.xe).snd) hi hj hij hln hg hdb hv hd hcd hab hx hfn hs1 hs2 h1 h2 h3 h4
end
/-- the base of the error's class -/
structure BaseE (K : PySem.W.Frag) (mg : Str → Option Value) (y : Str) (B : Addr) : Prop where
  g : mg y = some (.ref B)
  ty : PySem.W.typeIn K (.ref B) = some (.type "type")
  rd : PySem.W.readsIn K B (.type "type") = true
  ga : PySem.W.specialIn K (.ref B) "__getattribute__" = some (some (.builtin "type.__getattribute__"))
  vV : PySem.W.findCls K (.ref B) (.type "type") "__init__" = some (.val (.builtin "ValueError.__init__"))
def clsBody : Stmt → List Stmt
  | .ClassDef _ _ _ b _ _ _ _ _ _ _ => b
  | _ => []
def rAddS : R2 := fun x y H Q => ∃ i j, x = .str i ∧ y = .str j ∧ i.length + j.length ≤ sizeLine ∧ Q (.str (i ++ j)) H
/-- __init__(self, a): B.__init__(self, 'm' + a); self.f = a -/
theorem init_txt {f m : Str} {C : Addr} {vs : List V} {H : Hp} {Q : VK} {E : XK} {a1 a2 : Str} (T : OexC K C) (no : PySem.W.findIn K (.ref C) f = some none) (hm : m.length ≤ 1000) (h : spInit true C f vs H Q E) :
    tSeq (tDrop (tVeI K (tCons (tVar 0) (tCons (tOp rAddS (tC (.str m)) (tVar 1)) tNil)))) (tOst K f (tVar 0) (tVar 1)) { nx := fun _ H' => Q .non H', rt := Q } (L2.start [a1, a2] vs) H := by
  obtain ⟨a, v, rfl, ⟨s, rfl, hl⟩, ha, hq⟩ := h
  exact ⟨_, rfl, _, rfl, m, s, rfl, rfl, by rw [sizeLine_eq]; omega, a, C, _, rfl, by simp, T, ha, _, rfl, _, rfl, a, C, rfl, T, no, .inl ⟨ha, fun dx hd hne => hq dx hd hne⟩⟩
/-- __init__(self, a): B.__init__(self, 'm'); self.f = a -/
theorem init_con {f m : Str} {C : Addr} {vs : List V} {H : Hp} {Q : VK} {E : XK} {a1 a2 : Str} (T : OexC K C) (no : PySem.W.findIn K (.ref C) f = some none) (h : spInit false C f vs H Q E) :
    tSeq (tDrop (tVeI K (tCons (tVar 0) (tCons (tC (.str m)) tNil)))) (tOst K f (tVar 0) (tVar 1)) { nx := fun _ H' => Q .non H', rt := Q } (L2.start [a1, a2] vs) H := by
  obtain ⟨a, v, rfl, ⟨i, rfl⟩, ha, hq⟩ := h
  exact ⟨_, rfl, a, C, _, rfl, by simp, T, ha, _, rfl, _, rfl, a, C, rfl, T, no, .inl ⟨ha, fun dx hd hne => hq dx hd hne⟩⟩
end VL

/-! VY1: sep.join(xs), x.split(sep), a tuple's index of a text; targets with subscripts side by side. -/
namespace VL
open PySem PySem.Spec PyProof.Rows L2
open Evl (Ex)
variable {K : PySem.W.Frag}
def txtsOf : List D → Option (List Str)
  | [] => some []
  | .str x :: r => (txtsOf r).map (x :: ·)
  | _ :: _ => none
theorem txtsOf_map : ∀ xs : List Str, txtsOf (xs.map .str) = some xs
  | [] => rfl
  | x :: r => by rw [List.map_cons, txtsOf, txtsOf_map r]; rfl
theorem txts_v {G : Hp} : ∀ {vs : List V} {ds : List D} {xs : List Str}, RpL K G vs ds → txtsOf ds = some xs → vs = xs.map V.str
  | _, _, _, .nil, h => by cases h; rfl
  | _, _, xs, .cons (d := d) (ds := r0) a r, h => by
    cases a with
    | str x =>
      unfold txtsOf at h
      cases hr : txtsOf r0 with
      | none => rw [hr] at h; cases h
      | some ys =>
        rw [hr] at h; cases h
        rw [txts_v r hr]; rfl
    | _ => cases h
/-- sep.join(xs) -/
def wJoin (t u : WE) : WE := fun ρ Q => t ρ fun d _ ρ1 => match d with
  | .str a => u ρ1 fun e _ ρ2 => match e with
    | .lst ds => match txtsOf ds with
      | some ys => (ys.map (·.length)).sum + ys.length * a.length ≤ 16777216 ∧ Q (.str (Txt.join a ys)) .fz ρ2
      | none => False
    | _ => False
  | _ => False
/-- x.split(sep) -/
def wSplit (t u : WE) : WE := fun ρ Q => t ρ fun d _ ρ1 => match d with
  | .str a => u ρ1 fun e _ ρ2 => match e with
    | .str b => b.length ≠ 0 ∧ a.length ≤ 100000 ∧ Q (.lst ((Txt.split a b).map .str)) .nw ρ2
    | _ => False
  | _ => False
def rJoin (K : PySem.W.Frag) : V → List V → Hp → VK → Prop := fun x xs H Q => ∃ a p, ∃ ys : List Str, x = .str a ∧ xs = [.ref p] ∧ (SqL K H p (ys.map V.str) ∨ SqT K H p (ys.map V.str)) ∧
      (ys.map (·.length)).sum + ys.length * a.length ≤ 16777216 ∧ Q (.str (Txt.join a ys)) H
def rSplit : V → List V → Hp → VK → Prop := fun x xs H Q => ∃ a b, x = .str a ∧ xs = [.str b] ∧ (b.length == 0) = false ∧ a.length + 2 ≤ sizeLine ∧ rNewStrs (Txt.split a b) H Q
theorem rp_strs {G : Hp} : ∀ xs : List Str, RpL K G (xs.map V.str) (xs.map D.str)
  | [] => .nil
  | x :: r => .cons (.str x) (rp_strs r)
section
variable {X : Cx} {e a b c : Expr} {es : List Expr} {te ta tb : TE} {t u : WE} {pos pp p2 : Pos} {xa : TA} {x : WA}
theorem e_join {ap : Pos} (ha : SE X a ta t) (hb : SE X b tb u) (hs : starEach [b] X.env = [(false, eval b X.env)] := by rfl) (hbase : attributeBase a "join" X.env (eval a X.env) = eval a X.env := by rfl) (hline : (ap.endLine == pos.line) = true := by rfl) :
    SE X (.Call (.Attribute a "join" ap) [b] [] pos) (tM1 (rJoin X.K) ta tb) (wJoin t u) :=
  ⟨pe_join ha.pe hb.pe hs hbase hline, fun B G ρ σ H Q R s hq k => by
    refine ha.snd B G ρ σ H _ _ s hq fun d kd ρ1 v G1 H1 q1 x1 s1 r1 => ?_
    split at q1
    · rename_i z
      obtain rfl := ov_str (r1.ov s1)
      refine ⟨⟨z, rfl⟩, ?_⟩
      refine hb.snd B G1 ρ1 σ H1 _ _ s1 q1 fun e ke ρ2 w G2 H2 q2 x2 s2 r2 => ?_
      split at q2
      · rename_i ds
        obtain ⟨p, vs, rfl, t2, l2⟩ := r2.ov s2
        split at q2
        · rename_i ys hy
          obtain rfl := txts_v l2 hy
          exact ⟨z, p, ys, rfl, rfl, .inl (.inl (.inl (hd_le _ _ t2))), q2.1, k _ .fz _ _ _ _ q2.2 (x1.trans x2) s2 (.str _)⟩
        · exact q2.elim
      · exact q2.elim
    · exact q1.elim⟩
theorem e_split {ap : Pos} (ha : SE X a ta t) (hb : SE X b tb u) (hs : starEach [b] X.env = [(false, eval b X.env)] := by rfl) (hbase : attributeBase a "split" X.env (eval a X.env) = eval a X.env := by rfl) (hline : (ap.endLine == pos.line) = true := by rfl) :
    SE X (.Call (.Attribute a "split" ap) [b] [] pos) (tM1 rSplit ta tb) (wSplit t u) :=
  ⟨pe_split ha.pe hb.pe hs hbase hline, fun B G ρ σ H Q R s hq k => by
    refine ha.snd B G ρ σ H _ _ s hq fun d kd ρ1 v G1 H1 q1 x1 s1 r1 => ?_
    split at q1
    · rename_i z
      obtain rfl := ov_str (r1.ov s1)
      refine ⟨⟨z, rfl⟩, ?_⟩
      refine hb.snd B G1 ρ1 σ H1 _ _ s1 q1 fun e ke ρ2 w G2 H2 q2 x2 s2 r2 => ?_
      split at q2
      · rename_i y
        obtain rfl := ov_str (r2.ov s2)
        refine ⟨z, y, rfl, rfl, by simpa using q2.1, by rw [sizeLine_eq]; have := q2.2.1; omega, fun p hp => ?_⟩
        exact (res_of s2 (fun d k' ρ' v G' H' q x s r => k d k' ρ' v G' H' q ((x1.trans x2).trans x) s (r.back (x1.trans x2).h)) q2.2.2).new p _ rfl hp ⟨_, upd_same, rp_strs _⟩
      · exact q2.elim
    · exact q1.elim⟩
end
/-! ### tuple.index of texts -/
def rTIx (K : PySem.W.Frag) : V → List V → Hp → VK → Prop := fun x xs H Q => ∃ p, ∃ ys : List Str, ∃ z j, x = .ref p ∧ xs = [.str z] ∧ SqT K H p (ys.map V.str) ∧ ys[j]? = some z ∧ (∀ m, m < j → ys[m]? ≠ some z) ∧ Q (.int (j : Nat)) H
theorem idx_at {ys : List Str} {z : Str} (h : z ∈ ys) : ys[ys.idxOf z]? = some z ∧ ∀ m, m < ys.idxOf z → ys[m]? ≠ some z := by
  refine ⟨?_, fun m hm e => ?_⟩
  · rw [List.getElem?_eq_getElem (List.idxOf_lt_length_of_mem h), List.getElem_idxOf]
  · have hml : m < ys.length := Nat.lt_trans hm (List.idxOf_lt_length_of_mem h)
    rw [List.getElem?_eq_getElem hml] at e
    have := List.not_of_lt_findIdx (p := (· == z)) (xs := ys) (i := m) hm
    simp at this e
    exact this e
def tTIx (K : PySem.W.Frag) (ta : TA) (te : TE) : TE := fun σ H Q => ta σ H fun xs H1 => xs.length ≤ sizeLine ∧ ∀ p, H1 p = none → te σ (upd H1 p (.tup xs)) fun y H2 => rTIx K (.ref p) [y] H2 Q
def wTIx (t : WA) (u : WE) : WE := fun ρ Q => t ρ fun ds ρ1 => ds.length ≤ LIM ∧ u ρ1 fun e _ ρ2 => match e with
  | .str z => match txtsOf ds with
    | some ys => z ∈ ys ∧ Q (.int (ys.idxOf z : Nat)) .fz ρ2
    | none => False
  | _ => False
section
variable {X : Cx} {e a b c : Expr} {es : List Expr} {te ta tb : TE} {t u : WE} {pos pp p2 : Pos} {xa : TA} {x : WA}
theorem pe_tix {ap tp : Pos} {k1} (ha : PA X es xa) (hb : PE X b tb) (hbase : attributeBase (.Tuple es k1 tp) "index" X.env (eval (.Tuple es k1 tp) X.env) = eval (.Tuple es k1 tp) X.env := by rfl)
    (hfew : ((backTo pos (starEach [b] X.env)).all (fun x => !x.1) && (backToKw pos (keywordEach [] X.env)).all (fun x => x.1.isSome)
      && decide (([b] : List Expr).length + ([] : List Keyword).length + (if ([] : List Keyword).isEmpty then 0 else 1) < 30)) = true := by rfl)
    (hline : (ap.endLine == pos.line) = true := by rfl) (hs : backTo pos (starEach [b] X.env) = [(false, eval b X.env)] := by rfl) : PE X (.Call (.Attribute (.Tuple es k1 tp) "index" ap) [b] [] pos) (tTIx X.K xa tb) := by
  refine ⟨fun pins s σ H Q I h => ?_⟩
  refine wpAny_Call_method_late hbase hfew hline hs (wpAny_Tuple_spliced (thn (ha.run tp pins s σ H _ I h) fun us s1 ⟨xs, H1, I1, r, z, q⟩ => ⟨by rw [← r.length]; exact z, ?_⟩))
  have hf : H1 s1.heap.objs.size = none := I1.hok.fresh (Nat.le_refl _)
  have ht : IsTup (s1.heap.push { cls := .type "tuple", data := .seq us.toArray }) s1.heap.objs.size us.toArray := ⟨_, Heap.get?_push_size _ rfl, rfl, _, rfl⟩
  refine ⟨"tuple", "tuple.index", PySem.F.plainAttrs_tuple, PySem.F.slot_tuple_index, PySem.F.type_tuple_index, ⟨_, Heap.get?_push_size _ rfl, rfl⟩, fun a e => by cases e; exact ⟨_, Heap.get?_push_size _ rfl, rfl⟩, ?_⟩
  have I2 := I1.laid (o := .tup xs) (t' := s1.toks) (h' := s1.heap.push { cls := .type "tuple", data := .seq us.toArray }) (fun b u e => Heap.get?_push_of_some _ e) (Nat.le_refl _) ⟨z, us, r, ht⟩
  refine Calls.callWith_builtin rfl (Calls.evalArgs_plain (Calls.spliced_cons ?_))
  exact thn (hb.run pins _ σ _ _ I2 (q _ hf)) fun u s2 ⟨y, H2, I3, r2, q2⟩ => Calls.spliced_nil (mt_tup_index pins s2 σ H2 (.ref s1.heap.objs.size) [y] _ [u] Q I3 rfl (.cons r2 .nil) q2)
theorem e_tix {ap tp : Pos} {k1} (ha : SA X es xa x) (hb : SE X b tb u) (hbase : attributeBase (.Tuple es k1 tp) "index" X.env (eval (.Tuple es k1 tp) X.env) = eval (.Tuple es k1 tp) X.env := by rfl)
    (hfew : ((backTo pos (starEach [b] X.env)).all (fun x => !x.1) && (backToKw pos (keywordEach [] X.env)).all (fun x => x.1.isSome)
      && decide (([b] : List Expr).length + ([] : List Keyword).length + (if ([] : List Keyword).isEmpty then 0 else 1) < 30)) = true := by rfl)
    (hline : (ap.endLine == pos.line) = true := by rfl) (hs : backTo pos (starEach [b] X.env) = [(false, eval b X.env)] := by rfl) : SE X (.Call (.Attribute (.Tuple es k1 tp) "index" ap) [b] [] pos) (tTIx X.K xa tb) (wTIx x u) :=
  ⟨pe_tix ha.pa hb.pe hbase hfew hline hs, fun B G ρ σ H Q R s hq k => by
    refine ha.snd B G ρ σ H _ _ s hq fun ds ρ1 vs G1 H1 q1 x1 s1 r1 => ?_
    refine ⟨by rw [r1.length]; exact lim_le q1.1, fun p hp => ?_⟩
    have s2 := s1.laidF (o := .tup vs) hp
    refine hb.snd B _ ρ1 σ _ _ _ s2 q1.2 fun e ke ρ2 w G2 H2 q2 x2 s3 r2 => ?_
    split at q2
    · rename_i z
      obtain rfl := ov_str (r2.ov s3)
      split at q2
      · rename_i ys hy
        obtain rfl := txts_v r1 hy
        have hi := idx_at q2.1
        exact ⟨p, ys, z, ys.idxOf z, rfl, rfl, exT s3.le (x2.g _ _ upd_same), hi.1, hi.2, k _ .fz _ _ _ _ q2.2 ((x1.trans (.laidF hp (s1.fresh hp))).trans x2) s3 (.int _)⟩
      · exact q2.elim
    · exact q2.elim⟩
/-- a module's tuple of texts -/
def GlobTx (K : PySem.W.Frag) (mg : Str → Option Value) (x : Str) (ys : List Str) : Prop := ∃ p o, mg x = some (.ref p) ∧ K.lookup p = some o ∧ o.cls = .type "tuple" ∧ o.dict = none ∧ ∀ H : Hp, SqT K H p (ys.map V.str)
theorem glob_tx {h : Heap} {mg : Str → Option Value} (X : K.In h) (G : h.Ns mainGlobals mg) {x : Str} {p : Addr} {its : Array Value} {n : Nat} {sl : Array (Option Value)} {ys : List Str} (a : PySem.W.nsIn K mainGlobals x = some (some (.ref p)))
    (l : K.lookup p = some ⟨.type "tuple", none, .seq its n, sl⟩) (hz : its.size ≤ sizeLine) (hv : Vals (ys.map V.str) its.toList) : GlobTx K mg x ys :=
  ⟨p, _, PySem.W.mg_of X G a, l, rfl, rfl, fun H => .inr ⟨_, its, n, l, rfl, rfl, hz, hv⟩⟩
def wGIx (ys : List Str) (u : WE) : WE := fun ρ Q => u ρ fun e _ ρ1 => match e with
  | .str z => z ∈ ys ∧ Q (.int (ys.idxOf z : Nat)) .fz ρ1
  | _ => False
theorem e_gix {x : Str} {ys : List Str} {np ap : Pos} (h : GlobTx X.K X.mg x ys) (hb : SE X b tb u) (hg : Gl X x := by rfl) (hd : (x == ("__debug__" : Str)) = false := by decide)
    (hbase : attributeBase (.Name x np) "index" X.env (eval (.Name x np) X.env) = eval (.Name x np) X.env := by rfl)
    (hfew : ((backTo pos (starEach [b] X.env)).all (fun x => !x.1) && (backToKw pos (keywordEach [] X.env)).all (fun x => x.1.isSome)
      && decide (([b] : List Expr).length + ([] : List Keyword).length + (if ([] : List Keyword).isEmpty then 0 else 1) < 30)) = true := by rfl)
    (hline : (ap.endLine == pos.line) = true := by rfl) (hs : starEach [b] X.env = (false, eval b X.env) :: starEach [] X.env := by rfl) (hplain : (backTo pos (starEach [] X.env)).any (·.1) = false := by rfl) :
    SE X (.Call (.Attribute (.Name x np) "index" ap) [b] [] pos) (tBM X.K "tuple" (rTIx X.K) (tC (.ref (Classical.choose h))) (tCons tb tNil)) (wGIx ys u) :=
  ⟨pe_bm PySem.F.plainAttrs_tuple PySem.F.slot_tuple_index PySem.F.type_tuple_index mt_tup_index (pe_glob hg (Classical.choose_spec (Classical.choose_spec h)).1 rfl hd) (pa_cons hb.pe pa_nil hs) hbase hfew hline hs hplain, fun B G ρ σ H Q R s hq k => by
    obtain ⟨h1, h2, h3, h4, h5⟩ := Classical.choose_spec (Classical.choose_spec h)
    refine ⟨.inr (.inl ⟨rfl, _, h2, h3, h4⟩), ?_⟩
    refine hb.snd B G ρ σ H _ _ s hq fun e ke ρ2 w G2 H2 q2 x2 s3 r2 => ?_
    split at q2
    · rename_i z
      obtain rfl := ov_str (r2.ov s3)
      have hi := idx_at q2.1
      exact ⟨_, ys, z, ys.idxOf z, rfl, rfl, h5 _, hi.1, hi.2, k _ .fz _ _ _ _ q2.2 x2 s3 (.int _)⟩
    · exact q2.elim⟩
end
/-! ### targets side by side, some with a subscript: xs[i], a = x, y -/
abbrev WGS := List D → WS
def SndGS (K : PySem.W.Frag) (tg : TGs) (g : WGS) : Prop := ∀ (b : Bs) (P : PEnds) (E : Ends) (G : Hp) (ρ : Rho) (σ : L2.St) (H : Hp) (vs : List V) (ds : List D), EOk K b P E → Sim K b G ρ σ H → RpL K G vs ds → g ds P ρ → tg vs σ H E.nx
def gsNil : WGS := fun ds P ρ => ds = [] ∧ P.nx ρ
def gsName (i : Nat) (u : WGS) : WGS := fun ds P ρ => match ds with
  | d :: r => u r P (ρ.set i (.fz d))
  | [] => False
def gsPut (j : Nat) (wk : WE) (u : WGS) : WGS := fun ds P ρ => match ds with
  | d :: r => (∃ d0, ρ[j]? = some (.ow d0)) ∧ wk ρ fun k _ ρ2 => match ρ2[j]? with
    | some (.ow dd) => match lputD dd k d with
      | some z => u r P (ρ2.set j (.ow z))
      | none => False
    | _ => False
  | [] => False
theorem sndGS_nil : SndGS K gNil gsNil := fun b P E G ρ σ H vs ds e s r q => by
  obtain ⟨rfl, q⟩ := q
  cases r
  exact ⟨rfl, e.nx _ _ _ _ q s⟩
theorem sndGS_name {i : Nat} {tu : TGs} {u : WGS} (h : SndGS K tu u) : SndGS K (gCons (gName i) tu) (gsName i u) := fun b P E G ρ σ H vs ds e s r q => by
  unfold gsName at q
  split at q
  · cases r with
    | cons ra rb => exact ⟨_, _, rfl, h b P E G _ _ H _ _ e (s.setF i ra) rb q⟩
  · exact q.elim
theorem sndGS_put {j : Nat} {tk : TE} {wk : WE} {tu : TGs} {u : WGS} (hk : SndE K tk wk) (h : SndGS K tu u) : SndGS K (gCons (gSub (tVar j) tk rSetL) tu) (gsPut j wk u) := fun b P E G ρ σ H vs ds e s r q => by
  unfold gsPut at q
  split at q
  · cases r with
    | cons ra rb =>
      refine ⟨_, _, rfl, ?_⟩
      obtain ⟨⟨d0, e0⟩, q1⟩ := q
      obtain ⟨a, h1, _⟩ := s.ow j d0 e0
      refine ⟨_, h1, ?_⟩
      refine hk b G ρ σ H _ _ s q1 fun k kk ρ2 u2 G2 H2 q2 x2 s2 r2 => ?_
      have ok := r2.ov s2
      split at q2
      · rename_i dd e2
        split at q2
        · rename_i z ez
          obtain ⟨a', c1, c2, c3, c4, c5⟩ := s2.ow j dd e2
          rw [h1] at c1; cases c1
          have rv := ra.mono x2.g
          unfold lputD at ez
          split at ez
          · rename_i xs i
            obtain ⟨vs', c6, c7⟩ := c5
            obtain rfl := ov_int ok
            cases hi : ixN xs.length i with
            | none => rw [hi] at ez; cases ez
            | some n =>
              rw [hi] at ez; cases ez
              refine ⟨a, vs', i, n, rfl, rfl, c6, by rw [c7.length]; exact hi, ?_⟩
              exact h b P E G2 _ σ _ _ _ e (s2.put (d := .lst (xs.set n _)) e2 h1 ⟨_, upd_same, RpL.set rv n c7⟩) (rb.mono x2.g) q2
          · cases ez
        · exact q2.elim
      · exact q2.elim
  · exact q.elim
def wAsgS (n : Nat) (g : WGS) (w : WE) : WS := fun P ρ => w ρ (toF fun d ρ1 => match d with
  | .tup ds => ds.length = n ∧ g ds P ρ1
  | _ => False)
theorem snd_asgS {n : Nat} {tg : TGs} {g : WGS} {te : TE} {w : WE} (hg : SndGS K tg g) (h : SndE K te w) : SndS K (tAsg te (gTup K n tg)) (wAsgS n g w) := fun b P E G ρ σ H e s hq =>
  h b G ρ σ H _ _ s hq fun d k ρ' v G' H' q x s' r => frozen (R := fun v H' => gTup K n tg v σ H' E.nx) q x s s' r fun d ρ2 v G2 q2 x2 s2 r2 => by
    split at q2
    · rename_i ds
      cases r2 with
      | @tup a vs _ e1 rl => exact ⟨a, vs, rfl, exT s2.le e1, by rw [rl.length]; exact q2.1, hg b P E G2 ρ2 σ _ _ _ e s2 rl q2.2⟩
    · exact q2.elim
structure SGS (X : Cx) (e : List Expr) (tg : TGs) (g : WGS) : Prop where
  pg : PGs X e tg
  snd : SndGS X.K tg g
section
variable {X : Cx} {e a b c : Expr} {es : List Expr} {te ta tb : TE} {t u : WE} {pos pp p2 : Pos} {tg : TGs} {g : WGS}
theorem gs_nil : SGS X [] gNil gsNil := ⟨pgs_nil, sndGS_nil⟩
theorem gs_name (i : Nat) {x : Str} (nd : X.N.Nodup) (h : SGS X es tg g) (hi : X.N[i]? = some x := by rfl) (hx : Loc X.env.scope x := by first | exact Or.inl rfl | exact Or.inr rfl) (hf : X.fn x = true ∨ X.env.scope.names.lookup x = some .local := by first | exact .inl rfl | exact .inr rfl)
    (hs : (assignEach (.Name x pos :: es) X.env).map (·.2) = assign (.Name x pos) X.env :: (assignEach es X.env).map (·.2) := by rfl) : SGS X (.Name x pos :: es) (gCons (gName i) tg) (gsName i g) :=
  ⟨pgs_cons (pg_name nd hi hx hf) h.pg hs, sndGS_name h.snd⟩
theorem gs_put (j : Nat) {n : Str} {np pos' : Pos} (hk : SE X b tb u) (h : SGS X es tg g) (hN : X.N[j]? = some n := by rfl) (hv' : Vis X.env.scope n := by first | exact Or.inl rfl | exact Or.inr (Or.inl rfl) | exact Or.inr (Or.inr rfl)) (hd : (n == ("__debug__" : Str)) = false := by decide) (hcd : (n == ("__classdict__" : Str)) = false := by decide)
    (ha : ∀ v, assign (.Subscript (.Name n np) b pos') X.env v = (do
      let ov ← holding [v] (eval (.Name n np) X.env)
      let iv ← holding [v, ov] (eval b X.env)
      standAt pos'
      holding [v, ov, iv] (setItem ov iv v)
      release [v, ov, iv] []) := by intro _; rfl)
    (hs : (assignEach (.Subscript (.Name n np) b pos' :: es) X.env).map (·.2) = assign (.Subscript (.Name n np) b pos') X.env :: (assignEach es X.env).map (·.2) := by rfl) :
    SGS X (.Subscript (.Name n np) b pos' :: es) (gCons (gSub (tVar j) tb rSetL) tg) (gsPut j u g) :=
  ⟨pgs_cons (pg_sub (pe_var hN hv' hd hcd) hk.pe set_list ha) h.pg hs, sndGS_put hk.snd h.snd⟩
theorem s_asgS {n : Nat} {k1 : Nat} {tp : Pos} (he : SE X e te t) (hg : SGS X es tg g) (hn : (assignEach es X.env).length = n := by rfl) (hst : (assignEach es X.env).findIdx? (·.1) = none := by rfl) (hc : X.calm = true := by rfl)
    (hs : swapsWithSole [.Tuple es k1 tp] e pos.line X.env = pure false := by rfl) (hw : swappedStores [.Tuple es k1 tp] e X.env = pure none := by rfl)
    (h1 : (assignEach [.Tuple es k1 tp] X.env).map (·.2) = [assign (.Tuple es k1 tp) X.env] := by rfl) : SS X (.Assign [.Tuple es k1 tp] e pos) (tAsg te (gTup X.K n tg)) (wAsgS n g t) :=
  ⟨ps_asg he.pe (pg_tup hc hg.pg hn hst) hs hw h1, snd_asgS hg.snd he.snd⟩
end
end VL

/-! VY2: a def that may raise, called where it does not. -/
namespace VL
open PySem PySem.Spec PyProof.Rows L2
open Evl (Ex)
variable {X : Cx} {e : Expr} {es : List Expr} {pos pp : Pos} {C : Addr} {f : Str}
theorem e_callN {x : Str} {ps : List Str} {st : Stmt} {k : Nat} {sp : FSX} {xa : TA} {y : WX} {D : Df X.K X.mg x ps st} (F : OkX X.prog X.w X.base D k C f sp) (hr : Room k X.A) (ha : SX X (e :: es) xa y) (hg : Gl X x := by rfl) (hdb : (x == ("__debug__" : Str)) = false := by decide)
    (he : starEach (e :: es) X.env = (false, eval e X.env) :: starEach es X.env := by rfl) (hpl : (backTo pos (starEach es X.env)).any (·.1) = false := by rfl) : SE X (.Call (.Name x pp) (e :: es) [] pos) (tCallS (toSpX X.K C f sp) (L2.WE noW) xa) (wCallX sp y fun _ _ => False) := by
  have h := e_callX (W := noW) (pp := pp) F hr (fun u s' ⟨_, _, _, _, _, _, _, _, _, _, _, _, _, _, _, _, w⟩ => False.elim w) ha hg hdb he hpl
  exact ⟨h.pe, fun b G ρ σ H Q R s q k => h.snd b G ρ σ H Q R _ (fun _ _ _ _ _ _ _ (z : False) => z.elim) s q k⟩
end VL

/-! VY3: slices of texts and lists by plain lists. -/
namespace VL
open PySem PySem.Spec PyProof.Rows L2
theorem str_num (n : Nat) : strI (n : Int) = SX.S (TL.numL n) := SX.num_S n
theorem take_min {α : Type} (l : List α) (k : Nat) : l.take (min k l.length - 0) = l.take k := by
  rw [Nat.sub_zero]
  by_cases h : k ≤ l.length
  · rw [Nat.min_eq_left h]
  · rw [Nat.min_eq_right (by omega), List.take_length, List.take_of_length_le (by omega)]
theorem drop_min {α : Type} (l : List α) (k : Nat) : (l.drop (min k l.length)).take (l.length - min k l.length) = l.drop k := by
  rw [List.take_of_length_le (by rw [List.length_drop]; exact Nat.le_refl _)]
  by_cases h : k ≤ l.length
  · rw [Nat.min_eq_left h]
  · rw [Nat.min_eq_right (by omega), List.drop_length, List.drop_of_length_le (by omega)]
theorem slS_to {l : List Nat} {k : Nat} (hl : l.length ≤ LIM) : dSlice (.str (SX.S l)) none (some (k : Int)) = some (.str (SX.S (l.take k)), .fz) := by
  show (if (SX.S l).length ≤ LIM then some (D.str (cutS (SX.S l) none (some (k : Int))), Kd.fz) else none) = _
  rw [SX.S_len, if_pos hl]
  have : cutS (SX.S l) none (some (k : Int)) = SX.S (l.take k) := by
    unfold cutS
    rw [HT.sIx_none, HT.sIx_nat, SX.S_len]
    show SX.S ((l.drop 0).take (min k l.length - 0)) = _
    rw [List.drop_zero, take_min]
  rw [this]
theorem slS_from {l : List Nat} {k : Nat} (hl : l.length ≤ LIM) : dSlice (.str (SX.S l)) (some (k : Int)) none = some (.str (SX.S (l.drop k)), .fz) := by
  show (if (SX.S l).length ≤ LIM then some (D.str (cutS (SX.S l) (some (k : Int)) none), Kd.fz) else none) = _
  rw [SX.S_len, if_pos hl]
  have : cutS (SX.S l) (some (k : Int)) none = SX.S (l.drop k) := by
    unfold cutS
    rw [HT.sIx_none, HT.sIx_nat, SX.S_len]
    show SX.S ((l.drop (min k l.length)).take (l.length - min k l.length)) = _
    rw [drop_min]
  rw [this]
theorem slL_to {l : List D} {k : Nat} : dSlice (.lst l) none (some (k : Int)) = some (.lst (l.take k), .nw) := by
  show some (D.lst (VL.cutD l none (some (k : Int))), Kd.nw) = _
  have : VL.cutD l none (some (k : Int)) = l.take k := by
    unfold VL.cutD
    rw [HT.sIx_none, HT.sIx_nat, List.drop_zero, take_min]
  rw [this]
theorem slT_to {l : List D} {k : Nat} : dSlice (.tup l) none (some (k : Int)) = some (.tup (l.take k), .fz) := by
  show some (D.tup (VL.cutD l none (some (k : Int))), Kd.fz) = _
  have : VL.cutD l none (some (k : Int)) = l.take k := by
    unfold VL.cutD
    rw [HT.sIx_none, HT.sIx_nat, List.drop_zero, take_min]
  rw [this]
theorem slL_from {l : List D} {k : Nat} : dSlice (.lst l) (some (k : Int)) none = some (.lst (l.drop k), .nw) := by
  show some (D.lst (VL.cutD l (some (k : Int)) none), Kd.nw) = _
  have : VL.cutD l (some (k : Int)) none = l.drop k := by
    unfold VL.cutD
    rw [HT.sIx_none, HT.sIx_nat, drop_min]
  rw [this]
section
variable {t u : WE} {ρ : Rho} {d z : D} {k k' kz : Kd} {n : Int}
theorem ev_slE (h : Ev t ρ d k) (hu : Ev u ρ (.int n) k') (e : dSlice d none (some n) = some (z, kz)) : Ev (wSlice t wPNone (wPSome u)) ρ z kz := fun Q q => h _ (hu _ (by show oB _ _; rw [e]; exact q))
theorem ev_slB (h : Ev t ρ d k) (hu : Ev u ρ (.int n) k') (e : dSlice d (some n) none = some (z, kz)) : Ev (wSlice t (wPSome u) wPNone) ρ z kz := fun Q q => h _ (hu _ (by show oB _ _; rw [e]; exact q))
end
theorem ixS {l : List Nat} {k : Nat} {c : Nat} (hl : l.length ≤ LIM) (h : l[k]? = some c) : bSubs (.str (SX.S l)) (.int (k : Int)) = some (.str (SX.S [c]), .fz) := by
  have hk : k < l.length := (List.getElem?_eq_some_iff.mp h).1
  show (if (SX.S l).length ≤ LIM then (atI l (k : Int)).map fun c => (D.str ⟨#[c]⟩, Kd.fz) else none) = _
  rw [SX.S_len, if_pos hl]
  unfold atI ixN
  rw [if_pos (by omega), if_pos (by omega)]
  show (l[(k : Int).toNat]?).map (fun c => (D.str ⟨#[c]⟩, Kd.fz)) = _
  rw [Int.toNat_natCast, h]
  rfl
theorem addS {a b : List Nat} (h : a.length + b.length ≤ LIM) : bAdd (.str (SX.S a)) (.str (SX.S b)) = some (.str (SX.S (a ++ b)), .fz) := by
  show (if (SX.S a).length + (SX.S b).length ≤ LIM then some (D.str (SX.S a ++ SX.S b), Kd.fz) else none) = _
  rw [SX.S_len, SX.S_len, if_pos h, SX.S_cat]
theorem intS {cs : List Nat} (h : NumText.AllDigits cs) (h0 : cs ≠ []) (hl : cs.length ≤ 640) : cIntT [.str (SX.S cs)] = some (.int ((NumText.digitsVal cs : Nat) : Int), .fz) := by
  show (if (SX.S cs).length ≤ 640 then (intText? (SX.S cs)).bind fun n => ozI n else none) = _
  rw [SX.S_len, if_pos hl, PySem.intText_digits (x := SX.S cs) h h0 (by rw [SX.S_len]; omega)]
  rfl
theorem lenS {cs : List Nat} (h : cs.length ≤ LIM) : cLen [.str (SX.S cs)] = some (.int (cs.length : Int), .fz) := by
  show (if (SX.S cs).length ≤ LIM then ozI (SX.S cs).length else none) = _
  rw [SX.S_len, if_pos h]
  rfl
theorem num_ok {n : Nat} (h : n < 1000) : NumText.AllDigits (TL.numL n) ∧ 1 ≤ (TL.numL n).length ∧ (TL.numL n).length ≤ 3 :=
  ⟨TL.numL_digits n, by have := TL.numL_ne n; exact List.length_pos_iff.mpr this, TL.numL_len (k := 3) (by decide) h⟩
theorem cstr {n : Nat} (h : n < 1000) : cStr [.int (n : Int)] = some (.str (SX.S (TL.numL n)), .fz) := by
  show (if (n : Int).natAbs < 1000000000000 then some (D.str (strI n), Kd.fz) else none) = _
  rw [if_pos (by omega), str_num]
theorem go_forO {g : WG} {tb : WS} {P : PEnds} {ρ : Rho} {i : Nat} {xs : List D} (ho : ρ[i]? = some (.ow (.lst xs))) (h : wLoop g tb P xs (ρ.set i (.fz (.lst xs)))) : wFor (wiF (wVar i)) g tb P ρ := by
  show wVar i ρ _
  rw [wVar_e, ho]
  exact h
section
variable {t u : WE} {ρ : Rho} {k k' : Kd} {r : WS} {P : PEnds} {d e z : D} {i j : Nat} {w wk : WE} {kk : Kd} {key : D} {x1 : D}
theorem sq_put2 (h : Ev w ρ (.tup [d, e]) .fz) (ho : ρ[i]? = some (.ow x1)) (hk : Ev wk ρ key kk) (hl : lputD x1 key d = some z) (q : r P ((ρ.set i (.ow z)).set j (.fz e))) : wSeq (wAsgS 2 (gsPut i wk (gsName j gsNil)) w) r P ρ :=
  h _ ⟨rfl, ⟨_, ho⟩, hk _ (by
    rw [ho]
    show (match lputD x1 key d with | some z => _ | none => False)
    rw [hl]
    exact ⟨rfl, q⟩)⟩
theorem go_put2 (h : Ev w ρ (.tup [d, e]) .fz) (ho : ρ[i]? = some (.ow x1)) (hk : Ev wk ρ key kk) (hl : lputD x1 key d = some z) (q : P.nx ((ρ.set i (.ow z)).set j (.fz e))) : wAsgS 2 (gsPut i wk (gsName j gsNil)) w P ρ :=
  h _ ⟨rfl, ⟨_, ho⟩, hk _ (by
    rw [ho]
    show (match lputD x1 key d with | some z => _ | none => False)
    rw [hl]
    exact ⟨rfl, q⟩)⟩
theorem go_augI {a b : Int} (ho : ρ[i]? = some (.fz (.int a))) (h : Ev w ρ (.int b) k) (q : P.nx (ρ.set i (.fz (.int (a + b))))) : wAugI i w P ρ := by
  unfold wAugI wAug
  rw [ho]
  exact h _ q
theorem ei_split {cs sep : List Nat} (h : Ev t ρ (.str (SX.S cs)) k) (h' : Ev u ρ (.str (SX.S sep)) k') (hs : sep ≠ []) (hb : sep.all (· < 256) = true) (hl : cs.length ≤ 100000) : Ei (wiF (wSplit t u)) ρ ((TL.spl sep 0 [] cs).map fun p => .str (SX.S p)) := fun Q q => by
  rw [wiF_e]
  refine h _ (h' _ ⟨by rw [SX.S_len]; exact fun z => hs (List.length_eq_zero_iff.mp z), by rw [SX.S_len]; exact hl, ?_⟩)
  rw [toF_nw, seq_lst, sqK_e, SX.split_S hs hb, List.map_map]
  exact q
theorem ev_join {sep : List Nat} {ys : List (List Nat)} (h : Ev t ρ (.str (SX.S sep)) k) (h' : Ev u ρ (.lst (ys.map fun p => .str (SX.S p))) k') (hl : (ys.map (·.length)).sum + ys.length * sep.length ≤ 16777216) : Ev (wJoin t u) ρ (.str (SX.S (TL.joinL sep ys))) .fz := fun Q q => by
  refine h _ (h' _ ?_)
  have e : (ys.map fun p => D.str (SX.S p)) = (ys.map SX.S).map .str := by rw [List.map_map]; rfl
  show (match txtsOf (ys.map fun p => D.str (SX.S p)) with | some ys => _ | none => False)
  rw [e, txtsOf_map]
  refine ⟨?_, ?_⟩
  · rw [SX.lens, List.length_map, SX.S_len]; exact hl
  · rw [SX.join_S]; exact q
theorem sq_parNMM {v : WE} {f : D} {l : Nat} (h : Ev t ρ d .nw) (h' : Ev u ρ e .fz) (h2 : Ev v ρ f .fz) (q : r P (((ρ.set i (.ow d)).set j (.fz e)).set l (.fz f))) : wSeq (wPar [i, j, l] (nCons t (nCons u (nCons v nNil)))) r P ρ := h _ (h' _ (h2 _ ⟨rfl, q⟩))
theorem sq_parNMN {v : WE} {f : D} {l : Nat} (h : Ev t ρ d .nw) (h' : Ev u ρ e .fz) (h2 : Ev v ρ f .nw) (q : r P (((ρ.set i (.ow d)).set j (.fz e)).set l (.ow f))) : wSeq (wPar [i, j, l] (nCons t (nCons u (nCons v nNil)))) r P ρ := h _ (h' _ (h2 _ ⟨rfl, q⟩))
end
end VL

namespace VD
open PySem PySem.Spec PyProof.Rows L2 VL
open Evl (Ex)
/-! ### days and dates: what the defs read as -/
def d_LONG : D := .ft [.int 31, .int 28, .int 31, .int 30, .int 31, .int 30, .int 31, .int 31, .int 30, .int 31, .int 30, .int 31]
def d_FIRST : D := .int 4
def t_is_leap : WS :=
  (wRet (wBin bEq (wBin bMod (wVar 0) (wCon (.int 4))) (wCon (.int 0))))
def t_days_in (sp_is_leap : FS) : WS :=
  (wRet (wBin bAdd (wBin bSubs (wCon d_LONG) (wBin bSub (wVar 1) (wCon (.int 1)))) (wCl cInt (wCons (wAndV (wBin bEq (wVar 1) (wCon (.int 2))) (wCall sp_is_leap (xCons (wVar 0) xNil))) wNil))))
def t_begin_of : WS :=
  (wRet (wBin bAdd (wBin bMul (wCon (.int 365)) (wVar 0)) (wBin bDiv (wBin bAdd (wVar 0) (wCon (.int 3))) (wCon (.int 4)))))
def t_day_of_c1 (sp_days_in : FS) : WE :=
  (wCall sp_days_in (xCons (wVar 1) (xCons (wVar 4) xNil)))
def t_day_of (sp_begin_of : FS) (sp_days_in : FS) : WS :=
  (wSeq (wAsgT (wgTup 3 (wgCons (wgName 1) (wgCons (wgName 2) (wgCons (wgName 3) wgNil)))) (wVar 0))
  (wRet (wBin bSub (wBin bAdd (wBin bAdd (wCall sp_begin_of (xCons (wVar 1) xNil)) (wCl cSum (wCons (wComp (wiR2 (wCons (wCon (.int 1)) (wCons (wVar 2) wNil))) (wgName 4) wYes (t_day_of_c1 sp_days_in) [4]) wNil))) (wVar 3)) (wCon (.int 1)))))
def t_date_of_w1 (sp_days_in : FS) : WS :=
  (wSeq (wAug 3 bSub (wCall sp_days_in (xCons (wVar 1) (xCons (wVar 2) xNil))))
  (wAugI 2 (wCon (.int 1))))
def t_date_of_s1 : WS :=
  (wRet (wTup (wConsF (wVar 1) (wConsF (wVar 2) (wConsF (wBin bAdd (wVar 3) (wCon (.int 1))) wNil)))))
def t_date_of_s2 (sp_begin_of : FS) (sp_days_in : FS) : WS :=
  (wSeq (wPar [2, 3] (nCons (wCon (.int 1)) (nCons (wBin bSub (wVar 0) (wCall sp_begin_of (xCons (wVar 1) xNil))) nNil)))
  (wSeq (wWhile (wTest (wBin bGeD (wVar 3) (wCall sp_days_in (xCons (wVar 1) (xCons (wVar 2) xNil))))) (t_date_of_w1 sp_days_in))
  t_date_of_s1))
def t_date_of (sp_begin_of : FS) (sp_days_in : FS) : WS :=
  (wSeq (wAsg 1 (wBin bDiv (wVar 0) (wCon (.int 366))))
  (wSeq (wWhile (wTest (wBin bLeD (wCall sp_begin_of (xCons (wBin bAdd (wVar 1) (wCon (.int 1))) xNil)) (wVar 0))) (wAugI 1 (wCon (.int 1))))
  (t_date_of_s2 sp_begin_of sp_days_in)))
def t_weekday : WS :=
  (wRet (wBin bMod (wBin bAdd (wVar 0) (wCon d_FIRST)) (wCon (.int 7))))
def t_next_weekday (sp_weekday : FS) : WS :=
  (wRet (wBin bAdd (wBin bAdd (wVar 0) (wBin bMod (wBin bSub (wBin bSub (wVar 1) (wCall sp_weekday (xCons (wVar 0) xNil))) (wCon (.int 1))) (wCon (.int 7)))) (wCon (.int 1))))
def t_last_weekday (sp_weekday : FS) : WS :=
  (wSeq (wAsg 2 (wBin bSub (wBin bSub (wVar 0) (wBin bMod (wBin bSub (wBin bSub (wCall sp_weekday (xCons (wVar 0) xNil)) (wVar 1)) (wCon (.int 1))) (wCon (.int 7)))) (wCon (.int 1))))
  (wRet (wIfE (wTest (wBin bGeD (wVar 2) (wCon (.int 0)))) (wVar 2) (wCon .non))))
def t__law_same_c1 : WE :=
  (wTup (wConsF (wVar 5) (wConsF (wVar 5) wNil)))
def t__law_same_c2 : WE :=
  (wTup (wConsF (wBin bSubs (wVar 3) (wVar 5)) (wConsF (wBin bSubs (wVar 4) (wVar 5)) wNil)))
def t__law_same_c3 : WE :=
  (wTup (wConsF (wBin bSubs (wVar 6) (wVar 5)) (wConsF (wVar 5) wNil)))
def t__law_same_s1 : WS :=
  (wSeq (wAsg 6 wNo)
  (wExtend 2 (wBin bAdd (wComp wiNo (wgName 5) wYes t__law_same_c2 [5]) (wComp wiNo (wgName 5) wYes t__law_same_c3 [5]))))
def t__law_same_c4 : WE :=
  (wTup (wConsF (wBin bSubs (wVar 3) (wVar 7)) (wConsF (wBin bSubs (wVar 4) (wVar 7)) wNil)))
def t__law_same_s2 : WS :=
  (wExtend 2 (wComp (wiR1 (wCons (wCl cLen (wCons (wVar 4) wNil)) wNil)) (wgName 7) wYes t__law_same_c4 [7]))
def t__law_same_w1 : WS :=
  (wSeq (wPopT 2 (wgTup 2 (wgCons (wgName 3) (wgCons (wgName 4) wgNil))))
  (wIf (wTest (wIs "dict" (wVar 4))) (wSeq (wIf (wOr (wNot (wTest (wIs "dict" (wVar 3)))) (wOr (wTest (wBin bNe (wCl cLen (wCons (wVar 3) wNil)) (wCl cLen (wCons (wVar 4) wNil)))) (wTest (wBin bNe (wComp wiNo (wgName 5) (wTest (wBin bNotIn (wVar 5) (wVar 3))) (wVar 5) [5]) (wLst wNil))))) (wRet (wCon (.bl false))) wNext)
  t__law_same_s1) (wIf (wOr (wTest (wIs "tuple" (wVar 4))) (wTest (wIs "list" (wVar 4)))) (wSeq (wIf (wOr (wTest (wBin bNe (wIs "tuple" (wVar 3)) (wIs "tuple" (wVar 4)))) (wOr (wTest (wBin bNe (wIs "list" (wVar 3)) (wIs "list" (wVar 4)))) (wTest (wBin bNe (wCl cLen (wCons (wVar 3) wNil)) (wCl cLen (wCons (wVar 4) wNil)))))) (wRet (wCon (.bl false))) wNext)
  t__law_same_s2) (wIf (wOr (wTest (wBin bNe (wIs "bool" (wVar 3)) (wIs "bool" (wVar 4)))) (wOr (wTest (wBin bNe (wIs "int" (wVar 3)) (wIs "int" (wVar 4)))) (wOr (wTest (wBin bNe (wIs "str" (wVar 3)) (wIs "str" (wVar 4)))) (wTest (wBin bNe (wVar 3) (wVar 4)))))) (wRet (wCon (.bl false))) wNext))))
def t__law_same : WS :=
  (wSeq (wAsg 2 (wLst (wConsF (wTup (wConsF (wVar 0) (wConsF (wVar 1) wNil))) wNil)))
  (wSeq (wWhile (wTest (wBin bNe (wVar 2) (wLst wNil))) t__law_same_w1)
  (wRet (wCon (.bl true)))))
def t__law_long : WS :=
  (wRet (wBin bSubs (wTup (wConsF (wCon (.int 31)) (wConsF (wIfE (wTest (wBin bEq (wBin bMul (wBin bDiv (wVar 0) (wCon (.int 4))) (wCon (.int 4))) (wVar 0))) (wCon (.int 29)) (wCon (.int 28))) (wConsF (wCon (.int 31)) (wConsF (wCon (.int 30)) (wConsF (wCon (.int 31)) (wConsF (wCon (.int 30)) (wConsF (wCon (.int 31)) (wConsF (wCon (.int 31)) (wConsF (wCon (.int 30)) (wConsF (wCon (.int 31)) (wConsF (wCon (.int 30)) (wConsF (wCon (.int 31)) wNil))))))))))))) (wBin bSub (wVar 1) (wCon (.int 1)))))
def t__law_day_c1 (sp__law_long : FS) : WE :=
  (wCall sp__law_long (xCons (wVar 0) (xCons (wVar 3) xNil)))
def t__law_day (sp__law_long : FS) : WS :=
  (wRet (wBin bSub (wBin bAdd (wBin bAdd (wBin bAdd (wBin bMul (wCon (.int 365)) (wVar 0)) (wBin bDiv (wBin bAdd (wVar 0) (wCon (.int 3))) (wCon (.int 4)))) (wCl cSum (wCons (wComp (wiR2 (wCons (wCon (.int 1)) (wCons (wVar 1) wNil))) (wgName 3) wYes (t__law_day_c1 sp__law_long) [3]) wNil))) (wVar 2)) (wCon (.int 1))))
def t__law_date_w1 : WS :=
  (wAsg 1 (wBin bAdd (wVar 1) (wCon (.int 1))))
def t__law_date_w2 (sp__law_long : FS) : WS :=
  (wPar [2, 3] (nCons (wBin bAdd (wVar 2) (wCon (.int 1))) (nCons (wBin bSub (wVar 3) (wCall sp__law_long (xCons (wVar 1) (xCons (wVar 2) xNil)))) nNil)))
def t__law_date_s1 : WS :=
  (wRet (wTup (wConsF (wVar 1) (wConsF (wVar 2) (wConsF (wBin bAdd (wVar 3) (wCon (.int 1))) wNil)))))
def t__law_date_s2 (sp__law_day : FS) (sp__law_long : FS) : WS :=
  (wSeq (wPar [2, 3] (nCons (wCon (.int 1)) (nCons (wBin bSub (wVar 0) (wCall sp__law_day (xCons (wVar 1) (xCons (wCon (.int 1)) (xCons (wCon (.int 1)) xNil))))) nNil)))
  (wSeq (wWhile (wTest (wBin bGeD (wVar 3) (wCall sp__law_long (xCons (wVar 1) (xCons (wVar 2) xNil))))) (t__law_date_w2 sp__law_long))
  t__law_date_s1))
def t__law_date (sp__law_day : FS) (sp__law_long : FS) : WS :=
  (wSeq (wAsg 1 (wBin bDiv (wVar 0) (wCon (.int 366))))
  (wSeq (wWhile (wTest (wBin bLeD (wCall sp__law_day (xCons (wBin bAdd (wVar 1) (wCon (.int 1))) (xCons (wCon (.int 1)) (xCons (wCon (.int 1)) xNil)))) (wVar 0))) t__law_date_w1)
  (t__law_date_s2 sp__law_day sp__law_long)))
def t__law_weekday : WS :=
  (wRet (wBin bMod (wCl cInt (wCons (wBin bAdd (wVar 0) (wCon (.int 4))) wNil)) (wCon (.int 7))))
def t__law_next_day_i1 (sp__law_weekday : FS) : WT :=
  (wTest (wBin bEq (wCall sp__law_weekday (xCons (wVar 2) xNil)) (wVar 1)))
def t__law_next_day (sp__law_weekday : FS) : WS :=
  (wRet (wBin bSubs (wComp (wiR2 (wCons (wBin bAdd (wVar 0) (wCon (.int 1))) (wCons (wBin bAdd (wVar 0) (wCon (.int 8))) wNil))) (wgName 2) (t__law_next_day_i1 sp__law_weekday) (wVar 2) [2]) (wCon (.int 0))))
end VD

namespace VD
open PySem PySem.Spec PyProof.Rows L2 VL
open Evl (Ex)
/-! ### _law_same: structural equality -/
mutual
/-- plain data without dicts -/
def sg : D → Bool
  | .non => true
  | .bl _ => true
  | .int _ => true
  | .str s => s.cps.all (· < 0x110000)
  | .tup xs => sgs xs
  | .lst xs => sgs xs
  | _ => false
def sgs : List D → Bool
  | [] => true
  | x :: r => sg x && sgs r
end
mutual
def szD : D → Nat
  | .tup xs => szs xs + 1
  | .lst xs => szs xs + 1
  | _ => 1
def szs : List D → Nat
  | [] => 0
  | x :: r => szD x + szs r
end
theorem sgs_all {xs : List D} : sgs xs = true ↔ ∀ x ∈ xs, sg x = true := by
  induction xs with
  | nil => simp [sgs]
  | cons x xs ih => simp [sgs, ih]
theorem szs_len : ∀ xs : List D, xs.length ≤ szs xs
  | [] => by simp [szs]
  | x :: xs => by
    have := szs_len xs
    have h : 1 ≤ szD x := by cases x <;> simp [szD]
    simp [szs]; omega
theorem szs_append : ∀ xs ys : List D, szs (xs ++ ys) = szs xs + szs ys
  | [], ys => by simp [szs]
  | x :: xs, ys => by simp [szs, szs_append xs ys]; omega
def prD (p : D × D) : D := .tup [p.1, p.2]
/-- of what may be compared -/
def SgOk (n : Nat) (d : D) : Prop := sg d = true ∧ okE n d = true
theorem SgOk.kids {n : Nat} {xs : List D} (h : SgOk (n + 1) (.tup xs)) {x : D} (hx : x ∈ xs) : SgOk n x := ⟨sgs_all.mp h.1 x hx, okEs_all.mp h.2 x hx⟩
theorem SgOk.kidsL {n : Nat} {xs : List D} (h : SgOk (n + 1) (.lst xs)) {x : D} (hx : x ∈ xs) : SgOk n x := ⟨sgs_all.mp h.1 x hx, okEs_all.mp h.2 x hx⟩
theorem okE_up {n m : Nat} (hm : n ≤ m) {d : D} (h : okE n d = true) : okE m d = true := by
  have key : ∀ (n : Nat), (∀ (m : Nat) (d : D), n ≤ m → okE n d = true → okE m d = true) := fun n => by
    induction n with
    | zero =>
      intro m d hm h
      cases d <;> simp [okE] at h ⊢
      exact h
    | succ n ih =>
      intro m d hm h
      obtain ⟨m, rfl⟩ : ∃ k, m = k + 1 := ⟨m - 1, by omega⟩
      have hm : n ≤ m := by omega
      cases d <;> simp only [okE] at h ⊢ <;> first | exact h | (rw [okEs_all] at h ⊢; exact fun x hx => ih m x hm (h x hx)) | skip
      all_goals simp [okE] at h
  exact key n m d hm h
theorem bNe_nil {xs : List D} (h : okE 20 (.lst xs) = true) : bNe (.lst xs) (.lst []) = ozB (!decide (xs = [])) := by
  unfold bNe
  rw [if_pos ⟨h, by simp [okE, okEs]⟩]
  cases xs <;> simp [eqv, eqvs]
theorem bNe_ok {a b : D} (h1 : okE 20 a = true) (h2 : okE 20 b = true) : bNe a b = ozB (!eqv a b) := by
  unfold bNe
  rw [if_pos ⟨h1, h2⟩]
theorem isB_tab : isB "NoneType" "dict" = false ∧ isB "bool" "dict" = false ∧ isB "int" "dict" = false ∧ isB "str" "dict" = false ∧ isB "list" "dict" = false ∧ isB "tuple" "dict" = false ∧
    isB "NoneType" "tuple" = false ∧ isB "bool" "tuple" = false ∧ isB "int" "tuple" = false ∧ isB "str" "tuple" = false ∧ isB "list" "tuple" = false ∧ isB "tuple" "tuple" = true ∧
    isB "NoneType" "list" = false ∧ isB "bool" "list" = false ∧ isB "int" "list" = false ∧ isB "str" "list" = false ∧ isB "list" "list" = true ∧ isB "tuple" "list" = false ∧
    isB "NoneType" "bool" = false ∧ isB "bool" "bool" = true ∧ isB "int" "bool" = false ∧ isB "str" "bool" = false ∧ isB "list" "bool" = false ∧ isB "tuple" "bool" = false ∧
    isB "NoneType" "int" = false ∧ isB "bool" "int" = true ∧ isB "int" "int" = true ∧ isB "str" "int" = false ∧ isB "list" "int" = false ∧ isB "tuple" "int" = false ∧
    isB "NoneType" "str" = false ∧ isB "bool" "str" = false ∧ isB "int" "str" = false ∧ isB "str" "str" = true ∧ isB "list" "str" = false ∧ isB "tuple" "str" = false := by decide
def tyS : D → String
  | .non => "NoneType"
  | .bl _ => "bool"
  | .int _ => "int"
  | .str _ => "str"
  | .lst _ => "list"
  | .tup _ => "tuple"
  | _ => "dict"
theorem tyD_sg {d : D} (h : sg d = true) : tyD d = some (tyS d) := by cases d <;> simp [sg] at h <;> rfl
/-- the pairs of two rows -/
def zipP : List D → List D → List (D × D)
  | x :: xs, y :: ys => (x, y) :: zipP xs ys
  | _, _ => []
theorem zipP_mem : ∀ {xs ys : List D} {p : D × D}, p ∈ zipP xs ys → p.1 ∈ xs ∧ p.2 ∈ ys
  | [], _, _, h => by simp [zipP] at h
  | _ :: _, [], _, h => by simp [zipP] at h
  | x :: xs, y :: ys, p, h => by
    rcases List.mem_cons.mp h with rfl | h
    · simp
    · have := zipP_mem h; simp [this]
theorem zipP_eq : ∀ {xs ys : List D}, xs.length = ys.length → ((∀ p ∈ zipP xs ys, p.1 = p.2) ↔ xs = ys)
  | [], [], _ => by simp [zipP]
  | [], _ :: _, h => by simp at h
  | _ :: _, [], h => by simp at h
  | x :: xs, y :: ys, h => by
    have ih := zipP_eq (xs := xs) (ys := ys) (by simpa using h)
    simp only [zipP, List.mem_cons, forall_eq_or_imp, List.cons.injEq, ih]
theorem zipP_len : ∀ {xs ys : List D}, xs.length = ys.length → (zipP xs ys).length = ys.length
  | [], [], _ => rfl
  | [], _ :: _, h => by simp at h
  | _ :: _, [], h => by simp at h
  | x :: xs, y :: ys, h => by simp [zipP, zipP_len (xs := xs) (ys := ys) (by simpa using h)]
theorem zipP_get : ∀ {xs ys : List D} {i : Nat} {a b : D}, xs[i]? = some a → ys[i]? = some b → (zipP xs ys)[i]? = some (a, b)
  | [], _, _, _, _, h, _ => by simp at h
  | _ :: _, [], _, _, _, _, h => by simp at h
  | x :: xs, y :: ys, 0, a, b, h, h' => by simp at h h'; simp [zipP, h, h']
  | x :: xs, y :: ys, i + 1, a, b, h, h' => by
    rw [zipP, List.getElem?_cons_succ]
    exact zipP_get (by simpa using h) (by simpa using h')
theorem zipP_snd : ∀ {xs ys : List D}, xs.length = ys.length → (zipP xs ys).map (·.2) = ys
  | [], [], _ => rfl
  | [], _ :: _, h => by simp at h
  | _ :: _, [], h => by simp at h
  | x :: xs, y :: ys, h => by simp [zipP, zipP_snd (xs := xs) (ys := ys) (by simpa using h)]
theorem range_fm {α : Type} (l : List α) (f : α → D) : (List.range l.length).filterMap (fun i => (l[i]?).map f) = l.map f := by
  induction l with
  | nil => rfl
  | cons x l ih =>
    rw [List.length_cons, List.range_succ_eq_map, List.filterMap_cons_some (b := f x) (by simp), List.filterMap_map, List.map_cons]
    congr 1
def szp (l : List (D × D)) : Nat := szs (l.map (·.2))
def PrOk (p : D × D) : Prop := SgOk 15 p.1 ∧ SgOk 15 p.2
theorem ok_prs {l : List (D × D)} (h : ∀ p ∈ l, PrOk p) : okE 20 (.lst (l.map prD)) = true := by
  rw [okE_lst, okEs_all]
  intro x hx
  obtain ⟨p, hp, rfl⟩ := List.mem_map.mp hx
  unfold prD
  rw [okE_tup, okEs_all]
  intro y hy
  simp at hy
  rcases hy with rfl | rfl
  · exact okE_up (by decide) (h p hp).1.2
  · exact okE_up (by decide) (h p hp).2.2
theorem same_rows_tup {P : PEnds} {x0 x1 x5 x6 x7 : Slot} {l : List (D × D)} {xs ys : List D} (hl : ∀ p ∈ l, PrOk p) (hu : SgOk 15 (.tup xs)) (hv : SgOk 15 (.tup ys)) (hlen : xs.length = ys.length) (hz : szp l + szs ys ≤ 5000)
    (go : ∀ (l' : List (D × D)) (x3 x4 : Slot), (∀ p ∈ l', PrOk p) → szp l' ≤ szp l + szs ys → ((∀ p ∈ l', p.1 = p.2) ↔ (∀ p ∈ l, p.1 = p.2) ∧ xs = ys) → P.nx [x0, x1, .ow (.lst (l'.map prD)), x3, x4, x5, x6, x7]) :
    t__law_same_s2 P [x0, x1, .ow (.lst (l.map prD)), .fz (.tup xs), .fz (.tup ys), x5, x6, x7] := by
  have hll : l.length ≤ szp l := by have := szs_len (l.map (·.2)); rwa [List.length_map] at this
  have hyl := szs_len ys
  unfold t__law_same_s2
  simp (maxSteps := 4000000) only [wSeq, wAsg, wgN, wVar, wCon, wBin, wUn, wCl, wCons, wNil, wConsF, wTup, wLst, wTest, wIf, wFor, wiR1, wiR2, wgName, oB, toF, toN, wRet, wRetN, wNext, wDrop, wMut, fAppend, wPar, nCons, nNil, setAll, sl, wAugI, wAug, bAddI, bSub, bAdd, wAnd, wOr, wNot, wAndV, wOrV, wNotV, wBl, wIfE, wCall, xCons, xNil, xW, Kd.ret, wiF, wiO, seqOf, wgTup, wgCons, wgNil, wAsgT, wSlice, wPSome, wPNone, dSlice, bMul, bMod, bDiv, bPow, cInt, cAbs, cLen, cTuple, cList, cmpD, ozI, ozB, uNeg, wComp, wipeR, restR, wYes, wBreak, wCont, wLstRg, wTupRg, wRg1, wRg2, wExtend, bIs, bIsNot, isNonD, List.set_cons_zero, List.set_cons_succ, List.getElem?_cons_zero, List.getElem?_cons_succ, List.getD_cons_zero, List.getD_cons_succ, List.length_cons, List.length_nil, if_true, if_false, reduceCtorEq, ite_true, ite_false, and_true, true_and, rho0, VL.A.slot, List.map_cons, List.map_nil, List.cons_append, List.nil_append, List.replicate, Nat.add_eq, Nat.reduceAdd, Nat.reduceSub, Bool.false_eq_true, decide_eq_true_eq, Nat.zero_le, Nat.zero_add, lim1, lim2, lim3, lim4, lim5, lim6, lim7, lim8, Bool.not_true, Bool.not_false, decide_true, decide_false]
  refine ⟨⟨_, rfl⟩, by unfold i62; omega, ?_⟩
  rw [Int.toNat_natCast]
  unfold rng
  refine comp_mp (fun i : Nat => D.int (0 + (i : Int))) (fun i => ((zipP xs ys)[i]?).map prD) (List.range ys.length) (by rw [List.length_range]; unfold LIM; omega) (fun i hi K hK => ?_) ?_
  · have hi := List.mem_range.mp hi
    have g1 := List.getElem?_eq_getElem (l := xs) (i := i) (by omega)
    have g2 := List.getElem?_eq_getElem (l := ys) (i := i) (by omega)
    rw [zipP_get g1 g2] at hK
    unfold t__law_same_c4
    rw [Int.zero_add]
    simp (maxSteps := 4000000) only [wSeq, wAsg, wgN, wVar, wCon, wBin, wUn, wCl, wCons, wNil, wConsF, wTup, wLst, wTest, wIf, wFor, wiR1, wiR2, wgName, oB, toF, toN, wRet, wRetN, wNext, wDrop, wMut, fAppend, wPar, nCons, nNil, setAll, sl, wAugI, wAug, bAddI, bSub, bAdd, wAnd, wOr, wNot, wAndV, wOrV, wNotV, wBl, wIfE, wCall, xCons, xNil, xW, Kd.ret, wiF, wiO, seqOf, wgTup, wgCons, wgNil, wAsgT, wSlice, wPSome, wPNone, dSlice, bMul, bMod, bDiv, bPow, cInt, cAbs, cLen, cTuple, cList, cmpD, ozI, ozB, uNeg, wComp, wipeR, restR, wYes, wBreak, wCont, wLstRg, wTupRg, wRg1, wRg2, wExtend, bIs, bIsNot, isNonD, List.set_cons_zero, List.set_cons_succ, List.getElem?_cons_zero, List.getElem?_cons_succ, List.getD_cons_zero, List.getD_cons_succ, List.length_cons, List.length_nil, if_true, if_false, reduceCtorEq, ite_true, ite_false, and_true, true_and, rho0, VL.A.slot, List.map_cons, List.map_nil, List.cons_append, List.nil_append, List.replicate, Nat.add_eq, Nat.reduceAdd, Nat.reduceSub, Bool.false_eq_true, decide_eq_true_eq, Nat.zero_le, Nat.zero_add, lim1, lim2, lim3, lim4, lim5, lim6, lim7, lim8, Bool.not_true, Bool.not_false, decide_true, decide_false, subs_tup (atI_nat g1), subs_tup (atI_nat g2)]
    exact hK
  · have e1 := range_fm (zipP xs ys) prD
    rw [zipP_len hlen] at e1
    rw [e1]
    simp (maxSteps := 4000000) only [wSeq, wAsg, wgN, wVar, wCon, wBin, wUn, wCl, wCons, wNil, wConsF, wTup, wLst, wTest, wIf, wFor, wiR1, wiR2, wgName, oB, toF, toN, wRet, wRetN, wNext, wDrop, wMut, fAppend, wPar, nCons, nNil, setAll, sl, wAugI, wAug, bAddI, bSub, bAdd, wAnd, wOr, wNot, wAndV, wOrV, wNotV, wBl, wIfE, wCall, xCons, xNil, xW, Kd.ret, wiF, wiO, seqOf, wgTup, wgCons, wgNil, wAsgT, wSlice, wPSome, wPNone, dSlice, bMul, bMod, bDiv, bPow, cInt, cAbs, cLen, cTuple, cList, cmpD, ozI, ozB, uNeg, wComp, wipeR, restR, wYes, wBreak, wCont, wLstRg, wTupRg, wRg1, wRg2, wExtend, bIs, bIsNot, isNonD, List.set_cons_zero, List.set_cons_succ, List.getElem?_cons_zero, List.getElem?_cons_succ, List.getD_cons_zero, List.getD_cons_succ, List.length_cons, List.length_nil, if_true, if_false, reduceCtorEq, ite_true, ite_false, and_true, true_and, rho0, VL.A.slot, List.map_cons, List.map_nil, List.cons_append, List.nil_append, List.replicate, Nat.add_eq, Nat.reduceAdd, Nat.reduceSub, Bool.false_eq_true, decide_eq_true_eq, Nat.zero_le, Nat.zero_add, lim1, lim2, lim3, lim4, lim5, lim6, lim7, lim8, Bool.not_true, Bool.not_false, decide_true, decide_false, List.length_map]
    rw [zipP_len hlen, ← List.map_append]
    refine ⟨by unfold LIM; omega, go (l ++ zipP xs ys) _ _ (fun p hp => ?_) ?_ ?_⟩
    · rcases List.mem_append.mp hp with h | h
      · exact hl p h
      · obtain ⟨h1, h2⟩ := zipP_mem h
        obtain ⟨a1, a2⟩ := hu.kids (n := 14) h1
        obtain ⟨b1, b2⟩ := hv.kids (n := 14) h2
        exact ⟨⟨a1, okE_up (by decide) a2⟩, ⟨b1, okE_up (by decide) b2⟩⟩
    · unfold szp
      rw [List.map_append, szs_append, zipP_snd hlen]
      exact Nat.le_refl _
    · simp only [List.mem_append, or_imp, forall_and, zipP_eq hlen]
theorem same_rows_lst {P : PEnds} {x0 x1 x5 x6 x7 : Slot} {l : List (D × D)} {xs ys : List D} (hl : ∀ p ∈ l, PrOk p) (hu : SgOk 15 (.lst xs)) (hv : SgOk 15 (.lst ys)) (hlen : xs.length = ys.length) (hz : szp l + szs ys ≤ 5000)
    (go : ∀ (l' : List (D × D)) (x3 x4 : Slot), (∀ p ∈ l', PrOk p) → szp l' ≤ szp l + szs ys → ((∀ p ∈ l', p.1 = p.2) ↔ (∀ p ∈ l, p.1 = p.2) ∧ xs = ys) → P.nx [x0, x1, .ow (.lst (l'.map prD)), x3, x4, x5, x6, x7]) :
    t__law_same_s2 P [x0, x1, .ow (.lst (l.map prD)), .fz (.lst xs), .fz (.lst ys), x5, x6, x7] := by
  have hll : l.length ≤ szp l := by have := szs_len (l.map (·.2)); rwa [List.length_map] at this
  have hyl := szs_len ys
  unfold t__law_same_s2
  simp (maxSteps := 4000000) only [wSeq, wAsg, wgN, wVar, wCon, wBin, wUn, wCl, wCons, wNil, wConsF, wTup, wLst, wTest, wIf, wFor, wiR1, wiR2, wgName, oB, toF, toN, wRet, wRetN, wNext, wDrop, wMut, fAppend, wPar, nCons, nNil, setAll, sl, wAugI, wAug, bAddI, bSub, bAdd, wAnd, wOr, wNot, wAndV, wOrV, wNotV, wBl, wIfE, wCall, xCons, xNil, xW, Kd.ret, wiF, wiO, seqOf, wgTup, wgCons, wgNil, wAsgT, wSlice, wPSome, wPNone, dSlice, bMul, bMod, bDiv, bPow, cInt, cAbs, cLen, cTuple, cList, cmpD, ozI, ozB, uNeg, wComp, wipeR, restR, wYes, wBreak, wCont, wLstRg, wTupRg, wRg1, wRg2, wExtend, bIs, bIsNot, isNonD, List.set_cons_zero, List.set_cons_succ, List.getElem?_cons_zero, List.getElem?_cons_succ, List.getD_cons_zero, List.getD_cons_succ, List.length_cons, List.length_nil, if_true, if_false, reduceCtorEq, ite_true, ite_false, and_true, true_and, rho0, VL.A.slot, List.map_cons, List.map_nil, List.cons_append, List.nil_append, List.replicate, Nat.add_eq, Nat.reduceAdd, Nat.reduceSub, Bool.false_eq_true, decide_eq_true_eq, Nat.zero_le, Nat.zero_add, lim1, lim2, lim3, lim4, lim5, lim6, lim7, lim8, Bool.not_true, Bool.not_false, decide_true, decide_false]
  refine ⟨⟨_, rfl⟩, by unfold i62; omega, ?_⟩
  rw [Int.toNat_natCast]
  unfold rng
  refine comp_mp (fun i : Nat => D.int (0 + (i : Int))) (fun i => ((zipP xs ys)[i]?).map prD) (List.range ys.length) (by rw [List.length_range]; unfold LIM; omega) (fun i hi K hK => ?_) ?_
  · have hi := List.mem_range.mp hi
    have g1 := List.getElem?_eq_getElem (l := xs) (i := i) (by omega)
    have g2 := List.getElem?_eq_getElem (l := ys) (i := i) (by omega)
    rw [zipP_get g1 g2] at hK
    unfold t__law_same_c4
    rw [Int.zero_add]
    simp (maxSteps := 4000000) only [wSeq, wAsg, wgN, wVar, wCon, wBin, wUn, wCl, wCons, wNil, wConsF, wTup, wLst, wTest, wIf, wFor, wiR1, wiR2, wgName, oB, toF, toN, wRet, wRetN, wNext, wDrop, wMut, fAppend, wPar, nCons, nNil, setAll, sl, wAugI, wAug, bAddI, bSub, bAdd, wAnd, wOr, wNot, wAndV, wOrV, wNotV, wBl, wIfE, wCall, xCons, xNil, xW, Kd.ret, wiF, wiO, seqOf, wgTup, wgCons, wgNil, wAsgT, wSlice, wPSome, wPNone, dSlice, bMul, bMod, bDiv, bPow, cInt, cAbs, cLen, cTuple, cList, cmpD, ozI, ozB, uNeg, wComp, wipeR, restR, wYes, wBreak, wCont, wLstRg, wTupRg, wRg1, wRg2, wExtend, bIs, bIsNot, isNonD, List.set_cons_zero, List.set_cons_succ, List.getElem?_cons_zero, List.getElem?_cons_succ, List.getD_cons_zero, List.getD_cons_succ, List.length_cons, List.length_nil, if_true, if_false, reduceCtorEq, ite_true, ite_false, and_true, true_and, rho0, VL.A.slot, List.map_cons, List.map_nil, List.cons_append, List.nil_append, List.replicate, Nat.add_eq, Nat.reduceAdd, Nat.reduceSub, Bool.false_eq_true, decide_eq_true_eq, Nat.zero_le, Nat.zero_add, lim1, lim2, lim3, lim4, lim5, lim6, lim7, lim8, Bool.not_true, Bool.not_false, decide_true, decide_false, subs_lst (atI_nat g1), subs_lst (atI_nat g2)]
    exact hK
  · have e1 := range_fm (zipP xs ys) prD
    rw [zipP_len hlen] at e1
    rw [e1]
    simp (maxSteps := 4000000) only [wSeq, wAsg, wgN, wVar, wCon, wBin, wUn, wCl, wCons, wNil, wConsF, wTup, wLst, wTest, wIf, wFor, wiR1, wiR2, wgName, oB, toF, toN, wRet, wRetN, wNext, wDrop, wMut, fAppend, wPar, nCons, nNil, setAll, sl, wAugI, wAug, bAddI, bSub, bAdd, wAnd, wOr, wNot, wAndV, wOrV, wNotV, wBl, wIfE, wCall, xCons, xNil, xW, Kd.ret, wiF, wiO, seqOf, wgTup, wgCons, wgNil, wAsgT, wSlice, wPSome, wPNone, dSlice, bMul, bMod, bDiv, bPow, cInt, cAbs, cLen, cTuple, cList, cmpD, ozI, ozB, uNeg, wComp, wipeR, restR, wYes, wBreak, wCont, wLstRg, wTupRg, wRg1, wRg2, wExtend, bIs, bIsNot, isNonD, List.set_cons_zero, List.set_cons_succ, List.getElem?_cons_zero, List.getElem?_cons_succ, List.getD_cons_zero, List.getD_cons_succ, List.length_cons, List.length_nil, if_true, if_false, reduceCtorEq, ite_true, ite_false, and_true, true_and, rho0, VL.A.slot, List.map_cons, List.map_nil, List.cons_append, List.nil_append, List.replicate, Nat.add_eq, Nat.reduceAdd, Nat.reduceSub, Bool.false_eq_true, decide_eq_true_eq, Nat.zero_le, Nat.zero_add, lim1, lim2, lim3, lim4, lim5, lim6, lim7, lim8, Bool.not_true, Bool.not_false, decide_true, decide_false, List.length_map]
    rw [zipP_len hlen, ← List.map_append]
    refine ⟨by unfold LIM; omega, go (l ++ zipP xs ys) _ _ (fun p hp => ?_) ?_ ?_⟩
    · rcases List.mem_append.mp hp with h | h
      · exact hl p h
      · obtain ⟨h1, h2⟩ := zipP_mem h
        obtain ⟨a1, a2⟩ := hu.kidsL (n := 14) h1
        obtain ⟨b1, b2⟩ := hv.kidsL (n := 14) h2
        exact ⟨⟨a1, okE_up (by decide) a2⟩, ⟨b1, okE_up (by decide) b2⟩⟩
    · unfold szp
      rw [List.map_append, szs_append, zipP_snd hlen]
      exact Nat.le_refl _
    · simp only [List.mem_append, or_imp, forall_and, zipP_eq hlen]
theorem same_step {P : PEnds} {x0 x1 x3 x4 x5 x6 x7 : Slot} {l : List (D × D)} {u v : D} (hl : ∀ p ∈ l, PrOk p) (hu : SgOk 15 u) (hv : SgOk 15 v) (hz : szp (l ++ [(u, v)]) ≤ 5000)
    (no : u ≠ v → P.rt (.bl false) .fz) (go : ∀ (l' : List (D × D)) (x3 x4 : Slot), (∀ p ∈ l', PrOk p) → szp l' < szp (l ++ [(u, v)]) → ((∀ p ∈ l', p.1 = p.2) ↔ (∀ p ∈ l, p.1 = p.2) ∧ u = v) → P.nx [x0, x1, .ow (.lst (l'.map prD)), x3, x4, x5, x6, x7]) :
    t__law_same_w1 P [x0, x1, .ow (.lst ((l ++ [(u, v)]).map prD)), x3, x4, x5, x6, x7] := by
  have tu := tyD_sg hu.1
  have tv := tyD_sg hv.1
  obtain ⟨i1, i2, i3, i4, i5, i6, j1, j2, j3, j4, j5, j6, k1, k2, k3, k4, k5, k6, l1, l2, l3, l4, l5, l6, m1, m2, m3, m4, m5, m6, n1, n2, n3, n4, n5, n6⟩ := isB_tab
  have hza : szp (l ++ [(u, v)]) = szp l + szD v := by unfold szp; rw [List.map_append, szs_append]; simp [szs]
  have hv1 : 1 ≤ szD v := by cases v <;> simp [szD]
  have same : u = v → P.nx [x0, x1, .ow (.lst (l.map prD)), .fz u, .fz v, x5, x6, x7] := fun e => go l _ _ hl (by omega) ⟨fun h => ⟨h, e⟩, fun h => h.1⟩
  have hne : bNe u v = ozB (!eqv u v) := bNe_ok (okE_up (by decide) hu.2) (okE_up (by decide) hv.2)
  unfold t__law_same_w1
  have e1 : (l ++ [(u, v)]).map prD = l.map prD ++ [.tup [u, v]] := by rw [List.map_append]; rfl
  rw [e1]
  simp (maxSteps := 4000000) only [wSeq, wAsg, wgN, wVar, wCon, wBin, wUn, wCl, wCons, wNil, wConsF, wTup, wLst, wTest, wIf, wFor, wiR1, wiR2, wgName, oB, toF, toN, wRet, wRetN, wNext, wDrop, wMut, fAppend, wPar, nCons, nNil, setAll, sl, wAugI, wAug, bAddI, bSub, bAdd, wAnd, wOr, wNot, wAndV, wOrV, wNotV, wBl, wIfE, wCall, xCons, xNil, xW, Kd.ret, wiF, wiO, seqOf, wgTup, wgCons, wgNil, wAsgT, wSlice, wPSome, wPNone, dSlice, bMul, bMod, bDiv, bPow, cInt, cAbs, cLen, cTuple, cList, cmpD, ozI, ozB, uNeg, wComp, wipeR, restR, wYes, wBreak, wCont, wLstRg, wTupRg, wRg1, wRg2, wExtend, bIs, bIsNot, isNonD, List.set_cons_zero, List.set_cons_succ, List.getElem?_cons_zero, List.getElem?_cons_succ, List.getD_cons_zero, List.getD_cons_succ, List.length_cons, List.length_nil, if_true, if_false, reduceCtorEq, ite_true, ite_false, and_true, true_and, rho0, VL.A.slot, List.map_cons, List.map_nil, List.cons_append, List.nil_append, List.replicate, Nat.add_eq, Nat.reduceAdd, Nat.reduceSub, Bool.false_eq_true, decide_eq_true_eq, Nat.zero_le, Nat.zero_add, lim1, lim2, lim3, lim4, lim5, lim6, lim7, lim8, Bool.not_true, Bool.not_false, decide_true, decide_false, wPopT, List.getLast?_concat, List.dropLast_concat, wIs, tu, tv, bNe_bl]
  clear e1
  cases v with
  | dk _ => simp [SgOk, sg] at hv
  | dt _ => simp [SgOk, sg] at hv
  | fl _ => simp [SgOk, sg] at hv
  | ft _ => simp [SgOk, sg] at hv
  | tup ys =>
    simp only [tyS, i6, j6, k6, if_true, if_false, Bool.false_eq_true]
    cases u with
    | dk _ => simp [SgOk, sg] at hu
    | dt _ => simp [SgOk, sg] at hu
    | fl _ => simp [SgOk, sg] at hu
    | ft _ => simp [SgOk, sg] at hu
    | tup xs =>
      simp only [tyS, j6, k6, bne_self_eq_false, if_false, Bool.false_eq_true, bNe_ints, ozB]
      by_cases hlen : xs.length = ys.length
      · simp only [hlen, decide_true, Bool.not_true, if_false, Bool.false_eq_true]
        have hs : szD (.tup ys) = szs ys + 1 := by simp [szD]
        exact same_rows_tup hl hu hv hlen (by omega) fun l' x3 x4 a b c => go l' x3 x4 a (by omega) (by rw [c]; simp)
      · have : ¬ (xs.length : Int) = (ys.length : Int) := by omega
        simp only [this, decide_false, Bool.not_false, if_true]
        exact no fun e => hlen (by rw [D.tup.inj e])
    | _ => simp only [tyS, j1, j2, j3, j4, j5]; exact no (by simp)
  | lst ys =>
    simp only [tyS, i5, j5, k5, if_true, if_false, Bool.false_eq_true]
    cases u with
    | dk _ => simp [SgOk, sg] at hu
    | dt _ => simp [SgOk, sg] at hu
    | fl _ => simp [SgOk, sg] at hu
    | ft _ => simp [SgOk, sg] at hu
    | lst xs =>
      simp only [tyS, j5, k5, bne_self_eq_false, if_false, Bool.false_eq_true, bNe_ints, ozB]
      by_cases hlen : xs.length = ys.length
      · simp only [hlen, decide_true, Bool.not_true, if_false, Bool.false_eq_true]
        have hs : szD (.lst ys) = szs ys + 1 := by simp [szD]
        exact same_rows_lst hl hu hv hlen (by omega) fun l' x3 x4 a b c => go l' x3 x4 a (by omega) (by rw [c]; simp)
      · have : ¬ (xs.length : Int) = (ys.length : Int) := by omega
        simp only [this, decide_false, Bool.not_false, if_true]
        exact no fun e => hlen (by rw [D.lst.inj e])
    | tup xs => simp only [tyS, j6, j5]; exact no (by simp)
    | _ =>
      simp only [tyS, j1, j2, j3, j4, j5, k1, k2, k3, k4, k5, bne_self_eq_false, if_false, Bool.false_eq_true]
      exact no (by simp)
  | _ =>
    cases u with
    | dk _ => simp [SgOk, sg] at hu
    | dt _ => simp [SgOk, sg] at hu
    | fl _ => simp [SgOk, sg] at hu
    | ft _ => simp [SgOk, sg] at hu
    | _ =>
      simp only [tyS, i1, i2, i3, i4, j1, j2, j3, j4, k1, k2, k3, k4, l1, l2, l3, l4, l5, l6, m1, m2, m3, m4, m5, m6, n1, n2, n3, n4, n5, n6, bne_self_eq_false, if_false, if_true, Bool.false_eq_true, hne, ozB, eqv, Bool.not_false, Bool.not_true, show (true != true) = false from rfl, show (false != false) = false from rfl, show (true != false) = true from rfl, show (false != true) = true from rfl]
      first
        | exact same rfl
        | exact no (by simp)
        | (split
           · rename_i hh; exact no (by intro z; cases z; simp at hh)
           · rename_i hh; exact same (by simpa using hh))
def spSame : FS := fun as q => ∃ a b : D, as = [.d a, .d b] ∧ SgOk 15 a ∧ SgOk 15 b ∧ szD b ≤ 5000 ∧ ∀ c : Bool, (c = true ↔ a = b) → q (.bl c) .fz
theorem same_pure (as : List VL.A) (q : D → Kd → Prop) (h : spSame as q) : as.length = 2 ∧ t__law_same ⟨fun _ => q .non .fz, q, fun _ => False, fun _ => False⟩ (rho0 8 as) := by
  obtain ⟨a, b, rfl, ha, hb, hz, hq⟩ := h
  refine ⟨rfl, ?_⟩
  unfold t__law_same
  simp (maxSteps := 4000000) only [wSeq, wAsg, wgN, wVar, wCon, wBin, wUn, wCl, wCons, wNil, wConsF, wTup, wLst, wTest, wIf, wFor, wiR1, wiR2, wgName, oB, toF, toN, wRet, wRetN, wNext, wDrop, wMut, fAppend, wPar, nCons, nNil, setAll, sl, wAugI, wAug, bAddI, bSub, bAdd, wAnd, wOr, wNot, wAndV, wOrV, wNotV, wBl, wIfE, wCall, xCons, xNil, xW, Kd.ret, wiF, wiO, seqOf, wgTup, wgCons, wgNil, wAsgT, wSlice, wPSome, wPNone, dSlice, bMul, bMod, bDiv, bPow, cInt, cAbs, cLen, cTuple, cList, cmpD, ozI, ozB, uNeg, wComp, wipeR, restR, wYes, wBreak, wCont, wLstRg, wTupRg, wRg1, wRg2, wExtend, bIs, bIsNot, isNonD, List.set_cons_zero, List.set_cons_succ, List.getElem?_cons_zero, List.getElem?_cons_succ, List.getD_cons_zero, List.getD_cons_succ, List.length_cons, List.length_nil, if_true, if_false, reduceCtorEq, ite_true, ite_false, and_true, true_and, rho0, VL.A.slot, List.map_cons, List.map_nil, List.cons_append, List.nil_append, List.replicate, Nat.add_eq, Nat.reduceAdd, Nat.reduceSub, Bool.false_eq_true, decide_eq_true_eq, Nat.zero_le, Nat.zero_add, lim1, lim2, lim3, lim4, lim5, lim6, lim7, lim8, Bool.not_true, Bool.not_false, decide_true, decide_false, wWhile]
  refine ⟨fun m ρ => ∃ (l : List (D × D)) (x3 x4 : Slot), m = szp l ∧ szp l ≤ 5000 ∧ (∀ p ∈ l, PrOk p) ∧ ((∀ p ∈ l, p.1 = p.2) ↔ a = b) ∧ ρ = [.fz a, .fz b, .ow (.lst (l.map prD)), x3, x4, .un, .un, .un], ⟨_, [(a, b)], _, _, rfl, by simpa [szp, szs] using hz, by simpa using ⟨ha, hb⟩, by simp, rfl⟩, ?_⟩
  rintro m ρ ⟨l, x3, x4, rfl, hm, hl, heq, rfl⟩
  simp (maxSteps := 4000000) only [wSeq, wAsg, wgN, wVar, wCon, wBin, wUn, wCl, wCons, wNil, wConsF, wTup, wLst, wTest, wIf, wFor, wiR1, wiR2, wgName, oB, toF, toN, wRet, wRetN, wNext, wDrop, wMut, fAppend, wPar, nCons, nNil, setAll, sl, wAugI, wAug, bAddI, bSub, bAdd, wAnd, wOr, wNot, wAndV, wOrV, wNotV, wBl, wIfE, wCall, xCons, xNil, xW, Kd.ret, wiF, wiO, seqOf, wgTup, wgCons, wgNil, wAsgT, wSlice, wPSome, wPNone, dSlice, bMul, bMod, bDiv, bPow, cInt, cAbs, cLen, cTuple, cList, cmpD, ozI, ozB, uNeg, wComp, wipeR, restR, wYes, wBreak, wCont, wLstRg, wTupRg, wRg1, wRg2, wExtend, bIs, bIsNot, isNonD, List.set_cons_zero, List.set_cons_succ, List.getElem?_cons_zero, List.getElem?_cons_succ, List.getD_cons_zero, List.getD_cons_succ, List.length_cons, List.length_nil, if_true, if_false, reduceCtorEq, ite_true, ite_false, and_true, true_and, rho0, VL.A.slot, List.map_cons, List.map_nil, List.cons_append, List.nil_append, List.replicate, Nat.add_eq, Nat.reduceAdd, Nat.reduceSub, Bool.false_eq_true, decide_eq_true_eq, Nat.zero_le, Nat.zero_add, lim1, lim2, lim3, lim4, lim5, lim6, lim7, lim8, Bool.not_true, Bool.not_false, decide_true, decide_false, bNe_nil (ok_prs hl)]
  rcases List.eq_nil_or_concat l with rfl | ⟨l0, p, rfl⟩
  · simp only [List.map_nil, decide_true, Bool.not_true, if_false, Bool.false_eq_true]
    exact hq true (by simpa using heq)
  · rw [List.concat_eq_append] at *
    have ne : ¬ (l0 ++ [p]).map prD = [] := by simp
    simp only [ne, decide_false, Bool.not_false, if_true]
    obtain ⟨u, v⟩ := p
    have hp := hl (u, v) (by simp)
    refine same_step (fun p hp => hl p (by simp [hp])) hp.1 hp.2 hm (fun hne => hq false ?_) fun l' x3 x4 h1 h2 h3 => ?_
    · simp only [Bool.false_eq_true, false_iff]
      intro e
      exact hne (heq.mpr e (u, v) (by simp))
    · refine ⟨_, h2, l', x3, x4, rfl, by omega, h1, ?_, rfl⟩
      rw [h3, ← heq]
      simp only [List.mem_append, List.mem_singleton, or_imp, forall_and, forall_eq]
end VD

namespace VD
open PySem PySem.Spec PyProof.Rows L2 VL
open Evl (Ex)
/-! ### the calendar -/
def lenI (y m : Int) : Int := if m = 2 then (if y % 4 = 0 then 29 else 28) else if m = 4 ∨ m = 6 ∨ m = 9 ∨ m = 11 then 30 else 31
def begI (y : Int) : Int := 365 * y + (y + 3) / 4
def cumI (y m : Int) : Int := ((ir 1 (m - 1).toNat).map (lenI y)).sum
def dayI (y m d : Int) : Int := begI y + cumI y m + d - 1
def wdI (day : Int) : Int := (day + 4) % 7
def nwI (day w : Int) : Int := day + (w - wdI day - 1) % 7 + 1
def IsDate (day y m d : Int) : Prop := 0 ≤ y ∧ 1 ≤ m ∧ m ≤ 12 ∧ 1 ≤ d ∧ d ≤ lenI y m ∧ dayI y m d = day
def dD (y m d : Int) : D := .tup [.int y, .int m, .int d]
theorem m12 {m : Int} (h1 : 1 ≤ m) (h2 : m ≤ 12) : m = 1 ∨ m = 2 ∨ m = 3 ∨ m = 4 ∨ m = 5 ∨ m = 6 ∨ m = 7 ∨ m = 8 ∨ m = 9 ∨ m = 10 ∨ m = 11 ∨ m = 12 := by omega
theorem len_pos (y m : Int) : 28 ≤ lenI y m ∧ lenI y m ≤ 31 := by
  unfold lenI
  split
  · split <;> omega
  · split <;> omega
theorem cum_succ {y m : Int} (h1 : 1 ≤ m) : cumI y (m + 1) = cumI y m + lenI y m := by
  have key : ∀ (n : Nat) (lo : Int), ((ir lo (n + 1)).map (lenI y)).sum = ((ir lo n).map (lenI y)).sum + lenI y (lo + n) := fun n => by
    induction n with
    | zero => intro lo; simp [ir]
    | succ n ih =>
      intro lo
      have := ih (lo + 1)
      rw [show ir lo (n + 1 + 1) = lo :: ir (lo + 1) (n + 1) from rfl, List.map_cons, List.sum_cons, this, show ir lo (n + 1) = lo :: ir (lo + 1) n from rfl, List.map_cons, List.sum_cons]
      rw [show lo + 1 + (n : Int) = lo + ((n + 1 : Nat) : Int) by omega]
      omega
  unfold cumI
  have h := key (m - 1).toNat 1
  rw [show (m + 1 - 1).toNat = (m - 1).toNat + 1 by omega, h, show (1 : Int) + ((m - 1).toNat : Int) = m by omega]
theorem cum_one (y : Int) : cumI y 1 = 0 := rfl
theorem cum_nn {y m : Int} : 0 ≤ cumI y m := by
  unfold cumI
  generalize ir 1 (m - 1).toNat = l
  induction l with
  | nil => simp
  | cons x l ih => rw [List.map_cons, List.sum_cons]; have := (len_pos y x).1; omega
theorem cum_12 (y : Int) : cumI y 12 + 31 = 365 + (if y % 4 = 0 then 1 else 0) := by
  have : cumI y 12 = 31 + ((if y % 4 = 0 then 29 else 28) + (31 + (30 + (31 + (30 + (31 + (31 + (30 + (31 + (30 + 0)))))))))) := rfl
  rw [this]
  split <;> omega
theorem beg_succ (y : Int) : begI (y + 1) = begI y + (cumI y 12 + 31) := by
  rw [cum_12]
  unfold begI
  split <;> omega
theorem beg_mono {y z : Int} (h : y ≤ z) : begI y ≤ begI z := by unfold begI; omega
theorem cum_mono {y m n : Int} (h1 : 1 ≤ m) (h : m ≤ n) : cumI y m ≤ cumI y n := by
  obtain ⟨k, rfl⟩ : ∃ k : Nat, n = m + k := ⟨(n - m).toNat, by omega⟩
  clear h
  induction k with
  | zero => simp
  | succ k ih =>
    have := cum_succ (y := y) (m := m + k) (by omega)
    rw [show m + ((k + 1 : Nat) : Int) = m + (k : Int) + 1 by omega, this]
    have := (len_pos y (m + k)).1
    omega
theorem date_uniq {day y m d y' m' d' : Int} (h : IsDate day y m d) (h' : IsDate day y' m' d') : y = y' ∧ m = m' ∧ d = d' := by
  obtain ⟨a1, a2, a3, a4, a5, a6⟩ := h
  obtain ⟨b1, b2, b3, b4, b5, b6⟩ := h'
  unfold dayI at a6 b6
  have year : ∀ {y m d : Int}, 1 ≤ m → m ≤ 12 → 1 ≤ d → d ≤ lenI y m → begI y ≤ begI y + cumI y m + d - 1 ∧ begI y + cumI y m + d - 1 < begI (y + 1) := fun {y m d} c1 c2 c3 c4 => by
    have e1 := cum_nn (y := y) (m := m)
    have e2 := cum_mono (y := y) (m := m + 1) (n := 13) (by omega) (by omega)
    have e3 := cum_succ (y := y) (m := m) c1
    have e4 := cum_succ (y := y) (m := 12) (by omega)
    have e5 := beg_succ y
    have e6 : lenI y 12 = 31 := rfl
    have e7 : (12 : Int) + 1 = 13 := rfl
    rw [e7, e6] at e4
    omega
  have ha := year a2 a3 a4 a5
  have hb := year b2 b3 b4 b5
  have hy : y = y' := by
    rcases Int.lt_trichotomy y y' with t | t | t
    · have := beg_mono (y := y + 1) (z := y') (by omega); omega
    · exact t
    · have := beg_mono (y := y' + 1) (z := y) (by omega); omega
  subst hy
  have hm : m = m' := by
    rcases Int.lt_trichotomy m m' with t | t | t
    · have e1 := cum_mono (y := y) (m := m + 1) (n := m') (by omega) (by omega)
      have e2 := cum_succ (y := y) (m := m) a2
      omega
    · exact t
    · have e1 := cum_mono (y := y) (m := m' + 1) (n := m) (by omega) (by omega)
      have e2 := cum_succ (y := y) (m := m') b2
      omega
  subst hm
  exact ⟨rfl, rfl, by omega⟩
/-! ### what the defs compute -/
def sp_is_leap : FS := fun as q => ∃ y : Int, as = [.d (.int y)] ∧ q (.bl (decide (y % 4 = 0))) .fz
theorem p_is_leap (as : List VL.A) (q : D → Kd → Prop) (h : sp_is_leap as q) : as.length = 1 ∧ t_is_leap ⟨fun _ => q .non .fz, q, fun _ => False, fun _ => False⟩ (rho0 1 as) := by
  obtain ⟨y, rfl, hq⟩ := h
  refine ⟨rfl, ?_⟩
  unfold t_is_leap
  simp (maxSteps := 4000000) only [wSeq, wAsg, wgN, wVar, wCon, wBin, wUn, wCl, wCons, wNil, wConsF, wTup, wLst, wTest, wIf, wFor, wiR1, wiR2, wgName, oB, toF, toN, wRet, wRetN, wNext, wDrop, wMut, fAppend, wPar, nCons, nNil, setAll, sl, wAugI, wAug, bAddI, bSub, bAdd, wAnd, wOr, wNot, wAndV, wOrV, wNotV, wBl, wIfE, wCall, xCons, xNil, xW, Kd.ret, wiF, wiO, seqOf, wgTup, wgCons, wgNil, wAsgT, wSlice, wPSome, wPNone, dSlice, bMul, bMod, bDiv, bPow, cInt, cAbs, cLen, cTuple, cList, cmpD, ozI, ozB, uNeg, wComp, wipeR, restR, wYes, wBreak, wCont, wLstRg, wTupRg, wRg1, wRg2, wExtend, bIs, bIsNot, isNonD, List.set_cons_zero, List.set_cons_succ, List.getElem?_cons_zero, List.getElem?_cons_succ, List.getD_cons_zero, List.getD_cons_succ, List.length_cons, List.length_nil, if_true, if_false, reduceCtorEq, ite_true, ite_false, and_true, true_and, rho0, VL.A.slot, List.map_cons, List.map_nil, List.cons_append, List.nil_append, List.replicate, Nat.add_eq, Nat.reduceAdd, Nat.reduceSub, Bool.false_eq_true, decide_eq_true_eq, Nat.zero_le, Nat.zero_add, lim1, lim2, lim3, lim4, lim5, lim6, lim7, lim8, Bool.not_true, Bool.not_false, decide_true, decide_false, show (4 : Int) ≠ 0 by decide, ne_eq, not_false_eq_true, bEq_ints, fmod_nn (show (0 : Int) ≤ 4 by decide)]
  exact hq
def sp_days_in : FS := fun as q => ∃ y m : Int, as = [.d (.int y), .d (.int m)] ∧ 1 ≤ m ∧ m ≤ 12 ∧ q (.int (lenI y m)) .fz
theorem long_at {y m : Int} (h1 : 1 ≤ m) (h2 : m ≤ 12) : ∃ a : Int, bSubs d_LONG (.int (m - 1)) = some (.int a, .fz) ∧ a + (if m = 2 ∧ y % 4 = 0 then 1 else 0) = lenI y m := by
  rcases m12 h1 h2 with rfl | rfl | rfl | rfl | rfl | rfl | rfl | rfl | rfl | rfl | rfl | rfl
  all_goals (refine ⟨_, rfl, ?_⟩; simp [lenI])
  split <;> rfl
theorem p_days_in (as : List VL.A) (q : D → Kd → Prop) (h : sp_days_in as q) : as.length = 2 ∧ t_days_in sp_is_leap ⟨fun _ => q .non .fz, q, fun _ => False, fun _ => False⟩ (rho0 2 as) := by
  obtain ⟨y, m, rfl, h1, h2, hq⟩ := h
  refine ⟨rfl, ?_⟩
  obtain ⟨a, e1, e2⟩ := long_at (y := y) h1 h2
  unfold t_days_in
  simp (maxSteps := 4000000) only [wSeq, wAsg, wgN, wVar, wCon, wBin, wUn, wCl, wCons, wNil, wConsF, wTup, wLst, wTest, wIf, wFor, wiR1, wiR2, wgName, oB, toF, toN, wRet, wRetN, wNext, wDrop, wMut, fAppend, wPar, nCons, nNil, setAll, sl, wAugI, wAug, bAddI, bSub, bAdd, wAnd, wOr, wNot, wAndV, wOrV, wNotV, wBl, wIfE, wCall, xCons, xNil, xW, Kd.ret, wiF, wiO, seqOf, wgTup, wgCons, wgNil, wAsgT, wSlice, wPSome, wPNone, dSlice, bMul, bMod, bDiv, bPow, cInt, cAbs, cLen, cTuple, cList, cmpD, ozI, ozB, uNeg, wComp, wipeR, restR, wYes, wBreak, wCont, wLstRg, wTupRg, wRg1, wRg2, wExtend, bIs, bIsNot, isNonD, List.set_cons_zero, List.set_cons_succ, List.getElem?_cons_zero, List.getElem?_cons_succ, List.getD_cons_zero, List.getD_cons_succ, List.length_cons, List.length_nil, if_true, if_false, reduceCtorEq, ite_true, ite_false, and_true, true_and, rho0, VL.A.slot, List.map_cons, List.map_nil, List.cons_append, List.nil_append, List.replicate, Nat.add_eq, Nat.reduceAdd, Nat.reduceSub, Bool.false_eq_true, decide_eq_true_eq, Nat.zero_le, Nat.zero_add, lim1, lim2, lim3, lim4, lim5, lim6, lim7, lim8, Bool.not_true, Bool.not_false, decide_true, decide_false, e1, bEq_ints]
  by_cases hm : m = 2
  · simp only [hm, decide_true, if_true]
    refine ⟨y, rfl, ?_⟩
    by_cases hy : y % 4 = 0
    · rw [if_pos ⟨hm, hy⟩] at e2
      simp (maxSteps := 4000000) only [wSeq, wAsg, wgN, wVar, wCon, wBin, wUn, wCl, wCons, wNil, wConsF, wTup, wLst, wTest, wIf, wFor, wiR1, wiR2, wgName, oB, toF, toN, wRet, wRetN, wNext, wDrop, wMut, fAppend, wPar, nCons, nNil, setAll, sl, wAugI, wAug, bAddI, bSub, bAdd, wAnd, wOr, wNot, wAndV, wOrV, wNotV, wBl, wIfE, wCall, xCons, xNil, xW, Kd.ret, wiF, wiO, seqOf, wgTup, wgCons, wgNil, wAsgT, wSlice, wPSome, wPNone, dSlice, bMul, bMod, bDiv, bPow, cInt, cAbs, cLen, cTuple, cList, cmpD, ozI, ozB, uNeg, wComp, wipeR, restR, wYes, wBreak, wCont, wLstRg, wTupRg, wRg1, wRg2, wExtend, bIs, bIsNot, isNonD, List.set_cons_zero, List.set_cons_succ, List.getElem?_cons_zero, List.getElem?_cons_succ, List.getD_cons_zero, List.getD_cons_succ, List.length_cons, List.length_nil, if_true, if_false, reduceCtorEq, ite_true, ite_false, and_true, true_and, rho0, VL.A.slot, List.map_cons, List.map_nil, List.cons_append, List.nil_append, List.replicate, Nat.add_eq, Nat.reduceAdd, Nat.reduceSub, Bool.false_eq_true, decide_eq_true_eq, Nat.zero_le, Nat.zero_add, lim1, lim2, lim3, lim4, lim5, lim6, lim7, lim8, Bool.not_true, Bool.not_false, decide_true, decide_false, hy, decide_true, bAdd, e2]
      exact hq
    · rw [if_neg fun z => hy z.2, Int.add_zero] at e2
      simp (maxSteps := 4000000) only [wSeq, wAsg, wgN, wVar, wCon, wBin, wUn, wCl, wCons, wNil, wConsF, wTup, wLst, wTest, wIf, wFor, wiR1, wiR2, wgName, oB, toF, toN, wRet, wRetN, wNext, wDrop, wMut, fAppend, wPar, nCons, nNil, setAll, sl, wAugI, wAug, bAddI, bSub, bAdd, wAnd, wOr, wNot, wAndV, wOrV, wNotV, wBl, wIfE, wCall, xCons, xNil, xW, Kd.ret, wiF, wiO, seqOf, wgTup, wgCons, wgNil, wAsgT, wSlice, wPSome, wPNone, dSlice, bMul, bMod, bDiv, bPow, cInt, cAbs, cLen, cTuple, cList, cmpD, ozI, ozB, uNeg, wComp, wipeR, restR, wYes, wBreak, wCont, wLstRg, wTupRg, wRg1, wRg2, wExtend, bIs, bIsNot, isNonD, List.set_cons_zero, List.set_cons_succ, List.getElem?_cons_zero, List.getElem?_cons_succ, List.getD_cons_zero, List.getD_cons_succ, List.length_cons, List.length_nil, if_true, if_false, reduceCtorEq, ite_true, ite_false, and_true, true_and, rho0, VL.A.slot, List.map_cons, List.map_nil, List.cons_append, List.nil_append, List.replicate, Nat.add_eq, Nat.reduceAdd, Nat.reduceSub, Bool.false_eq_true, decide_eq_true_eq, Nat.zero_le, Nat.zero_add, lim1, lim2, lim3, lim4, lim5, lim6, lim7, lim8, Bool.not_true, Bool.not_false, decide_true, decide_false, hy, decide_false, bAdd, e2, Int.add_zero]
      exact hq
  · rw [if_neg fun z => hm z.1, Int.add_zero] at e2
    simp only [hm, decide_false, if_false, Bool.false_eq_true, bAdd, Int.add_zero, e2, ozI]
    exact hq
def sp_begin_of : FS := fun as q => ∃ y : Int, as = [.d (.int y)] ∧ q (.int (begI y)) .fz
theorem p_begin_of (as : List VL.A) (q : D → Kd → Prop) (h : sp_begin_of as q) : as.length = 1 ∧ t_begin_of ⟨fun _ => q .non .fz, q, fun _ => False, fun _ => False⟩ (rho0 1 as) := by
  obtain ⟨y, rfl, hq⟩ := h
  refine ⟨rfl, ?_⟩
  unfold t_begin_of
  have hd : (4 : Int) ≠ 0 ∧ (4 : Int).natAbs < 1073741824 := by decide
  simp (maxSteps := 4000000) only [wSeq, wAsg, wgN, wVar, wCon, wBin, wUn, wCl, wCons, wNil, wConsF, wTup, wLst, wTest, wIf, wFor, wiR1, wiR2, wgName, oB, toF, toN, wRet, wRetN, wNext, wDrop, wMut, fAppend, wPar, nCons, nNil, setAll, sl, wAugI, wAug, bAddI, bSub, bAdd, wAnd, wOr, wNot, wAndV, wOrV, wNotV, wBl, wIfE, wCall, xCons, xNil, xW, Kd.ret, wiF, wiO, seqOf, wgTup, wgCons, wgNil, wAsgT, wSlice, wPSome, wPNone, dSlice, bMul, bMod, bDiv, bPow, cInt, cAbs, cLen, cTuple, cList, cmpD, ozI, ozB, uNeg, wComp, wipeR, restR, wYes, wBreak, wCont, wLstRg, wTupRg, wRg1, wRg2, wExtend, bIs, bIsNot, isNonD, List.set_cons_zero, List.set_cons_succ, List.getElem?_cons_zero, List.getElem?_cons_succ, List.getD_cons_zero, List.getD_cons_succ, List.length_cons, List.length_nil, if_true, if_false, reduceCtorEq, ite_true, ite_false, and_true, true_and, rho0, VL.A.slot, List.map_cons, List.map_nil, List.cons_append, List.nil_append, List.replicate, Nat.add_eq, Nat.reduceAdd, Nat.reduceSub, Bool.false_eq_true, decide_eq_true_eq, Nat.zero_le, Nat.zero_add, lim1, lim2, lim3, lim4, lim5, lim6, lim7, lim8, Bool.not_true, Bool.not_false, decide_true, decide_false, if_pos (w64l (i := 365) (by decide) (by decide) y), hd, fdiv_nn' (show (0 : Int) ≤ 4 by decide)]
  exact hq
theorem sum_lens {y : Int} {f : D → Option D} (hf : ∀ i : Int, f (.int i) = some (.int (lenI y i))) (m : Int) : (rng 1 (m - 1).toNat).filterMap f = ((ir 1 (m - 1).toNat).map (lenI y)).map .int := by
  rw [rng_ir, fmap_map (h := fun i => D.int (lenI y i)) hf, List.map_map]
  rfl
def sp_day_of : FS := fun as q => ∃ y m d : Int, as = [.d (dD y m d)] ∧ 1 ≤ m ∧ m ≤ 12 ∧ q (.int (dayI y m d)) .fz
theorem p_day_of (as : List VL.A) (q : D → Kd → Prop) (h : sp_day_of as q) : as.length = 1 ∧ t_day_of sp_begin_of sp_days_in ⟨fun _ => q .non .fz, q, fun _ => False, fun _ => False⟩ (rho0 5 as) := by
  obtain ⟨y, m, d, rfl, h1, h2, hq⟩ := h
  refine ⟨rfl, ?_⟩
  unfold t_day_of dD
  simp (maxSteps := 4000000) only [wSeq, wAsg, wgN, wVar, wCon, wBin, wUn, wCl, wCons, wNil, wConsF, wTup, wLst, wTest, wIf, wFor, wiR1, wiR2, wgName, oB, toF, toN, wRet, wRetN, wNext, wDrop, wMut, fAppend, wPar, nCons, nNil, setAll, sl, wAugI, wAug, bAddI, bSub, bAdd, wAnd, wOr, wNot, wAndV, wOrV, wNotV, wBl, wIfE, wCall, xCons, xNil, xW, Kd.ret, wiF, wiO, seqOf, wgTup, wgCons, wgNil, wAsgT, wSlice, wPSome, wPNone, dSlice, bMul, bMod, bDiv, bPow, cInt, cAbs, cLen, cTuple, cList, cmpD, ozI, ozB, uNeg, wComp, wipeR, restR, wYes, wBreak, wCont, wLstRg, wTupRg, wRg1, wRg2, wExtend, bIs, bIsNot, isNonD, List.set_cons_zero, List.set_cons_succ, List.getElem?_cons_zero, List.getElem?_cons_succ, List.getD_cons_zero, List.getD_cons_succ, List.length_cons, List.length_nil, if_true, if_false, reduceCtorEq, ite_true, ite_false, and_true, true_and, rho0, VL.A.slot, List.map_cons, List.map_nil, List.cons_append, List.nil_append, List.replicate, Nat.add_eq, Nat.reduceAdd, Nat.reduceSub, Bool.false_eq_true, decide_eq_true_eq, Nat.zero_le, Nat.zero_add, lim1, lim2, lim3, lim4, lim5, lim6, lim7, lim8, Bool.not_true, Bool.not_false, decide_true, decide_false]
  refine ⟨y, rfl, ?_⟩
  simp (maxSteps := 4000000) only [wSeq, wAsg, wgN, wVar, wCon, wBin, wUn, wCl, wCons, wNil, wConsF, wTup, wLst, wTest, wIf, wFor, wiR1, wiR2, wgName, oB, toF, toN, wRet, wRetN, wNext, wDrop, wMut, fAppend, wPar, nCons, nNil, setAll, sl, wAugI, wAug, bAddI, bSub, bAdd, wAnd, wOr, wNot, wAndV, wOrV, wNotV, wBl, wIfE, wCall, xCons, xNil, xW, Kd.ret, wiF, wiO, seqOf, wgTup, wgCons, wgNil, wAsgT, wSlice, wPSome, wPNone, dSlice, bMul, bMod, bDiv, bPow, cInt, cAbs, cLen, cTuple, cList, cmpD, ozI, ozB, uNeg, wComp, wipeR, restR, wYes, wBreak, wCont, wLstRg, wTupRg, wRg1, wRg2, wExtend, bIs, bIsNot, isNonD, List.set_cons_zero, List.set_cons_succ, List.getElem?_cons_zero, List.getElem?_cons_succ, List.getD_cons_zero, List.getD_cons_succ, List.length_cons, List.length_nil, if_true, if_false, reduceCtorEq, ite_true, ite_false, and_true, true_and, rho0, VL.A.slot, List.map_cons, List.map_nil, List.cons_append, List.nil_append, List.replicate, Nat.add_eq, Nat.reduceAdd, Nat.reduceSub, Bool.false_eq_true, decide_eq_true_eq, Nat.zero_le, Nat.zero_add, lim1, lim2, lim3, lim4, lim5, lim6, lim7, lim8, Bool.not_true, Bool.not_false, decide_true, decide_false]
  refine ⟨by unfold i62; omega, by unfold i62; omega, ?_⟩
  rw [rng_ir]
  refine comp_mp D.int (fun i => some (.int (lenI y i))) _ (by rw [ir_len]; unfold LIM; omega) (fun i hi K hK => ?_) ?_
  · have hi := ir_mem.mp hi
    unfold t_day_of_c1
    simp (maxSteps := 4000000) only [wSeq, wAsg, wgN, wVar, wCon, wBin, wUn, wCl, wCons, wNil, wConsF, wTup, wLst, wTest, wIf, wFor, wiR1, wiR2, wgName, oB, toF, toN, wRet, wRetN, wNext, wDrop, wMut, fAppend, wPar, nCons, nNil, setAll, sl, wAugI, wAug, bAddI, bSub, bAdd, wAnd, wOr, wNot, wAndV, wOrV, wNotV, wBl, wIfE, wCall, xCons, xNil, xW, Kd.ret, wiF, wiO, seqOf, wgTup, wgCons, wgNil, wAsgT, wSlice, wPSome, wPNone, dSlice, bMul, bMod, bDiv, bPow, cInt, cAbs, cLen, cTuple, cList, cmpD, ozI, ozB, uNeg, wComp, wipeR, restR, wYes, wBreak, wCont, wLstRg, wTupRg, wRg1, wRg2, wExtend, bIs, bIsNot, isNonD, List.set_cons_zero, List.set_cons_succ, List.getElem?_cons_zero, List.getElem?_cons_succ, List.getD_cons_zero, List.getD_cons_succ, List.length_cons, List.length_nil, if_true, if_false, reduceCtorEq, ite_true, ite_false, and_true, true_and, rho0, VL.A.slot, List.map_cons, List.map_nil, List.cons_append, List.nil_append, List.replicate, Nat.add_eq, Nat.reduceAdd, Nat.reduceSub, Bool.false_eq_true, decide_eq_true_eq, Nat.zero_le, Nat.zero_add, lim1, lim2, lim3, lim4, lim5, lim6, lim7, lim8, Bool.not_true, Bool.not_false, decide_true, decide_false]
    exact ⟨y, i, rfl, by omega, by omega, hK⟩
  · have e : (ir 1 (m - 1).toNat).filterMap (fun i => some (D.int (lenI y i))) = ((ir 1 (m - 1).toNat).map (lenI y)).map .int := by
      rw [List.map_map]
      exact congrFun (List.filterMap_eq_map (f := fun i => D.int (lenI y i))) _
    rw [e]
    simp (maxSteps := 4000000) only [wSeq, wAsg, wgN, wVar, wCon, wBin, wUn, wCl, wCons, wNil, wConsF, wTup, wLst, wTest, wIf, wFor, wiR1, wiR2, wgName, oB, toF, toN, wRet, wRetN, wNext, wDrop, wMut, fAppend, wPar, nCons, nNil, setAll, sl, wAugI, wAug, bAddI, bSub, bAdd, wAnd, wOr, wNot, wAndV, wOrV, wNotV, wBl, wIfE, wCall, xCons, xNil, xW, Kd.ret, wiF, wiO, seqOf, wgTup, wgCons, wgNil, wAsgT, wSlice, wPSome, wPNone, dSlice, bMul, bMod, bDiv, bPow, cInt, cAbs, cLen, cTuple, cList, cmpD, ozI, ozB, uNeg, wComp, wipeR, restR, wYes, wBreak, wCont, wLstRg, wTupRg, wRg1, wRg2, wExtend, bIs, bIsNot, isNonD, List.set_cons_zero, List.set_cons_succ, List.getElem?_cons_zero, List.getElem?_cons_succ, List.getD_cons_zero, List.getD_cons_succ, List.length_cons, List.length_nil, if_true, if_false, reduceCtorEq, ite_true, ite_false, and_true, true_and, rho0, VL.A.slot, List.map_cons, List.map_nil, List.cons_append, List.nil_append, List.replicate, Nat.add_eq, Nat.reduceAdd, Nat.reduceSub, Bool.false_eq_true, decide_eq_true_eq, Nat.zero_le, Nat.zero_add, lim1, lim2, lim3, lim4, lim5, lim6, lim7, lim8, Bool.not_true, Bool.not_false, decide_true, decide_false, cSum_ints]
    exact hq
def sp__law_long : FS := sp_days_in
theorem leap_div (y : Int) : decide (y / 4 * 4 = y) = decide (y % 4 = 0) := by
  by_cases h : y % 4 = 0
  · rw [decide_eq_true h, decide_eq_true (by omega)]
  · rw [decide_eq_false h, decide_eq_false (by omega)]
theorem p__law_long (as : List VL.A) (q : D → Kd → Prop) (h : sp__law_long as q) : as.length = 2 ∧ t__law_long ⟨fun _ => q .non .fz, q, fun _ => False, fun _ => False⟩ (rho0 2 as) := by
  obtain ⟨y, m, rfl, h1, h2, hq⟩ := h
  refine ⟨rfl, ?_⟩
  unfold t__law_long
  have hd : (4 : Int) ≠ 0 ∧ (4 : Int).natAbs < 1073741824 := by decide
  have hl : 12 ≤ LIM := by unfold LIM; decide
  simp (maxSteps := 4000000) only [wSeq, wAsg, wgN, wVar, wCon, wBin, wUn, wCl, wCons, wNil, wConsF, wTup, wLst, wTest, wIf, wFor, wiR1, wiR2, wgName, oB, toF, toN, wRet, wRetN, wNext, wDrop, wMut, fAppend, wPar, nCons, nNil, setAll, sl, wAugI, wAug, bAddI, bSub, bAdd, wAnd, wOr, wNot, wAndV, wOrV, wNotV, wBl, wIfE, wCall, xCons, xNil, xW, Kd.ret, wiF, wiO, seqOf, wgTup, wgCons, wgNil, wAsgT, wSlice, wPSome, wPNone, dSlice, bMul, bMod, bDiv, bPow, cInt, cAbs, cLen, cTuple, cList, cmpD, ozI, ozB, uNeg, wComp, wipeR, restR, wYes, wBreak, wCont, wLstRg, wTupRg, wRg1, wRg2, wExtend, bIs, bIsNot, isNonD, List.set_cons_zero, List.set_cons_succ, List.getElem?_cons_zero, List.getElem?_cons_succ, List.getD_cons_zero, List.getD_cons_succ, List.length_cons, List.length_nil, if_true, if_false, reduceCtorEq, ite_true, ite_false, and_true, true_and, rho0, VL.A.slot, List.map_cons, List.map_nil, List.cons_append, List.nil_append, List.replicate, Nat.add_eq, Nat.reduceAdd, Nat.reduceSub, Bool.false_eq_true, decide_eq_true_eq, Nat.zero_le, Nat.zero_add, lim1, lim2, lim3, lim4, lim5, lim6, lim7, lim8, Bool.not_true, Bool.not_false, decide_true, decide_false, if_pos (w64r (i := 4) (by decide) (by decide) (y / 4)), hd, fdiv_nn' (show (0 : Int) ≤ 4 by decide), bEq_ints, leap_div, hl, ne_eq, not_false_eq_true, show ((4 : Int) = 0) = False by simp]
  by_cases hy : y % 4 = 0
  · simp only [hy, decide_true, if_true]
    rcases m12 h1 h2 with rfl | rfl | rfl | rfl | rfl | rfl | rfl | rfl | rfl | rfl | rfl | rfl <;> (simp only [lenI, hy] at hq; exact hq)
  · simp only [hy, decide_false, if_false, Bool.false_eq_true]
    rcases m12 h1 h2 with rfl | rfl | rfl | rfl | rfl | rfl | rfl | rfl | rfl | rfl | rfl | rfl <;> (simp only [lenI, hy] at hq; exact hq)
end VD

namespace VD
open PySem PySem.Spec PyProof.Rows L2 VL
open Evl (Ex)
def sp__law_day : FS := fun as q => ∃ y m d : Int, as = [.d (.int y), .d (.int m), .d (.int d)] ∧ 1 ≤ m ∧ m ≤ 12 ∧ q (.int (dayI y m d)) .fz
theorem p__law_day (as : List VL.A) (q : D → Kd → Prop) (h : sp__law_day as q) : as.length = 3 ∧ t__law_day sp__law_long ⟨fun _ => q .non .fz, q, fun _ => False, fun _ => False⟩ (rho0 4 as) := by
  obtain ⟨y, m, d, rfl, h1, h2, hq⟩ := h
  refine ⟨rfl, ?_⟩
  unfold t__law_day
  have hd : (4 : Int) ≠ 0 ∧ (4 : Int).natAbs < 1073741824 := by decide
  simp (maxSteps := 4000000) only [wSeq, wAsg, wgN, wVar, wCon, wBin, wUn, wCl, wCons, wNil, wConsF, wTup, wLst, wTest, wIf, wFor, wiR1, wiR2, wgName, oB, toF, toN, wRet, wRetN, wNext, wDrop, wMut, fAppend, wPar, nCons, nNil, setAll, sl, wAugI, wAug, bAddI, bSub, bAdd, wAnd, wOr, wNot, wAndV, wOrV, wNotV, wBl, wIfE, wCall, xCons, xNil, xW, Kd.ret, wiF, wiO, seqOf, wgTup, wgCons, wgNil, wAsgT, wSlice, wPSome, wPNone, dSlice, bMul, bMod, bDiv, bPow, cInt, cAbs, cLen, cTuple, cList, cmpD, ozI, ozB, uNeg, wComp, wipeR, restR, wYes, wBreak, wCont, wLstRg, wTupRg, wRg1, wRg2, wExtend, bIs, bIsNot, isNonD, List.set_cons_zero, List.set_cons_succ, List.getElem?_cons_zero, List.getElem?_cons_succ, List.getD_cons_zero, List.getD_cons_succ, List.length_cons, List.length_nil, if_true, if_false, reduceCtorEq, ite_true, ite_false, and_true, true_and, rho0, VL.A.slot, List.map_cons, List.map_nil, List.cons_append, List.nil_append, List.replicate, Nat.add_eq, Nat.reduceAdd, Nat.reduceSub, Bool.false_eq_true, decide_eq_true_eq, Nat.zero_le, Nat.zero_add, lim1, lim2, lim3, lim4, lim5, lim6, lim7, lim8, Bool.not_true, Bool.not_false, decide_true, decide_false, if_pos (w64l (i := 365) (by decide) (by decide) y), hd, ne_eq, not_false_eq_true, show ((4 : Int) = 0) = False by simp, fdiv_nn' (show (0 : Int) ≤ 4 by decide)]
  refine ⟨by unfold i62; omega, by unfold i62; omega, ?_⟩
  rw [rng_ir]
  refine comp_mp D.int (fun i => some (.int (lenI y i))) _ (by rw [ir_len]; unfold LIM; omega) (fun i hi K hK => ?_) ?_
  · have hi := ir_mem.mp hi
    unfold t__law_day_c1
    simp (maxSteps := 4000000) only [wSeq, wAsg, wgN, wVar, wCon, wBin, wUn, wCl, wCons, wNil, wConsF, wTup, wLst, wTest, wIf, wFor, wiR1, wiR2, wgName, oB, toF, toN, wRet, wRetN, wNext, wDrop, wMut, fAppend, wPar, nCons, nNil, setAll, sl, wAugI, wAug, bAddI, bSub, bAdd, wAnd, wOr, wNot, wAndV, wOrV, wNotV, wBl, wIfE, wCall, xCons, xNil, xW, Kd.ret, wiF, wiO, seqOf, wgTup, wgCons, wgNil, wAsgT, wSlice, wPSome, wPNone, dSlice, bMul, bMod, bDiv, bPow, cInt, cAbs, cLen, cTuple, cList, cmpD, ozI, ozB, uNeg, wComp, wipeR, restR, wYes, wBreak, wCont, wLstRg, wTupRg, wRg1, wRg2, wExtend, bIs, bIsNot, isNonD, List.set_cons_zero, List.set_cons_succ, List.getElem?_cons_zero, List.getElem?_cons_succ, List.getD_cons_zero, List.getD_cons_succ, List.length_cons, List.length_nil, if_true, if_false, reduceCtorEq, ite_true, ite_false, and_true, true_and, rho0, VL.A.slot, List.map_cons, List.map_nil, List.cons_append, List.nil_append, List.replicate, Nat.add_eq, Nat.reduceAdd, Nat.reduceSub, Bool.false_eq_true, decide_eq_true_eq, Nat.zero_le, Nat.zero_add, lim1, lim2, lim3, lim4, lim5, lim6, lim7, lim8, Bool.not_true, Bool.not_false, decide_true, decide_false]
    exact ⟨y, i, rfl, by omega, by omega, hK⟩
  · have e : (ir 1 (m - 1).toNat).filterMap (fun i => some (D.int (lenI y i))) = ((ir 1 (m - 1).toNat).map (lenI y)).map .int := by
      rw [List.map_map]
      exact congrFun (List.filterMap_eq_map (f := fun i => D.int (lenI y i))) _
    rw [e]
    simp (maxSteps := 4000000) only [wSeq, wAsg, wgN, wVar, wCon, wBin, wUn, wCl, wCons, wNil, wConsF, wTup, wLst, wTest, wIf, wFor, wiR1, wiR2, wgName, oB, toF, toN, wRet, wRetN, wNext, wDrop, wMut, fAppend, wPar, nCons, nNil, setAll, sl, wAugI, wAug, bAddI, bSub, bAdd, wAnd, wOr, wNot, wAndV, wOrV, wNotV, wBl, wIfE, wCall, xCons, xNil, xW, Kd.ret, wiF, wiO, seqOf, wgTup, wgCons, wgNil, wAsgT, wSlice, wPSome, wPNone, dSlice, bMul, bMod, bDiv, bPow, cInt, cAbs, cLen, cTuple, cList, cmpD, ozI, ozB, uNeg, wComp, wipeR, restR, wYes, wBreak, wCont, wLstRg, wTupRg, wRg1, wRg2, wExtend, bIs, bIsNot, isNonD, List.set_cons_zero, List.set_cons_succ, List.getElem?_cons_zero, List.getElem?_cons_succ, List.getD_cons_zero, List.getD_cons_succ, List.length_cons, List.length_nil, if_true, if_false, reduceCtorEq, ite_true, ite_false, and_true, true_and, rho0, VL.A.slot, List.map_cons, List.map_nil, List.cons_append, List.nil_append, List.replicate, Nat.add_eq, Nat.reduceAdd, Nat.reduceSub, Bool.false_eq_true, decide_eq_true_eq, Nat.zero_le, Nat.zero_add, lim1, lim2, lim3, lim4, lim5, lim6, lim7, lim8, Bool.not_true, Bool.not_false, decide_true, decide_false, cSum_ints]
    exact hq
/-- both ways from a day to its date -/
def spDate : FS := fun as q => ∃ day : Int, as = [.d (.int day)] ∧ 0 ≤ day ∧ ∀ y m d : Int, IsDate day y m d → q (dD y m d) .fz
theorem beg_first {day : Int} (h : 0 ≤ day) : 0 ≤ day / 366 ∧ begI (day / 366) ≤ day := by unfold begI; omega
theorem beg_le (y : Int) (h : 0 ≤ y) : y ≤ begI y := by unfold begI; omega
theorem year_end {y m left day : Int} (h1 : 1 ≤ m) (h2 : m ≤ 12) (h3 : day < begI (y + 1)) (h4 : left = day - begI y - cumI y m) (h5 : lenI y m ≤ left) : m ≤ 11 := by
  by_cases h : m = 12
  · subst h
    have := beg_succ y
    have e : lenI y 12 = 31 := rfl
    omega
  · omega
theorem p_date_of (as : List VL.A) (q : D → Kd → Prop) (h : spDate as q) : as.length = 1 ∧ t_date_of sp_begin_of sp_days_in ⟨fun _ => q .non .fz, q, fun _ => False, fun _ => False⟩ (rho0 4 as) := by
  obtain ⟨day, rfl, h0, hq⟩ := h
  refine ⟨rfl, ?_⟩
  unfold t_date_of
  have hd : (366 : Int) ≠ 0 ∧ (366 : Int).natAbs < 1073741824 := by decide
  simp (maxSteps := 4000000) only [wSeq, wAsg, wgN, wVar, wCon, wBin, wUn, wCl, wCons, wNil, wConsF, wTup, wLst, wTest, wIf, wFor, wiR1, wiR2, wgName, oB, toF, toN, wRet, wRetN, wNext, wDrop, wMut, fAppend, wPar, nCons, nNil, setAll, sl, wAugI, wAug, bAddI, bSub, bAdd, wAnd, wOr, wNot, wAndV, wOrV, wNotV, wBl, wIfE, wCall, xCons, xNil, xW, Kd.ret, wiF, wiO, seqOf, wgTup, wgCons, wgNil, wAsgT, wSlice, wPSome, wPNone, dSlice, bMul, bMod, bDiv, bPow, cInt, cAbs, cLen, cTuple, cList, cmpD, ozI, ozB, uNeg, wComp, wipeR, restR, wYes, wBreak, wCont, wLstRg, wTupRg, wRg1, wRg2, wExtend, bIs, bIsNot, isNonD, List.set_cons_zero, List.set_cons_succ, List.getElem?_cons_zero, List.getElem?_cons_succ, List.getD_cons_zero, List.getD_cons_succ, List.length_cons, List.length_nil, if_true, if_false, reduceCtorEq, ite_true, ite_false, and_true, true_and, rho0, VL.A.slot, List.map_cons, List.map_nil, List.cons_append, List.nil_append, List.replicate, Nat.add_eq, Nat.reduceAdd, Nat.reduceSub, Bool.false_eq_true, decide_eq_true_eq, Nat.zero_le, Nat.zero_add, lim1, lim2, lim3, lim4, lim5, lim6, lim7, lim8, Bool.not_true, Bool.not_false, decide_true, decide_false, hd, ne_eq, not_false_eq_true, show ((366 : Int) = 0) = False by simp, fdiv_nn' (show (0 : Int) ≤ 366 by decide), wWhile]
  obtain ⟨y0, b0⟩ := beg_first h0
  refine ⟨fun k ρ => ∃ y : Int, k = (day - y).toNat ∧ 0 ≤ y ∧ begI y ≤ day ∧ ρ = [.fz (.int day), .fz (.int y), .un, .un], ⟨_, _, rfl, y0, b0, rfl⟩, ?_⟩
  rintro k ρ ⟨y, rfl, hy, hb, rfl⟩
  simp (maxSteps := 4000000) only [wSeq, wAsg, wgN, wVar, wCon, wBin, wUn, wCl, wCons, wNil, wConsF, wTup, wLst, wTest, wIf, wFor, wiR1, wiR2, wgName, oB, toF, toN, wRet, wRetN, wNext, wDrop, wMut, fAppend, wPar, nCons, nNil, setAll, sl, wAugI, wAug, bAddI, bSub, bAdd, wAnd, wOr, wNot, wAndV, wOrV, wNotV, wBl, wIfE, wCall, xCons, xNil, xW, Kd.ret, wiF, wiO, seqOf, wgTup, wgCons, wgNil, wAsgT, wSlice, wPSome, wPNone, dSlice, bMul, bMod, bDiv, bPow, cInt, cAbs, cLen, cTuple, cList, cmpD, ozI, ozB, uNeg, wComp, wipeR, restR, wYes, wBreak, wCont, wLstRg, wTupRg, wRg1, wRg2, wExtend, bIs, bIsNot, isNonD, List.set_cons_zero, List.set_cons_succ, List.getElem?_cons_zero, List.getElem?_cons_succ, List.getD_cons_zero, List.getD_cons_succ, List.length_cons, List.length_nil, if_true, if_false, reduceCtorEq, ite_true, ite_false, and_true, true_and, rho0, VL.A.slot, List.map_cons, List.map_nil, List.cons_append, List.nil_append, List.replicate, Nat.add_eq, Nat.reduceAdd, Nat.reduceSub, Bool.false_eq_true, decide_eq_true_eq, Nat.zero_le, Nat.zero_add, lim1, lim2, lim3, lim4, lim5, lim6, lim7, lim8, Bool.not_true, Bool.not_false, decide_true, decide_false]
  refine ⟨y + 1, rfl, ?_⟩
  simp (maxSteps := 4000000) only [wSeq, wAsg, wgN, wVar, wCon, wBin, wUn, wCl, wCons, wNil, wConsF, wTup, wLst, wTest, wIf, wFor, wiR1, wiR2, wgName, oB, toF, toN, wRet, wRetN, wNext, wDrop, wMut, fAppend, wPar, nCons, nNil, setAll, sl, wAugI, wAug, bAddI, bSub, bAdd, wAnd, wOr, wNot, wAndV, wOrV, wNotV, wBl, wIfE, wCall, xCons, xNil, xW, Kd.ret, wiF, wiO, seqOf, wgTup, wgCons, wgNil, wAsgT, wSlice, wPSome, wPNone, dSlice, bMul, bMod, bDiv, bPow, cInt, cAbs, cLen, cTuple, cList, cmpD, ozI, ozB, uNeg, wComp, wipeR, restR, wYes, wBreak, wCont, wLstRg, wTupRg, wRg1, wRg2, wExtend, bIs, bIsNot, isNonD, List.set_cons_zero, List.set_cons_succ, List.getElem?_cons_zero, List.getElem?_cons_succ, List.getD_cons_zero, List.getD_cons_succ, List.length_cons, List.length_nil, if_true, if_false, reduceCtorEq, ite_true, ite_false, and_true, true_and, rho0, VL.A.slot, List.map_cons, List.map_nil, List.cons_append, List.nil_append, List.replicate, Nat.add_eq, Nat.reduceAdd, Nat.reduceSub, Bool.false_eq_true, decide_eq_true_eq, Nat.zero_le, Nat.zero_add, lim1, lim2, lim3, lim4, lim5, lim6, lim7, lim8, Bool.not_true, Bool.not_false, decide_true, decide_false]
  by_cases hn : begI (y + 1) ≤ day
  · simp only [hn, decide_true, if_true]
    have := beg_le (y + 1) (by omega)
    exact ⟨_, by omega, y + 1, rfl, by omega, hn, rfl⟩
  simp only [hn, decide_false, if_false, Bool.false_eq_true]
  unfold t_date_of_s2
  simp (maxSteps := 4000000) only [wSeq, wAsg, wgN, wVar, wCon, wBin, wUn, wCl, wCons, wNil, wConsF, wTup, wLst, wTest, wIf, wFor, wiR1, wiR2, wgName, oB, toF, toN, wRet, wRetN, wNext, wDrop, wMut, fAppend, wPar, nCons, nNil, setAll, sl, wAugI, wAug, bAddI, bSub, bAdd, wAnd, wOr, wNot, wAndV, wOrV, wNotV, wBl, wIfE, wCall, xCons, xNil, xW, Kd.ret, wiF, wiO, seqOf, wgTup, wgCons, wgNil, wAsgT, wSlice, wPSome, wPNone, dSlice, bMul, bMod, bDiv, bPow, cInt, cAbs, cLen, cTuple, cList, cmpD, ozI, ozB, uNeg, wComp, wipeR, restR, wYes, wBreak, wCont, wLstRg, wTupRg, wRg1, wRg2, wExtend, bIs, bIsNot, isNonD, List.set_cons_zero, List.set_cons_succ, List.getElem?_cons_zero, List.getElem?_cons_succ, List.getD_cons_zero, List.getD_cons_succ, List.length_cons, List.length_nil, if_true, if_false, reduceCtorEq, ite_true, ite_false, and_true, true_and, rho0, VL.A.slot, List.map_cons, List.map_nil, List.cons_append, List.nil_append, List.replicate, Nat.add_eq, Nat.reduceAdd, Nat.reduceSub, Bool.false_eq_true, decide_eq_true_eq, Nat.zero_le, Nat.zero_add, lim1, lim2, lim3, lim4, lim5, lim6, lim7, lim8, Bool.not_true, Bool.not_false, decide_true, decide_false]
  refine ⟨y, rfl, ?_⟩
  simp (maxSteps := 4000000) only [wSeq, wAsg, wgN, wVar, wCon, wBin, wUn, wCl, wCons, wNil, wConsF, wTup, wLst, wTest, wIf, wFor, wiR1, wiR2, wgName, oB, toF, toN, wRet, wRetN, wNext, wDrop, wMut, fAppend, wPar, nCons, nNil, setAll, sl, wAugI, wAug, bAddI, bSub, bAdd, wAnd, wOr, wNot, wAndV, wOrV, wNotV, wBl, wIfE, wCall, xCons, xNil, xW, Kd.ret, wiF, wiO, seqOf, wgTup, wgCons, wgNil, wAsgT, wSlice, wPSome, wPNone, dSlice, bMul, bMod, bDiv, bPow, cInt, cAbs, cLen, cTuple, cList, cmpD, ozI, ozB, uNeg, wComp, wipeR, restR, wYes, wBreak, wCont, wLstRg, wTupRg, wRg1, wRg2, wExtend, bIs, bIsNot, isNonD, List.set_cons_zero, List.set_cons_succ, List.getElem?_cons_zero, List.getElem?_cons_succ, List.getD_cons_zero, List.getD_cons_succ, List.length_cons, List.length_nil, if_true, if_false, reduceCtorEq, ite_true, ite_false, and_true, true_and, rho0, VL.A.slot, List.map_cons, List.map_nil, List.cons_append, List.nil_append, List.replicate, Nat.add_eq, Nat.reduceAdd, Nat.reduceSub, Bool.false_eq_true, decide_eq_true_eq, Nat.zero_le, Nat.zero_add, lim1, lim2, lim3, lim4, lim5, lim6, lim7, lim8, Bool.not_true, Bool.not_false, decide_true, decide_false, wWhile]
  refine ⟨fun k ρ => ∃ m left : Int, k = (12 - m).toNat ∧ 1 ≤ m ∧ m ≤ 12 ∧ left = day - begI y - cumI y m ∧ 0 ≤ left ∧ ρ = [.fz (.int day), .fz (.int y), .fz (.int m), .fz (.int left)], ⟨_, 1, day - begI y, rfl, by decide, by decide, by rw [cum_one]; omega, by omega, rfl⟩, ?_⟩
  rintro k ρ ⟨m, left, rfl, m1, m2, hl, hl0, rfl⟩
  simp (maxSteps := 4000000) only [wSeq, wAsg, wgN, wVar, wCon, wBin, wUn, wCl, wCons, wNil, wConsF, wTup, wLst, wTest, wIf, wFor, wiR1, wiR2, wgName, oB, toF, toN, wRet, wRetN, wNext, wDrop, wMut, fAppend, wPar, nCons, nNil, setAll, sl, wAugI, wAug, bAddI, bSub, bAdd, wAnd, wOr, wNot, wAndV, wOrV, wNotV, wBl, wIfE, wCall, xCons, xNil, xW, Kd.ret, wiF, wiO, seqOf, wgTup, wgCons, wgNil, wAsgT, wSlice, wPSome, wPNone, dSlice, bMul, bMod, bDiv, bPow, cInt, cAbs, cLen, cTuple, cList, cmpD, ozI, ozB, uNeg, wComp, wipeR, restR, wYes, wBreak, wCont, wLstRg, wTupRg, wRg1, wRg2, wExtend, bIs, bIsNot, isNonD, List.set_cons_zero, List.set_cons_succ, List.getElem?_cons_zero, List.getElem?_cons_succ, List.getD_cons_zero, List.getD_cons_succ, List.length_cons, List.length_nil, if_true, if_false, reduceCtorEq, ite_true, ite_false, and_true, true_and, rho0, VL.A.slot, List.map_cons, List.map_nil, List.cons_append, List.nil_append, List.replicate, Nat.add_eq, Nat.reduceAdd, Nat.reduceSub, Bool.false_eq_true, decide_eq_true_eq, Nat.zero_le, Nat.zero_add, lim1, lim2, lim3, lim4, lim5, lim6, lim7, lim8, Bool.not_true, Bool.not_false, decide_true, decide_false]
  refine ⟨y, m, rfl, m1, m2, ?_⟩
  simp (maxSteps := 4000000) only [wSeq, wAsg, wgN, wVar, wCon, wBin, wUn, wCl, wCons, wNil, wConsF, wTup, wLst, wTest, wIf, wFor, wiR1, wiR2, wgName, oB, toF, toN, wRet, wRetN, wNext, wDrop, wMut, fAppend, wPar, nCons, nNil, setAll, sl, wAugI, wAug, bAddI, bSub, bAdd, wAnd, wOr, wNot, wAndV, wOrV, wNotV, wBl, wIfE, wCall, xCons, xNil, xW, Kd.ret, wiF, wiO, seqOf, wgTup, wgCons, wgNil, wAsgT, wSlice, wPSome, wPNone, dSlice, bMul, bMod, bDiv, bPow, cInt, cAbs, cLen, cTuple, cList, cmpD, ozI, ozB, uNeg, wComp, wipeR, restR, wYes, wBreak, wCont, wLstRg, wTupRg, wRg1, wRg2, wExtend, bIs, bIsNot, isNonD, List.set_cons_zero, List.set_cons_succ, List.getElem?_cons_zero, List.getElem?_cons_succ, List.getD_cons_zero, List.getD_cons_succ, List.length_cons, List.length_nil, if_true, if_false, reduceCtorEq, ite_true, ite_false, and_true, true_and, rho0, VL.A.slot, List.map_cons, List.map_nil, List.cons_append, List.nil_append, List.replicate, Nat.add_eq, Nat.reduceAdd, Nat.reduceSub, Bool.false_eq_true, decide_eq_true_eq, Nat.zero_le, Nat.zero_add, lim1, lim2, lim3, lim4, lim5, lim6, lim7, lim8, Bool.not_true, Bool.not_false, decide_true, decide_false]
  by_cases hm : lenI y m ≤ left
  · simp only [hm, decide_true, if_true]
    have := year_end m1 m2 (by omega) hl hm
    unfold t_date_of_w1
    simp (maxSteps := 4000000) only [wSeq, wAsg, wgN, wVar, wCon, wBin, wUn, wCl, wCons, wNil, wConsF, wTup, wLst, wTest, wIf, wFor, wiR1, wiR2, wgName, oB, toF, toN, wRet, wRetN, wNext, wDrop, wMut, fAppend, wPar, nCons, nNil, setAll, sl, wAugI, wAug, bAddI, bSub, bAdd, wAnd, wOr, wNot, wAndV, wOrV, wNotV, wBl, wIfE, wCall, xCons, xNil, xW, Kd.ret, wiF, wiO, seqOf, wgTup, wgCons, wgNil, wAsgT, wSlice, wPSome, wPNone, dSlice, bMul, bMod, bDiv, bPow, cInt, cAbs, cLen, cTuple, cList, cmpD, ozI, ozB, uNeg, wComp, wipeR, restR, wYes, wBreak, wCont, wLstRg, wTupRg, wRg1, wRg2, wExtend, bIs, bIsNot, isNonD, List.set_cons_zero, List.set_cons_succ, List.getElem?_cons_zero, List.getElem?_cons_succ, List.getD_cons_zero, List.getD_cons_succ, List.length_cons, List.length_nil, if_true, if_false, reduceCtorEq, ite_true, ite_false, and_true, true_and, rho0, VL.A.slot, List.map_cons, List.map_nil, List.cons_append, List.nil_append, List.replicate, Nat.add_eq, Nat.reduceAdd, Nat.reduceSub, Bool.false_eq_true, decide_eq_true_eq, Nat.zero_le, Nat.zero_add, lim1, lim2, lim3, lim4, lim5, lim6, lim7, lim8, Bool.not_true, Bool.not_false, decide_true, decide_false]
    refine ⟨y, m, rfl, m1, m2, ?_⟩
    simp (maxSteps := 4000000) only [wSeq, wAsg, wgN, wVar, wCon, wBin, wUn, wCl, wCons, wNil, wConsF, wTup, wLst, wTest, wIf, wFor, wiR1, wiR2, wgName, oB, toF, toN, wRet, wRetN, wNext, wDrop, wMut, fAppend, wPar, nCons, nNil, setAll, sl, wAugI, wAug, bAddI, bSub, bAdd, wAnd, wOr, wNot, wAndV, wOrV, wNotV, wBl, wIfE, wCall, xCons, xNil, xW, Kd.ret, wiF, wiO, seqOf, wgTup, wgCons, wgNil, wAsgT, wSlice, wPSome, wPNone, dSlice, bMul, bMod, bDiv, bPow, cInt, cAbs, cLen, cTuple, cList, cmpD, ozI, ozB, uNeg, wComp, wipeR, restR, wYes, wBreak, wCont, wLstRg, wTupRg, wRg1, wRg2, wExtend, bIs, bIsNot, isNonD, List.set_cons_zero, List.set_cons_succ, List.getElem?_cons_zero, List.getElem?_cons_succ, List.getD_cons_zero, List.getD_cons_succ, List.length_cons, List.length_nil, if_true, if_false, reduceCtorEq, ite_true, ite_false, and_true, true_and, rho0, VL.A.slot, List.map_cons, List.map_nil, List.cons_append, List.nil_append, List.replicate, Nat.add_eq, Nat.reduceAdd, Nat.reduceSub, Bool.false_eq_true, decide_eq_true_eq, Nat.zero_le, Nat.zero_add, lim1, lim2, lim3, lim4, lim5, lim6, lim7, lim8, Bool.not_true, Bool.not_false, decide_true, decide_false]
    exact ⟨_, by omega, m + 1, left - lenI y m, rfl, by omega, by omega, by rw [cum_succ m1]; omega, by omega, rfl⟩
  · simp only [hm, decide_false, if_false, Bool.false_eq_true]
    unfold t_date_of_s1
    simp (maxSteps := 4000000) only [wSeq, wAsg, wgN, wVar, wCon, wBin, wUn, wCl, wCons, wNil, wConsF, wTup, wLst, wTest, wIf, wFor, wiR1, wiR2, wgName, oB, toF, toN, wRet, wRetN, wNext, wDrop, wMut, fAppend, wPar, nCons, nNil, setAll, sl, wAugI, wAug, bAddI, bSub, bAdd, wAnd, wOr, wNot, wAndV, wOrV, wNotV, wBl, wIfE, wCall, xCons, xNil, xW, Kd.ret, wiF, wiO, seqOf, wgTup, wgCons, wgNil, wAsgT, wSlice, wPSome, wPNone, dSlice, bMul, bMod, bDiv, bPow, cInt, cAbs, cLen, cTuple, cList, cmpD, ozI, ozB, uNeg, wComp, wipeR, restR, wYes, wBreak, wCont, wLstRg, wTupRg, wRg1, wRg2, wExtend, bIs, bIsNot, isNonD, List.set_cons_zero, List.set_cons_succ, List.getElem?_cons_zero, List.getElem?_cons_succ, List.getD_cons_zero, List.getD_cons_succ, List.length_cons, List.length_nil, if_true, if_false, reduceCtorEq, ite_true, ite_false, and_true, true_and, rho0, VL.A.slot, List.map_cons, List.map_nil, List.cons_append, List.nil_append, List.replicate, Nat.add_eq, Nat.reduceAdd, Nat.reduceSub, Bool.false_eq_true, decide_eq_true_eq, Nat.zero_le, Nat.zero_add, lim1, lim2, lim3, lim4, lim5, lim6, lim7, lim8, Bool.not_true, Bool.not_false, decide_true, decide_false]
    exact hq y m (left + 1) ⟨hy, m1, m2, by omega, by omega, by unfold dayI; omega⟩
theorem p__law_date (as : List VL.A) (q : D → Kd → Prop) (h : spDate as q) : as.length = 1 ∧ t__law_date sp__law_day sp__law_long ⟨fun _ => q .non .fz, q, fun _ => False, fun _ => False⟩ (rho0 4 as) := by
  obtain ⟨day, rfl, h0, hq⟩ := h
  refine ⟨rfl, ?_⟩
  have day11 : ∀ y : Int, dayI y 1 1 = begI y := fun y => by unfold dayI; rw [cum_one]; omega
  unfold t__law_date
  have hd : (366 : Int) ≠ 0 ∧ (366 : Int).natAbs < 1073741824 := by decide
  simp (maxSteps := 4000000) only [wSeq, wAsg, wgN, wVar, wCon, wBin, wUn, wCl, wCons, wNil, wConsF, wTup, wLst, wTest, wIf, wFor, wiR1, wiR2, wgName, oB, toF, toN, wRet, wRetN, wNext, wDrop, wMut, fAppend, wPar, nCons, nNil, setAll, sl, wAugI, wAug, bAddI, bSub, bAdd, wAnd, wOr, wNot, wAndV, wOrV, wNotV, wBl, wIfE, wCall, xCons, xNil, xW, Kd.ret, wiF, wiO, seqOf, wgTup, wgCons, wgNil, wAsgT, wSlice, wPSome, wPNone, dSlice, bMul, bMod, bDiv, bPow, cInt, cAbs, cLen, cTuple, cList, cmpD, ozI, ozB, uNeg, wComp, wipeR, restR, wYes, wBreak, wCont, wLstRg, wTupRg, wRg1, wRg2, wExtend, bIs, bIsNot, isNonD, List.set_cons_zero, List.set_cons_succ, List.getElem?_cons_zero, List.getElem?_cons_succ, List.getD_cons_zero, List.getD_cons_succ, List.length_cons, List.length_nil, if_true, if_false, reduceCtorEq, ite_true, ite_false, and_true, true_and, rho0, VL.A.slot, List.map_cons, List.map_nil, List.cons_append, List.nil_append, List.replicate, Nat.add_eq, Nat.reduceAdd, Nat.reduceSub, Bool.false_eq_true, decide_eq_true_eq, Nat.zero_le, Nat.zero_add, lim1, lim2, lim3, lim4, lim5, lim6, lim7, lim8, Bool.not_true, Bool.not_false, decide_true, decide_false, hd, ne_eq, not_false_eq_true, show ((366 : Int) = 0) = False by simp, fdiv_nn' (show (0 : Int) ≤ 366 by decide), wWhile]
  obtain ⟨y0, b0⟩ := beg_first h0
  refine ⟨fun k ρ => ∃ y : Int, k = (day - y).toNat ∧ 0 ≤ y ∧ begI y ≤ day ∧ ρ = [.fz (.int day), .fz (.int y), .un, .un], ⟨_, _, rfl, y0, b0, rfl⟩, ?_⟩
  rintro k ρ ⟨y, rfl, hy, hb, rfl⟩
  simp (maxSteps := 4000000) only [wSeq, wAsg, wgN, wVar, wCon, wBin, wUn, wCl, wCons, wNil, wConsF, wTup, wLst, wTest, wIf, wFor, wiR1, wiR2, wgName, oB, toF, toN, wRet, wRetN, wNext, wDrop, wMut, fAppend, wPar, nCons, nNil, setAll, sl, wAugI, wAug, bAddI, bSub, bAdd, wAnd, wOr, wNot, wAndV, wOrV, wNotV, wBl, wIfE, wCall, xCons, xNil, xW, Kd.ret, wiF, wiO, seqOf, wgTup, wgCons, wgNil, wAsgT, wSlice, wPSome, wPNone, dSlice, bMul, bMod, bDiv, bPow, cInt, cAbs, cLen, cTuple, cList, cmpD, ozI, ozB, uNeg, wComp, wipeR, restR, wYes, wBreak, wCont, wLstRg, wTupRg, wRg1, wRg2, wExtend, bIs, bIsNot, isNonD, List.set_cons_zero, List.set_cons_succ, List.getElem?_cons_zero, List.getElem?_cons_succ, List.getD_cons_zero, List.getD_cons_succ, List.length_cons, List.length_nil, if_true, if_false, reduceCtorEq, ite_true, ite_false, and_true, true_and, rho0, VL.A.slot, List.map_cons, List.map_nil, List.cons_append, List.nil_append, List.replicate, Nat.add_eq, Nat.reduceAdd, Nat.reduceSub, Bool.false_eq_true, decide_eq_true_eq, Nat.zero_le, Nat.zero_add, lim1, lim2, lim3, lim4, lim5, lim6, lim7, lim8, Bool.not_true, Bool.not_false, decide_true, decide_false]
  refine ⟨y + 1, 1, 1, rfl, by decide, by decide, ?_⟩
  simp (maxSteps := 4000000) only [wSeq, wAsg, wgN, wVar, wCon, wBin, wUn, wCl, wCons, wNil, wConsF, wTup, wLst, wTest, wIf, wFor, wiR1, wiR2, wgName, oB, toF, toN, wRet, wRetN, wNext, wDrop, wMut, fAppend, wPar, nCons, nNil, setAll, sl, wAugI, wAug, bAddI, bSub, bAdd, wAnd, wOr, wNot, wAndV, wOrV, wNotV, wBl, wIfE, wCall, xCons, xNil, xW, Kd.ret, wiF, wiO, seqOf, wgTup, wgCons, wgNil, wAsgT, wSlice, wPSome, wPNone, dSlice, bMul, bMod, bDiv, bPow, cInt, cAbs, cLen, cTuple, cList, cmpD, ozI, ozB, uNeg, wComp, wipeR, restR, wYes, wBreak, wCont, wLstRg, wTupRg, wRg1, wRg2, wExtend, bIs, bIsNot, isNonD, List.set_cons_zero, List.set_cons_succ, List.getElem?_cons_zero, List.getElem?_cons_succ, List.getD_cons_zero, List.getD_cons_succ, List.length_cons, List.length_nil, if_true, if_false, reduceCtorEq, ite_true, ite_false, and_true, true_and, rho0, VL.A.slot, List.map_cons, List.map_nil, List.cons_append, List.nil_append, List.replicate, Nat.add_eq, Nat.reduceAdd, Nat.reduceSub, Bool.false_eq_true, decide_eq_true_eq, Nat.zero_le, Nat.zero_add, lim1, lim2, lim3, lim4, lim5, lim6, lim7, lim8, Bool.not_true, Bool.not_false, decide_true, decide_false, day11]
  by_cases hn : begI (y + 1) ≤ day
  · simp only [hn, decide_true, if_true]
    have := beg_le (y + 1) (by omega)
    unfold t__law_date_w1
    simp (maxSteps := 4000000) only [wSeq, wAsg, wgN, wVar, wCon, wBin, wUn, wCl, wCons, wNil, wConsF, wTup, wLst, wTest, wIf, wFor, wiR1, wiR2, wgName, oB, toF, toN, wRet, wRetN, wNext, wDrop, wMut, fAppend, wPar, nCons, nNil, setAll, sl, wAugI, wAug, bAddI, bSub, bAdd, wAnd, wOr, wNot, wAndV, wOrV, wNotV, wBl, wIfE, wCall, xCons, xNil, xW, Kd.ret, wiF, wiO, seqOf, wgTup, wgCons, wgNil, wAsgT, wSlice, wPSome, wPNone, dSlice, bMul, bMod, bDiv, bPow, cInt, cAbs, cLen, cTuple, cList, cmpD, ozI, ozB, uNeg, wComp, wipeR, restR, wYes, wBreak, wCont, wLstRg, wTupRg, wRg1, wRg2, wExtend, bIs, bIsNot, isNonD, List.set_cons_zero, List.set_cons_succ, List.getElem?_cons_zero, List.getElem?_cons_succ, List.getD_cons_zero, List.getD_cons_succ, List.length_cons, List.length_nil, if_true, if_false, reduceCtorEq, ite_true, ite_false, and_true, true_and, rho0, VL.A.slot, List.map_cons, List.map_nil, List.cons_append, List.nil_append, List.replicate, Nat.add_eq, Nat.reduceAdd, Nat.reduceSub, Bool.false_eq_true, decide_eq_true_eq, Nat.zero_le, Nat.zero_add, lim1, lim2, lim3, lim4, lim5, lim6, lim7, lim8, Bool.not_true, Bool.not_false, decide_true, decide_false]
    exact ⟨_, by omega, y + 1, rfl, by omega, hn, rfl⟩
  simp only [hn, decide_false, if_false, Bool.false_eq_true]
  unfold t__law_date_s2
  simp (maxSteps := 4000000) only [wSeq, wAsg, wgN, wVar, wCon, wBin, wUn, wCl, wCons, wNil, wConsF, wTup, wLst, wTest, wIf, wFor, wiR1, wiR2, wgName, oB, toF, toN, wRet, wRetN, wNext, wDrop, wMut, fAppend, wPar, nCons, nNil, setAll, sl, wAugI, wAug, bAddI, bSub, bAdd, wAnd, wOr, wNot, wAndV, wOrV, wNotV, wBl, wIfE, wCall, xCons, xNil, xW, Kd.ret, wiF, wiO, seqOf, wgTup, wgCons, wgNil, wAsgT, wSlice, wPSome, wPNone, dSlice, bMul, bMod, bDiv, bPow, cInt, cAbs, cLen, cTuple, cList, cmpD, ozI, ozB, uNeg, wComp, wipeR, restR, wYes, wBreak, wCont, wLstRg, wTupRg, wRg1, wRg2, wExtend, bIs, bIsNot, isNonD, List.set_cons_zero, List.set_cons_succ, List.getElem?_cons_zero, List.getElem?_cons_succ, List.getD_cons_zero, List.getD_cons_succ, List.length_cons, List.length_nil, if_true, if_false, reduceCtorEq, ite_true, ite_false, and_true, true_and, rho0, VL.A.slot, List.map_cons, List.map_nil, List.cons_append, List.nil_append, List.replicate, Nat.add_eq, Nat.reduceAdd, Nat.reduceSub, Bool.false_eq_true, decide_eq_true_eq, Nat.zero_le, Nat.zero_add, lim1, lim2, lim3, lim4, lim5, lim6, lim7, lim8, Bool.not_true, Bool.not_false, decide_true, decide_false]
  refine ⟨y, 1, 1, rfl, by decide, by decide, ?_⟩
  simp (maxSteps := 4000000) only [wSeq, wAsg, wgN, wVar, wCon, wBin, wUn, wCl, wCons, wNil, wConsF, wTup, wLst, wTest, wIf, wFor, wiR1, wiR2, wgName, oB, toF, toN, wRet, wRetN, wNext, wDrop, wMut, fAppend, wPar, nCons, nNil, setAll, sl, wAugI, wAug, bAddI, bSub, bAdd, wAnd, wOr, wNot, wAndV, wOrV, wNotV, wBl, wIfE, wCall, xCons, xNil, xW, Kd.ret, wiF, wiO, seqOf, wgTup, wgCons, wgNil, wAsgT, wSlice, wPSome, wPNone, dSlice, bMul, bMod, bDiv, bPow, cInt, cAbs, cLen, cTuple, cList, cmpD, ozI, ozB, uNeg, wComp, wipeR, restR, wYes, wBreak, wCont, wLstRg, wTupRg, wRg1, wRg2, wExtend, bIs, bIsNot, isNonD, List.set_cons_zero, List.set_cons_succ, List.getElem?_cons_zero, List.getElem?_cons_succ, List.getD_cons_zero, List.getD_cons_succ, List.length_cons, List.length_nil, if_true, if_false, reduceCtorEq, ite_true, ite_false, and_true, true_and, rho0, VL.A.slot, List.map_cons, List.map_nil, List.cons_append, List.nil_append, List.replicate, Nat.add_eq, Nat.reduceAdd, Nat.reduceSub, Bool.false_eq_true, decide_eq_true_eq, Nat.zero_le, Nat.zero_add, lim1, lim2, lim3, lim4, lim5, lim6, lim7, lim8, Bool.not_true, Bool.not_false, decide_true, decide_false, wWhile, day11]
  refine ⟨fun k ρ => ∃ m left : Int, k = (12 - m).toNat ∧ 1 ≤ m ∧ m ≤ 12 ∧ left = day - begI y - cumI y m ∧ 0 ≤ left ∧ ρ = [.fz (.int day), .fz (.int y), .fz (.int m), .fz (.int left)], ⟨_, 1, day - begI y, rfl, by decide, by decide, by rw [cum_one]; omega, by omega, rfl⟩, ?_⟩
  rintro k ρ ⟨m, left, rfl, m1, m2, hl, hl0, rfl⟩
  simp (maxSteps := 4000000) only [wSeq, wAsg, wgN, wVar, wCon, wBin, wUn, wCl, wCons, wNil, wConsF, wTup, wLst, wTest, wIf, wFor, wiR1, wiR2, wgName, oB, toF, toN, wRet, wRetN, wNext, wDrop, wMut, fAppend, wPar, nCons, nNil, setAll, sl, wAugI, wAug, bAddI, bSub, bAdd, wAnd, wOr, wNot, wAndV, wOrV, wNotV, wBl, wIfE, wCall, xCons, xNil, xW, Kd.ret, wiF, wiO, seqOf, wgTup, wgCons, wgNil, wAsgT, wSlice, wPSome, wPNone, dSlice, bMul, bMod, bDiv, bPow, cInt, cAbs, cLen, cTuple, cList, cmpD, ozI, ozB, uNeg, wComp, wipeR, restR, wYes, wBreak, wCont, wLstRg, wTupRg, wRg1, wRg2, wExtend, bIs, bIsNot, isNonD, List.set_cons_zero, List.set_cons_succ, List.getElem?_cons_zero, List.getElem?_cons_succ, List.getD_cons_zero, List.getD_cons_succ, List.length_cons, List.length_nil, if_true, if_false, reduceCtorEq, ite_true, ite_false, and_true, true_and, rho0, VL.A.slot, List.map_cons, List.map_nil, List.cons_append, List.nil_append, List.replicate, Nat.add_eq, Nat.reduceAdd, Nat.reduceSub, Bool.false_eq_true, decide_eq_true_eq, Nat.zero_le, Nat.zero_add, lim1, lim2, lim3, lim4, lim5, lim6, lim7, lim8, Bool.not_true, Bool.not_false, decide_true, decide_false]
  refine ⟨y, m, rfl, m1, m2, ?_⟩
  simp (maxSteps := 4000000) only [wSeq, wAsg, wgN, wVar, wCon, wBin, wUn, wCl, wCons, wNil, wConsF, wTup, wLst, wTest, wIf, wFor, wiR1, wiR2, wgName, oB, toF, toN, wRet, wRetN, wNext, wDrop, wMut, fAppend, wPar, nCons, nNil, setAll, sl, wAugI, wAug, bAddI, bSub, bAdd, wAnd, wOr, wNot, wAndV, wOrV, wNotV, wBl, wIfE, wCall, xCons, xNil, xW, Kd.ret, wiF, wiO, seqOf, wgTup, wgCons, wgNil, wAsgT, wSlice, wPSome, wPNone, dSlice, bMul, bMod, bDiv, bPow, cInt, cAbs, cLen, cTuple, cList, cmpD, ozI, ozB, uNeg, wComp, wipeR, restR, wYes, wBreak, wCont, wLstRg, wTupRg, wRg1, wRg2, wExtend, bIs, bIsNot, isNonD, List.set_cons_zero, List.set_cons_succ, List.getElem?_cons_zero, List.getElem?_cons_succ, List.getD_cons_zero, List.getD_cons_succ, List.length_cons, List.length_nil, if_true, if_false, reduceCtorEq, ite_true, ite_false, and_true, true_and, rho0, VL.A.slot, List.map_cons, List.map_nil, List.cons_append, List.nil_append, List.replicate, Nat.add_eq, Nat.reduceAdd, Nat.reduceSub, Bool.false_eq_true, decide_eq_true_eq, Nat.zero_le, Nat.zero_add, lim1, lim2, lim3, lim4, lim5, lim6, lim7, lim8, Bool.not_true, Bool.not_false, decide_true, decide_false]
  by_cases hm : lenI y m ≤ left
  · simp only [hm, decide_true, if_true]
    have := year_end m1 m2 (by omega) hl hm
    unfold t__law_date_w2
    simp (maxSteps := 4000000) only [wSeq, wAsg, wgN, wVar, wCon, wBin, wUn, wCl, wCons, wNil, wConsF, wTup, wLst, wTest, wIf, wFor, wiR1, wiR2, wgName, oB, toF, toN, wRet, wRetN, wNext, wDrop, wMut, fAppend, wPar, nCons, nNil, setAll, sl, wAugI, wAug, bAddI, bSub, bAdd, wAnd, wOr, wNot, wAndV, wOrV, wNotV, wBl, wIfE, wCall, xCons, xNil, xW, Kd.ret, wiF, wiO, seqOf, wgTup, wgCons, wgNil, wAsgT, wSlice, wPSome, wPNone, dSlice, bMul, bMod, bDiv, bPow, cInt, cAbs, cLen, cTuple, cList, cmpD, ozI, ozB, uNeg, wComp, wipeR, restR, wYes, wBreak, wCont, wLstRg, wTupRg, wRg1, wRg2, wExtend, bIs, bIsNot, isNonD, List.set_cons_zero, List.set_cons_succ, List.getElem?_cons_zero, List.getElem?_cons_succ, List.getD_cons_zero, List.getD_cons_succ, List.length_cons, List.length_nil, if_true, if_false, reduceCtorEq, ite_true, ite_false, and_true, true_and, rho0, VL.A.slot, List.map_cons, List.map_nil, List.cons_append, List.nil_append, List.replicate, Nat.add_eq, Nat.reduceAdd, Nat.reduceSub, Bool.false_eq_true, decide_eq_true_eq, Nat.zero_le, Nat.zero_add, lim1, lim2, lim3, lim4, lim5, lim6, lim7, lim8, Bool.not_true, Bool.not_false, decide_true, decide_false]
    refine ⟨y, m, rfl, m1, m2, ?_⟩
    simp (maxSteps := 4000000) only [wSeq, wAsg, wgN, wVar, wCon, wBin, wUn, wCl, wCons, wNil, wConsF, wTup, wLst, wTest, wIf, wFor, wiR1, wiR2, wgName, oB, toF, toN, wRet, wRetN, wNext, wDrop, wMut, fAppend, wPar, nCons, nNil, setAll, sl, wAugI, wAug, bAddI, bSub, bAdd, wAnd, wOr, wNot, wAndV, wOrV, wNotV, wBl, wIfE, wCall, xCons, xNil, xW, Kd.ret, wiF, wiO, seqOf, wgTup, wgCons, wgNil, wAsgT, wSlice, wPSome, wPNone, dSlice, bMul, bMod, bDiv, bPow, cInt, cAbs, cLen, cTuple, cList, cmpD, ozI, ozB, uNeg, wComp, wipeR, restR, wYes, wBreak, wCont, wLstRg, wTupRg, wRg1, wRg2, wExtend, bIs, bIsNot, isNonD, List.set_cons_zero, List.set_cons_succ, List.getElem?_cons_zero, List.getElem?_cons_succ, List.getD_cons_zero, List.getD_cons_succ, List.length_cons, List.length_nil, if_true, if_false, reduceCtorEq, ite_true, ite_false, and_true, true_and, rho0, VL.A.slot, List.map_cons, List.map_nil, List.cons_append, List.nil_append, List.replicate, Nat.add_eq, Nat.reduceAdd, Nat.reduceSub, Bool.false_eq_true, decide_eq_true_eq, Nat.zero_le, Nat.zero_add, lim1, lim2, lim3, lim4, lim5, lim6, lim7, lim8, Bool.not_true, Bool.not_false, decide_true, decide_false]
    exact ⟨_, by omega, m + 1, left - lenI y m, rfl, by omega, by omega, by rw [cum_succ m1]; omega, by omega, rfl⟩
  · simp only [hm, decide_false, if_false, Bool.false_eq_true]
    unfold t__law_date_s1
    simp (maxSteps := 4000000) only [wSeq, wAsg, wgN, wVar, wCon, wBin, wUn, wCl, wCons, wNil, wConsF, wTup, wLst, wTest, wIf, wFor, wiR1, wiR2, wgName, oB, toF, toN, wRet, wRetN, wNext, wDrop, wMut, fAppend, wPar, nCons, nNil, setAll, sl, wAugI, wAug, bAddI, bSub, bAdd, wAnd, wOr, wNot, wAndV, wOrV, wNotV, wBl, wIfE, wCall, xCons, xNil, xW, Kd.ret, wiF, wiO, seqOf, wgTup, wgCons, wgNil, wAsgT, wSlice, wPSome, wPNone, dSlice, bMul, bMod, bDiv, bPow, cInt, cAbs, cLen, cTuple, cList, cmpD, ozI, ozB, uNeg, wComp, wipeR, restR, wYes, wBreak, wCont, wLstRg, wTupRg, wRg1, wRg2, wExtend, bIs, bIsNot, isNonD, List.set_cons_zero, List.set_cons_succ, List.getElem?_cons_zero, List.getElem?_cons_succ, List.getD_cons_zero, List.getD_cons_succ, List.length_cons, List.length_nil, if_true, if_false, reduceCtorEq, ite_true, ite_false, and_true, true_and, rho0, VL.A.slot, List.map_cons, List.map_nil, List.cons_append, List.nil_append, List.replicate, Nat.add_eq, Nat.reduceAdd, Nat.reduceSub, Bool.false_eq_true, decide_eq_true_eq, Nat.zero_le, Nat.zero_add, lim1, lim2, lim3, lim4, lim5, lim6, lim7, lim8, Bool.not_true, Bool.not_false, decide_true, decide_false]
    exact hq y m (left + 1) ⟨hy, m1, m2, by omega, by omega, by unfold dayI; omega⟩
/-! ### weekdays -/
def sp_weekday : FS := fun as q => ∃ day : Int, as = [.d (.int day)] ∧ q (.int (wdI day)) .fz
theorem p_weekday (as : List VL.A) (q : D → Kd → Prop) (h : sp_weekday as q) : as.length = 1 ∧ t_weekday ⟨fun _ => q .non .fz, q, fun _ => False, fun _ => False⟩ (rho0 1 as) := by
  obtain ⟨day, rfl, hq⟩ := h
  refine ⟨rfl, ?_⟩
  unfold t_weekday d_FIRST
  simp (maxSteps := 4000000) only [wSeq, wAsg, wgN, wVar, wCon, wBin, wUn, wCl, wCons, wNil, wConsF, wTup, wLst, wTest, wIf, wFor, wiR1, wiR2, wgName, oB, toF, toN, wRet, wRetN, wNext, wDrop, wMut, fAppend, wPar, nCons, nNil, setAll, sl, wAugI, wAug, bAddI, bSub, bAdd, wAnd, wOr, wNot, wAndV, wOrV, wNotV, wBl, wIfE, wCall, xCons, xNil, xW, Kd.ret, wiF, wiO, seqOf, wgTup, wgCons, wgNil, wAsgT, wSlice, wPSome, wPNone, dSlice, bMul, bMod, bDiv, bPow, cInt, cAbs, cLen, cTuple, cList, cmpD, ozI, ozB, uNeg, wComp, wipeR, restR, wYes, wBreak, wCont, wLstRg, wTupRg, wRg1, wRg2, wExtend, bIs, bIsNot, isNonD, List.set_cons_zero, List.set_cons_succ, List.getElem?_cons_zero, List.getElem?_cons_succ, List.getD_cons_zero, List.getD_cons_succ, List.length_cons, List.length_nil, if_true, if_false, reduceCtorEq, ite_true, ite_false, and_true, true_and, rho0, VL.A.slot, List.map_cons, List.map_nil, List.cons_append, List.nil_append, List.replicate, Nat.add_eq, Nat.reduceAdd, Nat.reduceSub, Bool.false_eq_true, decide_eq_true_eq, Nat.zero_le, Nat.zero_add, lim1, lim2, lim3, lim4, lim5, lim6, lim7, lim8, Bool.not_true, Bool.not_false, decide_true, decide_false, ne_eq, not_false_eq_true, show ((7 : Int) = 0) = False by simp, fmod_nn (show (0 : Int) ≤ 7 by decide)]
  exact hq
theorem p__law_weekday (as : List VL.A) (q : D → Kd → Prop) (h : sp_weekday as q) : as.length = 1 ∧ t__law_weekday ⟨fun _ => q .non .fz, q, fun _ => False, fun _ => False⟩ (rho0 1 as) := by
  obtain ⟨day, rfl, hq⟩ := h
  refine ⟨rfl, ?_⟩
  unfold t__law_weekday
  simp (maxSteps := 4000000) only [wSeq, wAsg, wgN, wVar, wCon, wBin, wUn, wCl, wCons, wNil, wConsF, wTup, wLst, wTest, wIf, wFor, wiR1, wiR2, wgName, oB, toF, toN, wRet, wRetN, wNext, wDrop, wMut, fAppend, wPar, nCons, nNil, setAll, sl, wAugI, wAug, bAddI, bSub, bAdd, wAnd, wOr, wNot, wAndV, wOrV, wNotV, wBl, wIfE, wCall, xCons, xNil, xW, Kd.ret, wiF, wiO, seqOf, wgTup, wgCons, wgNil, wAsgT, wSlice, wPSome, wPNone, dSlice, bMul, bMod, bDiv, bPow, cInt, cAbs, cLen, cTuple, cList, cmpD, ozI, ozB, uNeg, wComp, wipeR, restR, wYes, wBreak, wCont, wLstRg, wTupRg, wRg1, wRg2, wExtend, bIs, bIsNot, isNonD, List.set_cons_zero, List.set_cons_succ, List.getElem?_cons_zero, List.getElem?_cons_succ, List.getD_cons_zero, List.getD_cons_succ, List.length_cons, List.length_nil, if_true, if_false, reduceCtorEq, ite_true, ite_false, and_true, true_and, rho0, VL.A.slot, List.map_cons, List.map_nil, List.cons_append, List.nil_append, List.replicate, Nat.add_eq, Nat.reduceAdd, Nat.reduceSub, Bool.false_eq_true, decide_eq_true_eq, Nat.zero_le, Nat.zero_add, lim1, lim2, lim3, lim4, lim5, lim6, lim7, lim8, Bool.not_true, Bool.not_false, decide_true, decide_false, ne_eq, not_false_eq_true, show ((7 : Int) = 0) = False by simp, fmod_nn (show (0 : Int) ≤ 7 by decide)]
  exact hq
def sp_next_weekday : FS := fun as q => ∃ day wd : Int, as = [.d (.int day), .d (.int wd)] ∧ q (.int (nwI day wd)) .fz
theorem p_next_weekday (as : List VL.A) (q : D → Kd → Prop) (h : sp_next_weekday as q) : as.length = 2 ∧ t_next_weekday sp_weekday ⟨fun _ => q .non .fz, q, fun _ => False, fun _ => False⟩ (rho0 2 as) := by
  obtain ⟨day, wd, rfl, hq⟩ := h
  refine ⟨rfl, ?_⟩
  unfold t_next_weekday
  simp (maxSteps := 4000000) only [wSeq, wAsg, wgN, wVar, wCon, wBin, wUn, wCl, wCons, wNil, wConsF, wTup, wLst, wTest, wIf, wFor, wiR1, wiR2, wgName, oB, toF, toN, wRet, wRetN, wNext, wDrop, wMut, fAppend, wPar, nCons, nNil, setAll, sl, wAugI, wAug, bAddI, bSub, bAdd, wAnd, wOr, wNot, wAndV, wOrV, wNotV, wBl, wIfE, wCall, xCons, xNil, xW, Kd.ret, wiF, wiO, seqOf, wgTup, wgCons, wgNil, wAsgT, wSlice, wPSome, wPNone, dSlice, bMul, bMod, bDiv, bPow, cInt, cAbs, cLen, cTuple, cList, cmpD, ozI, ozB, uNeg, wComp, wipeR, restR, wYes, wBreak, wCont, wLstRg, wTupRg, wRg1, wRg2, wExtend, bIs, bIsNot, isNonD, List.set_cons_zero, List.set_cons_succ, List.getElem?_cons_zero, List.getElem?_cons_succ, List.getD_cons_zero, List.getD_cons_succ, List.length_cons, List.length_nil, if_true, if_false, reduceCtorEq, ite_true, ite_false, and_true, true_and, rho0, VL.A.slot, List.map_cons, List.map_nil, List.cons_append, List.nil_append, List.replicate, Nat.add_eq, Nat.reduceAdd, Nat.reduceSub, Bool.false_eq_true, decide_eq_true_eq, Nat.zero_le, Nat.zero_add, lim1, lim2, lim3, lim4, lim5, lim6, lim7, lim8, Bool.not_true, Bool.not_false, decide_true, decide_false]
  refine ⟨day, rfl, ?_⟩
  simp (maxSteps := 4000000) only [wSeq, wAsg, wgN, wVar, wCon, wBin, wUn, wCl, wCons, wNil, wConsF, wTup, wLst, wTest, wIf, wFor, wiR1, wiR2, wgName, oB, toF, toN, wRet, wRetN, wNext, wDrop, wMut, fAppend, wPar, nCons, nNil, setAll, sl, wAugI, wAug, bAddI, bSub, bAdd, wAnd, wOr, wNot, wAndV, wOrV, wNotV, wBl, wIfE, wCall, xCons, xNil, xW, Kd.ret, wiF, wiO, seqOf, wgTup, wgCons, wgNil, wAsgT, wSlice, wPSome, wPNone, dSlice, bMul, bMod, bDiv, bPow, cInt, cAbs, cLen, cTuple, cList, cmpD, ozI, ozB, uNeg, wComp, wipeR, restR, wYes, wBreak, wCont, wLstRg, wTupRg, wRg1, wRg2, wExtend, bIs, bIsNot, isNonD, List.set_cons_zero, List.set_cons_succ, List.getElem?_cons_zero, List.getElem?_cons_succ, List.getD_cons_zero, List.getD_cons_succ, List.length_cons, List.length_nil, if_true, if_false, reduceCtorEq, ite_true, ite_false, and_true, true_and, rho0, VL.A.slot, List.map_cons, List.map_nil, List.cons_append, List.nil_append, List.replicate, Nat.add_eq, Nat.reduceAdd, Nat.reduceSub, Bool.false_eq_true, decide_eq_true_eq, Nat.zero_le, Nat.zero_add, lim1, lim2, lim3, lim4, lim5, lim6, lim7, lim8, Bool.not_true, Bool.not_false, decide_true, decide_false, ne_eq, not_false_eq_true, show ((7 : Int) = 0) = False by simp, fmod_nn (show (0 : Int) ≤ 7 by decide)]
  exact hq
def lwI (day w : Int) : Int := day - (wdI day - w - 1) % 7 - 1
def sp_last_weekday : FS := fun as q => ∃ day wd : Int, as = [.d (.int day), .d (.int wd)] ∧ q (if 0 ≤ lwI day wd then .int (lwI day wd) else .non) .fz
theorem p_last_weekday (as : List VL.A) (q : D → Kd → Prop) (h : sp_last_weekday as q) : as.length = 2 ∧ t_last_weekday sp_weekday ⟨fun _ => q .non .fz, q, fun _ => False, fun _ => False⟩ (rho0 3 as) := by
  obtain ⟨day, wd, rfl, hq⟩ := h
  refine ⟨rfl, ?_⟩
  unfold t_last_weekday
  simp (maxSteps := 4000000) only [wSeq, wAsg, wgN, wVar, wCon, wBin, wUn, wCl, wCons, wNil, wConsF, wTup, wLst, wTest, wIf, wFor, wiR1, wiR2, wgName, oB, toF, toN, wRet, wRetN, wNext, wDrop, wMut, fAppend, wPar, nCons, nNil, setAll, sl, wAugI, wAug, bAddI, bSub, bAdd, wAnd, wOr, wNot, wAndV, wOrV, wNotV, wBl, wIfE, wCall, xCons, xNil, xW, Kd.ret, wiF, wiO, seqOf, wgTup, wgCons, wgNil, wAsgT, wSlice, wPSome, wPNone, dSlice, bMul, bMod, bDiv, bPow, cInt, cAbs, cLen, cTuple, cList, cmpD, ozI, ozB, uNeg, wComp, wipeR, restR, wYes, wBreak, wCont, wLstRg, wTupRg, wRg1, wRg2, wExtend, bIs, bIsNot, isNonD, List.set_cons_zero, List.set_cons_succ, List.getElem?_cons_zero, List.getElem?_cons_succ, List.getD_cons_zero, List.getD_cons_succ, List.length_cons, List.length_nil, if_true, if_false, reduceCtorEq, ite_true, ite_false, and_true, true_and, rho0, VL.A.slot, List.map_cons, List.map_nil, List.cons_append, List.nil_append, List.replicate, Nat.add_eq, Nat.reduceAdd, Nat.reduceSub, Bool.false_eq_true, decide_eq_true_eq, Nat.zero_le, Nat.zero_add, lim1, lim2, lim3, lim4, lim5, lim6, lim7, lim8, Bool.not_true, Bool.not_false, decide_true, decide_false]
  refine ⟨day, rfl, ?_⟩
  simp (maxSteps := 4000000) only [wSeq, wAsg, wgN, wVar, wCon, wBin, wUn, wCl, wCons, wNil, wConsF, wTup, wLst, wTest, wIf, wFor, wiR1, wiR2, wgName, oB, toF, toN, wRet, wRetN, wNext, wDrop, wMut, fAppend, wPar, nCons, nNil, setAll, sl, wAugI, wAug, bAddI, bSub, bAdd, wAnd, wOr, wNot, wAndV, wOrV, wNotV, wBl, wIfE, wCall, xCons, xNil, xW, Kd.ret, wiF, wiO, seqOf, wgTup, wgCons, wgNil, wAsgT, wSlice, wPSome, wPNone, dSlice, bMul, bMod, bDiv, bPow, cInt, cAbs, cLen, cTuple, cList, cmpD, ozI, ozB, uNeg, wComp, wipeR, restR, wYes, wBreak, wCont, wLstRg, wTupRg, wRg1, wRg2, wExtend, bIs, bIsNot, isNonD, List.set_cons_zero, List.set_cons_succ, List.getElem?_cons_zero, List.getElem?_cons_succ, List.getD_cons_zero, List.getD_cons_succ, List.length_cons, List.length_nil, if_true, if_false, reduceCtorEq, ite_true, ite_false, and_true, true_and, rho0, VL.A.slot, List.map_cons, List.map_nil, List.cons_append, List.nil_append, List.replicate, Nat.add_eq, Nat.reduceAdd, Nat.reduceSub, Bool.false_eq_true, decide_eq_true_eq, Nat.zero_le, Nat.zero_add, lim1, lim2, lim3, lim4, lim5, lim6, lim7, lim8, Bool.not_true, Bool.not_false, decide_true, decide_false, ne_eq, not_false_eq_true, show ((7 : Int) = 0) = False by simp, fmod_nn (show (0 : Int) ≤ 7 by decide)]
  unfold lwI at hq
  by_cases h0 : 0 ≤ day - (wdI day - wd - 1) % 7 - 1
  · rw [if_pos h0] at hq
    simp only [h0, decide_true, if_true]
    exact hq
  · rw [if_neg h0] at hq
    simp only [h0, decide_false, if_false, Bool.false_eq_true]
    exact hq
def fWd (w : Int) : Int → Option D := fun own => if wdI own = w then some (.int own) else none
theorem next_list {day w : Int} (h0 : 0 ≤ w) (h1 : w ≤ 6) : (ir (day + 1) 7).filterMap (fWd w) = [.int (nwI day w)] := by
  obtain ⟨k, hk, hw⟩ : ∃ k : Int, k = (w - wdI day - 1) % 7 ∧ 0 ≤ k ∧ k ≤ 6 := ⟨_, rfl, by omega, by omega⟩
  have hn : nwI day w = day + k + 1 := by unfold nwI; rw [hk]
  have f : ∀ i : Int, 0 ≤ i → i ≤ 6 → (wdI (day + 1 + i) = w ↔ i = k) := fun i a b => by
    have hr : wdI day = (day + 4) % 7 := rfl
    rw [hr] at hk
    unfold wdI
    clear hn hr
    constructor <;> intro z <;> omega
  have fd : ∀ i : Int, 0 ≤ i → i ≤ 6 → fWd w (day + 1 + i) = if i = k then some (.int (day + 1 + i)) else none := fun i a b => by
    unfold fWd
    by_cases z : i = k
    · rw [if_pos z, if_pos ((f i a b).mpr z)]
    · rw [if_neg z, if_neg fun y => z ((f i a b).mp y)]
  have e : ir (day + 1) 7 = [day + 1 + 0, day + 1 + 1, day + 1 + 2, day + 1 + 3, day + 1 + 4, day + 1 + 5, day + 1 + 6] := by
    unfold ir ir ir ir ir ir ir ir
    simp only [Int.add_assoc, Int.add_zero]
    rfl
  rw [e, hn]
  simp only [List.filterMap_cons, List.filterMap_nil, fd 0 (by decide) (by decide), fd 1 (by decide) (by decide), fd 2 (by decide) (by decide), fd 3 (by decide) (by decide), fd 4 (by decide) (by decide), fd 5 (by decide) (by decide), fd 6 (by decide) (by decide)]
  have : k = 0 ∨ k = 1 ∨ k = 2 ∨ k = 3 ∨ k = 4 ∨ k = 5 ∨ k = 6 := by omega
  rcases this with rfl | rfl | rfl | rfl | rfl | rfl | rfl <;> simp <;> omega
def sp__law_next_day : FS := fun as q => ∃ day wd : Int, as = [.d (.int day), .d (.int wd)] ∧ 0 ≤ wd ∧ wd ≤ 6 ∧ -1000000000 ≤ day ∧ day ≤ 1000000000 ∧ q (.int (nwI day wd)) .fz
theorem p__law_next_day (as : List VL.A) (q : D → Kd → Prop) (h : sp__law_next_day as q) : as.length = 2 ∧ t__law_next_day sp_weekday ⟨fun _ => q .non .fz, q, fun _ => False, fun _ => False⟩ (rho0 3 as) := by
  obtain ⟨day, wd, rfl, h0, h1, h2, h3, hq⟩ := h
  refine ⟨rfl, ?_⟩
  unfold t__law_next_day
  simp (maxSteps := 4000000) only [wSeq, wAsg, wgN, wVar, wCon, wBin, wUn, wCl, wCons, wNil, wConsF, wTup, wLst, wTest, wIf, wFor, wiR1, wiR2, wgName, oB, toF, toN, wRet, wRetN, wNext, wDrop, wMut, fAppend, wPar, nCons, nNil, setAll, sl, wAugI, wAug, bAddI, bSub, bAdd, wAnd, wOr, wNot, wAndV, wOrV, wNotV, wBl, wIfE, wCall, xCons, xNil, xW, Kd.ret, wiF, wiO, seqOf, wgTup, wgCons, wgNil, wAsgT, wSlice, wPSome, wPNone, dSlice, bMul, bMod, bDiv, bPow, cInt, cAbs, cLen, cTuple, cList, cmpD, ozI, ozB, uNeg, wComp, wipeR, restR, wYes, wBreak, wCont, wLstRg, wTupRg, wRg1, wRg2, wExtend, bIs, bIsNot, isNonD, List.set_cons_zero, List.set_cons_succ, List.getElem?_cons_zero, List.getElem?_cons_succ, List.getD_cons_zero, List.getD_cons_succ, List.length_cons, List.length_nil, if_true, if_false, reduceCtorEq, ite_true, ite_false, and_true, true_and, rho0, VL.A.slot, List.map_cons, List.map_nil, List.cons_append, List.nil_append, List.replicate, Nat.add_eq, Nat.reduceAdd, Nat.reduceSub, Bool.false_eq_true, decide_eq_true_eq, Nat.zero_le, Nat.zero_add, lim1, lim2, lim3, lim4, lim5, lim6, lim7, lim8, Bool.not_true, Bool.not_false, decide_true, decide_false]
  refine ⟨by unfold i62; omega, by unfold i62; omega, ?_⟩
  rw [show (day + 8 - (day + 1)).toNat = 7 by omega, rng_ir]
  refine comp_mp D.int (fWd wd) _ (by rw [ir_len]; unfold LIM; decide) (fun i hi K hK => ?_) ?_
  · unfold t__law_next_day_i1
    simp (maxSteps := 4000000) only [wSeq, wAsg, wgN, wVar, wCon, wBin, wUn, wCl, wCons, wNil, wConsF, wTup, wLst, wTest, wIf, wFor, wiR1, wiR2, wgName, oB, toF, toN, wRet, wRetN, wNext, wDrop, wMut, fAppend, wPar, nCons, nNil, setAll, sl, wAugI, wAug, bAddI, bSub, bAdd, wAnd, wOr, wNot, wAndV, wOrV, wNotV, wBl, wIfE, wCall, xCons, xNil, xW, Kd.ret, wiF, wiO, seqOf, wgTup, wgCons, wgNil, wAsgT, wSlice, wPSome, wPNone, dSlice, bMul, bMod, bDiv, bPow, cInt, cAbs, cLen, cTuple, cList, cmpD, ozI, ozB, uNeg, wComp, wipeR, restR, wYes, wBreak, wCont, wLstRg, wTupRg, wRg1, wRg2, wExtend, bIs, bIsNot, isNonD, List.set_cons_zero, List.set_cons_succ, List.getElem?_cons_zero, List.getElem?_cons_succ, List.getD_cons_zero, List.getD_cons_succ, List.length_cons, List.length_nil, if_true, if_false, reduceCtorEq, ite_true, ite_false, and_true, true_and, rho0, VL.A.slot, List.map_cons, List.map_nil, List.cons_append, List.nil_append, List.replicate, Nat.add_eq, Nat.reduceAdd, Nat.reduceSub, Bool.false_eq_true, decide_eq_true_eq, Nat.zero_le, Nat.zero_add, lim1, lim2, lim3, lim4, lim5, lim6, lim7, lim8, Bool.not_true, Bool.not_false, decide_true, decide_false]
    refine ⟨i, rfl, ?_⟩
    unfold fWd at hK
    simp (maxSteps := 4000000) only [wSeq, wAsg, wgN, wVar, wCon, wBin, wUn, wCl, wCons, wNil, wConsF, wTup, wLst, wTest, wIf, wFor, wiR1, wiR2, wgName, oB, toF, toN, wRet, wRetN, wNext, wDrop, wMut, fAppend, wPar, nCons, nNil, setAll, sl, wAugI, wAug, bAddI, bSub, bAdd, wAnd, wOr, wNot, wAndV, wOrV, wNotV, wBl, wIfE, wCall, xCons, xNil, xW, Kd.ret, wiF, wiO, seqOf, wgTup, wgCons, wgNil, wAsgT, wSlice, wPSome, wPNone, dSlice, bMul, bMod, bDiv, bPow, cInt, cAbs, cLen, cTuple, cList, cmpD, ozI, ozB, uNeg, wComp, wipeR, restR, wYes, wBreak, wCont, wLstRg, wTupRg, wRg1, wRg2, wExtend, bIs, bIsNot, isNonD, List.set_cons_zero, List.set_cons_succ, List.getElem?_cons_zero, List.getElem?_cons_succ, List.getD_cons_zero, List.getD_cons_succ, List.length_cons, List.length_nil, if_true, if_false, reduceCtorEq, ite_true, ite_false, and_true, true_and, rho0, VL.A.slot, List.map_cons, List.map_nil, List.cons_append, List.nil_append, List.replicate, Nat.add_eq, Nat.reduceAdd, Nat.reduceSub, Bool.false_eq_true, decide_eq_true_eq, Nat.zero_le, Nat.zero_add, lim1, lim2, lim3, lim4, lim5, lim6, lim7, lim8, Bool.not_true, Bool.not_false, decide_true, decide_false, bEq_ints]
    by_cases hw : wdI i = wd
    · rw [if_pos hw] at hK
      simp only [hw, decide_true, if_true]
      exact hK
    · rw [if_neg hw] at hK
      simp only [hw, decide_false, if_false, Bool.false_eq_true]
      exact hK
  · rw [next_list h0 h1]
    simp (maxSteps := 4000000) only [wSeq, wAsg, wgN, wVar, wCon, wBin, wUn, wCl, wCons, wNil, wConsF, wTup, wLst, wTest, wIf, wFor, wiR1, wiR2, wgName, oB, toF, toN, wRet, wRetN, wNext, wDrop, wMut, fAppend, wPar, nCons, nNil, setAll, sl, wAugI, wAug, bAddI, bSub, bAdd, wAnd, wOr, wNot, wAndV, wOrV, wNotV, wBl, wIfE, wCall, xCons, xNil, xW, Kd.ret, wiF, wiO, seqOf, wgTup, wgCons, wgNil, wAsgT, wSlice, wPSome, wPNone, dSlice, bMul, bMod, bDiv, bPow, cInt, cAbs, cLen, cTuple, cList, cmpD, ozI, ozB, uNeg, wComp, wipeR, restR, wYes, wBreak, wCont, wLstRg, wTupRg, wRg1, wRg2, wExtend, bIs, bIsNot, isNonD, List.set_cons_zero, List.set_cons_succ, List.getElem?_cons_zero, List.getElem?_cons_succ, List.getD_cons_zero, List.getD_cons_succ, List.length_cons, List.length_nil, if_true, if_false, reduceCtorEq, ite_true, ite_false, and_true, true_and, rho0, VL.A.slot, List.map_cons, List.map_nil, List.cons_append, List.nil_append, List.replicate, Nat.add_eq, Nat.reduceAdd, Nat.reduceSub, Bool.false_eq_true, decide_eq_true_eq, Nat.zero_le, Nat.zero_add, lim1, lim2, lim3, lim4, lim5, lim6, lim7, lim8, Bool.not_true, Bool.not_false, decide_true, decide_false, show bSubs (.lst [.int (nwI day wd)]) (.int 0) = some (.int (nwI day wd), .fz) from rfl]
    exact hq
end VD

namespace VD
open PySem PySem.Spec PyProof.Rows L2 VL
open Evl (Ex)
theorem same_go {a : D} {q : D → Kd → Prop} (h1 : sg a = true) (h2 : okE 15 a = true) (h3 : szD a ≤ 5000) (h : q (.bl true) .fz) : spSame [.d a, .d a] q :=
  ⟨a, a, rfl, ⟨h1, h2⟩, ⟨h1, h2⟩, h3, fun c hc => by rw [hc.mpr rfl]; exact h⟩
theorem date_go {day y m d : Int} {q : D → Kd → Prop} (h0 : 0 ≤ day) (hd : IsDate day y m d) (h : q (dD y m d) .fz) : spDate [.d (.int day)] q :=
  ⟨day, rfl, h0, fun y' m' d' h' => by
    obtain ⟨rfl, rfl, rfl⟩ := date_uniq hd h'
    exact h⟩
theorem cum_le {y m : Int} (h1 : 1 ≤ m) (h2 : m ≤ 12) : 0 ≤ cumI y m ∧ cumI y m ≤ 335 := by
  have a := cum_mono (y := y) h1 h2
  have b := cum_12 y
  have c := cum_nn (y := y) (m := m)
  refine ⟨c, ?_⟩
  split at b <;> omega
theorem day_nn {y m d : Int} (h0 : 0 ≤ y) (h1 : 1 ≤ m) (h2 : m ≤ 12) (h3 : 1 ≤ d) : 0 ≤ dayI y m d := by
  have := cum_le (y := y) h1 h2
  have := beg_le y h0
  unfold dayI; omega
theorem day_le {y m d n : Int} (h0 : 0 ≤ y) (hy : y ≤ n) (h1 : 1 ≤ m) (h2 : m ≤ 12) (h3 : d ≤ 31) : dayI y m d ≤ 366 * n + 367 := by
  have := cum_le (y := y) h1 h2
  have : begI y ≤ 366 * y + 1 := by unfold begI; omega
  unfold dayI; omega
theorem date_year {day y m d : Int} (h : IsDate day y m d) : 0 ≤ day ∧ y ≤ day := by
  obtain ⟨a, b, c, e, f, g⟩ := h
  have h1 := cum_le (y := y) b c
  have h2 := beg_le y a
  unfold dayI at g
  omega
/-- the day behind -/
theorem date_later {day y m d : Int} (h : IsDate day y m d) : (d < lenI y m → IsDate (day + 1) y m (d + 1)) ∧ (¬ d < lenI y m → m < 12 → IsDate (day + 1) y (m + 1) 1) ∧ (¬ d < lenI y m → ¬ m < 12 → IsDate (day + 1) (y + 1) 1 1) := by
  obtain ⟨a, b, c, e, f, g⟩ := h
  unfold dayI at g
  refine ⟨fun h1 => ⟨a, b, c, by omega, by omega, by unfold dayI; omega⟩, fun h1 h2 => ⟨a, by omega, by omega, by omega, by have := (len_pos y (m + 1)).1; omega, ?_⟩, fun h1 h2 => ⟨by omega, by omega, by omega, by omega, by have := (len_pos (y + 1) 1).1; omega, ?_⟩⟩
  · unfold dayI
    rw [cum_succ b]; omega
  · have hm : m = 12 := by omega
    subst hm
    have := beg_succ y
    have e12 : lenI y 12 = 31 := rfl
    unfold dayI
    rw [cum_one]; omega
/-- weekdays in at most seven days -/
theorem wd_list {lo w : Int} (h0 : 0 ≤ w) (h1 : w ≤ 6) (n : Nat) (hn : n ≤ 7) : (ir lo n).filterMap (fWd w) = if nwI (lo - 1) w < lo + n then [.int (nwI (lo - 1) w)] else [] := by
  have key := next_list (day := lo - 1) h0 h1
  rw [show lo - 1 + 1 = lo by omega] at key
  have hf : lo ≤ nwI (lo - 1) w ∧ nwI (lo - 1) w ≤ lo + 6 := by unfold nwI; omega
  have sp : ∀ (a b : Nat) (l : Int), ir l (a + b) = ir l a ++ ir (l + a) b := fun a => by
    induction a with
    | zero => intro b l; simp [ir]
    | succ a ih =>
      intro b l
      rw [show a + 1 + b = (a + b) + 1 by omega, show ir l (a + b + 1) = l :: ir (l + 1) (a + b) from rfl, ih, show ir l (a + 1) = l :: ir (l + 1) a from rfl, List.cons_append, show l + 1 + (a : Int) = l + ((a + 1 : Nat) : Int) by omega]
  have mem : ∀ (l : Int) (a : Nat) (x : Int), (ir l a).filterMap (fWd w) = [.int x] → l ≤ x ∧ x < l + a := fun l a x hx => by
    have : D.int x ∈ (ir l a).filterMap (fWd w) := by rw [hx]; simp
    obtain ⟨o, ho, e⟩ := List.mem_filterMap.mp this
    unfold fWd at e
    split at e
    · cases e
      exact ir_mem.mp ho
    · cases e
  have e7 := sp n (7 - n) lo
  rw [show n + (7 - n) = 7 by omega] at e7
  rw [e7, List.filterMap_append] at key
  rcases List.append_eq_singleton_iff.mp key with ⟨a, b⟩ | ⟨a, b⟩
  · have := mem _ _ _ b
    rw [a, if_neg (by omega)]
  · have := mem _ _ _ a
    rw [a, if_pos (by omega)]
theorem ahead_list {begin w : Int} (hb : 0 ≤ begin) (h0 : 0 ≤ w) (h1 : w ≤ 6) : (ir (max 0 (begin - 7)) (begin - max 0 (begin - 7)).toNat).filterMap (fWd w) = if 0 ≤ lwI begin w then [.int (lwI begin w)] else [] := by
  rw [wd_list h0 h1 _ (by omega)]
  by_cases h7 : 7 ≤ begin
  · have hm : max 0 (begin - 7) = begin - 7 := by omega
    have e : nwI (begin - 7 - 1) w = lwI begin w := by unfold nwI lwI wdI; omega
    have hb : lwI begin w < begin ∧ begin - 7 ≤ lwI begin w := by unfold lwI; omega
    rw [hm, e, if_pos (by omega), if_pos (by omega)]
  · have hm : max 0 (begin - 7) = 0 := by omega
    rw [hm]
    by_cases hl : 0 ≤ lwI begin w
    · have e : nwI (0 - 1) w = lwI begin w := by unfold nwI lwI wdI at *; omega
      have hb : lwI begin w < begin := by unfold lwI; omega
      rw [e, if_pos (by omega), if_pos hl]
    · have e : ¬ nwI (0 - 1) w < 0 + ((begin - 0).toNat : Int) := by unfold nwI lwI wdI at *; omega
      rw [if_neg e, if_neg hl]
end VD

namespace VD
open PySem PySem.Spec PyProof.Rows L2 VL
open Evl (Ex)
/-! ### steps by unfolding alone -/
theorem days_go {y m : Int} {q : D → Kd → Prop} (h1 : 1 ≤ m) (h2 : m ≤ 12) (h : q (.int (lenI y m)) .fz) : sp_days_in [.d (.int y), .d (.int m)] q := ⟨y, m, rfl, h1, h2, h⟩
theorem long_go {y m : Int} {q : D → Kd → Prop} (h1 : 1 ≤ m) (h2 : m ≤ 12) (h : q (.int (lenI y m)) .fz) : sp__law_long [.d (.int y), .d (.int m)] q := ⟨y, m, rfl, h1, h2, h⟩
theorem lday_go {y m d : Int} {q : D → Kd → Prop} (h1 : 1 ≤ m) (h2 : m ≤ 12) (h : q (.int (dayI y m d)) .fz) : sp__law_day [.d (.int y), .d (.int m), .d (.int d)] q := ⟨y, m, d, rfl, h1, h2, h⟩
theorem day_go {y m d : Int} {q : D → Kd → Prop} (h1 : 1 ≤ m) (h2 : m ≤ 12) (h : q (.int (dayI y m d)) .fz) : sp_day_of [.d (.tup [.int y, .int m, .int d])] q := ⟨y, m, d, rfl, h1, h2, h⟩
theorem wd_go {day : Int} {q : D → Kd → Prop} (h : q (.int (wdI day)) .fz) : sp_weekday [.d (.int day)] q := ⟨day, rfl, h⟩
theorem pick_go {xs : List D} {q : D → Kd → Prop} (h1 : xs ≠ []) (h2 : xs.length ≤ 1000) (h : ∀ x ∈ xs, q x .fz) : spPick [.w, .d (.lst xs)] q := ⟨xs, rfl, h1, h2, h⟩
theorem date_all {day : Int} {q : D → Kd → Prop} (h0 : 0 ≤ day) (h : ∀ y m d, IsDate day y m d → q (.tup [.int y, .int m, .int d]) .fz) : spDate [.d (.int day)] q := ⟨day, rfl, h0, h⟩
theorem date_go' {day y m d : Int} {q : D → Kd → Prop} (h0 : 0 ≤ day) (hd : IsDate day y m d) (h : q (.tup [.int y, .int m, .int d]) .fz) : spDate [.d (.int day)] q := date_go h0 hd h
theorem ite_go {p : Prop} [Decidable p] {A B : Prop} (h1 : p → A) (h2 : ¬ p → B) : if decide p = true then A else B := by
  by_cases h : p
  · rw [if_pos (decide_eq_true h)]; exact h1 h
  · rw [if_neg (by simp [h])]; exact h2 h
theorem oB_go {o : Oz} {z : D} {k : Kd} {Q : D → Kd → Prop} (e : o = some (z, k)) (h : Q z k) : oB o Q := by rw [e]; exact h
end VD

/-! VK6: data of a size, the same data on both sides (gathered out of k08's texts); a dict that is put into. -/
namespace VD
open PySem PySem.Spec PyProof.Rows L2 VL
def Gz (n : Nat) (d : D) (z : Nat) : Prop := sg d = true ∧ okE n d = true ∧ szD d ≤ z
theorem gz_int {n : Nat} {i : Int} : Gz n (.int i) 1 := ⟨rfl, by simp [okE], by simp [szD]⟩
theorem gz_non {n : Nat} : Gz n .non 1 := ⟨rfl, by simp [okE], by simp [szD]⟩
theorem gz_bl {n : Nat} {b : Bool} : Gz n (.bl b) 1 := ⟨rfl, by simp [okE], by simp [szD]⟩
theorem gz_up {n : Nat} {d : D} {z z' : Nat} (h : Gz n d z) (hz : z ≤ z') : Gz n d z' := ⟨h.1, h.2.1, Nat.le_trans h.2.2 hz⟩
theorem gz_tup {n : Nat} {xs : List D} {z : Nat} (h : ∀ x ∈ xs, Gz n x z) {z' : Nat} (hz : xs.length * z + 1 ≤ z') : Gz (n + 1) (.tup xs) z' := by
  refine ⟨?_, ?_, ?_⟩
  · show sgs xs = true
    exact sgs_all.mpr fun x hx => (h x hx).1
  · rw [okE_tup]; exact okEs_all.mpr fun x hx => (h x hx).2.1
  · have : ∀ xs : List D, (∀ x ∈ xs, szD x ≤ z) → szs xs ≤ xs.length * z := fun xs => by
      induction xs with
      | nil => intro _; simp [szs]
      | cons x xs ih =>
        intro hx
        have a := hx x (by simp)
        have b := ih fun y hy => hx y (by simp [hy])
        simp only [szs, List.length_cons, Nat.succ_mul]
        omega
    have := this xs fun x hx => (h x hx).2.2
    show szs xs + 1 ≤ z'
    omega
theorem gz_t2 {n z z' : Nat} {a b : D} (ha : Gz n a z) (hb : Gz n b z) (hz : 2 * z + 1 ≤ z') : Gz (n + 1) (.tup [a, b]) z' := gz_tup (z := z) (fun x hx => by
  simp only [List.mem_cons, List.not_mem_nil, or_false] at hx
  rcases hx with rfl | rfl <;> assumption) (by simpa using hz)
theorem same_go' {a : D} {q : D → Kd → Prop} (h : Gz 15 a 5000) (hq : q (.bl true) .fz) : spSame [.d a, .d a] q := ⟨a, a, rfl, ⟨h.1, h.2.1⟩, ⟨h.1, h.2.1⟩, h.2.2, fun c hc => by
  have := hc.mpr rfl
  subst this
  exact hq⟩
theorem gz_str {n : Nat} {s : Str} (h : s.cps.all (· < 0x110000) = true) : Gz n (.str s) 1 := ⟨h, by cases n <;> simpa [okE] using h, by simp [szD]⟩
section
variable {ρ ρ' : Rho} {t u : WE} {k k' : Kd} {a : D} {r s : WS} {P : PEnds}
theorem sq_same (ht : Ev t ρ a k) (hu : Ev u ρ a k') (h : Gz 15 a 5000) (q : r P ρ) (hk : k.ok = true := by rfl) (hk' : k'.ok = true := by rfl) : wSeq (wIf (wNot (wTest (wCall spSame (xCons t (xCons u xNil))))) s wNext) r P ρ :=
  sq_skip (et_not (b := true) (et_test (ev_call (k := .fz) (ex_cons ht (ex_cons hu ex_nil hk') hk) fun q h' => same_go' h h'))) q
theorem go_same (ht : Ev t ρ a k) (hu : Ev u ρ a k') (h : Gz 15 a 5000) (q : P.nx ρ) (hk : k.ok = true := by rfl) (hk' : k'.ok = true := by rfl) : wIf (wNot (wTest (wCall spSame (xCons t (xCons u xNil))))) s wNext P ρ :=
  go_skip (et_not (b := true) (et_test (ev_call (k := .fz) (ex_cons ht (ex_cons hu ex_nil hk') hk) fun q h' => same_go' h h'))) q
theorem sq_sameO (ht : Ev t ρ a k) (hu : ∀ Q : D → Kd → Rho → Prop, Q a .fz ρ' → u ρ Q) (h : Gz 15 a 5000) (q : r P ρ') (hk : k.ok = true := by rfl) : wSeq (wIf (wNot (wTest (wCall spSame (xCons t (xCons u xNil))))) s wNext) r P ρ := by
  refine ht _ (toF_ok hk (hu _ ?_))
  rw [toF_fz]
  simp only [xNil]
  exact same_go' h q
end
theorem val_put (es : List (Key × D)) (k : Key) (v : D) (k' : Key) : valD (putD es k v) k' = if k = k' then some v else valD es k' := by
  cases h : valD es k with
  | none => exact valD_new h k'
  | some d =>
    have ha : (es.any fun kv => decide (kv.1 = k)) = true := by
      unfold valD at h
      cases hf : es.find? (fun kv => decide (kv.1 = k)) with
      | none => rw [hf] at h; cases h
      | some p =>
        exact List.any_eq_true.mpr ⟨p, List.mem_of_find?_eq_some hf, List.find?_some (p := fun kv : Key × D => decide (kv.1 = k)) hf⟩
    unfold putD
    rw [if_pos ha]
    unfold valD
    rw [List.find?_map]
    have e1 : ((fun kv : Key × D => decide (kv.1 = k')) ∘ fun kv : Key × D => if kv.1 = k then (kv.1, v) else kv) = fun kv => decide (kv.1 = k') := by
      funext kv
      show decide ((if kv.1 = k then (kv.1, v) else kv).1 = k') = _
      split <;> rfl
    rw [e1]
    by_cases c : k = k'
    · subst c
      rw [if_pos rfl]
      unfold valD at h
      cases hf : es.find? (fun kv => decide (kv.1 = k)) with
      | none => rw [hf] at h; cases h
      | some p =>
        have := List.find?_some (p := fun kv : Key × D => decide (kv.1 = k)) hf
        simp only [decide_eq_true_eq] at this
        simp [this]
    · rw [if_neg c]
      cases hf : es.find? (fun kv => decide (kv.1 = k')) with
      | none => rfl
      | some p =>
        have := List.find?_some (p := fun kv : Key × D => decide (kv.1 = k')) hf
        simp only [decide_eq_true_eq] at this
        have hne : p.1 ≠ k := fun e => c (e.symm.trans this)
        simp [hne]
/-- for .. in range(a draw) -/
theorem go_forD {g : WG} {tb : WS} {P : PEnds} {ρ : Rho} {i : Nat} {m : Int} (hw : ρ[i]? = some .w) (hm : 0 < m) (hm2 : m ≤ 1000000) (h : ∀ xs : List D, xs.length < m.toNat → wLoop g tb P xs ρ) : wFor (wiR1 (wCons (wCall spNext (xW i (xCons (wCon (.int m)) xNil))) wNil)) g tb P ρ := by
  simp only [wFor, wiR1_e, wCons, wNil]
  refine (dm_next hw ev_con hm : Dm (wCall spNext (xW i (xCons (wCon (.int m)) xNil))) ρ _) _ fun d ⟨r, e, r0, r1⟩ => ?_
  subst e
  refine ⟨by unfold i62; omega, h _ ?_⟩
  rw [rng_ir, List.length_map, ir_len]
  omega
/-- a slot that owns its data or that has it frozen -/
theorem own_or {ρ : Rho} {i : Nat} {d : D} {Q : D → Rho → Prop} (ho : ρ[i]? = some (.ow d)) (h : Q d (ρ.set i (.fz d))) : wVar i ρ (toF Q) := by
  rw [wVar_e, ho]
  exact h
end VD

namespace K22
open PySem PySem.Spec PyProof.Rows L2 VL
def topS (i : Nat) : Stmt := PySem.Challenge.pw_chartertold_k22_sums_of_three_coins.main.body.getD i (.Pass ⟨0, 0, 0, 0⟩)
abbrev s_is_number : Stmt := topS 5
theorem sc_is_number : FnScope ["thing"] ["thing"] (defScope s_is_number) := ⟨rfl, rfl, rfl, by decide +kernel, rfl, by decide +kernel, by decide +kernel⟩
abbrev s_is_tuple_of : Stmt := topS 6
theorem sc_is_tuple_of : FnScope ["thing", "many"] ["thing", "many"] (defScope s_is_tuple_of) := ⟨rfl, rfl, rfl, by decide +kernel, rfl, by decide +kernel, by decide +kernel⟩
abbrev s_is_sum : Stmt := topS 9
theorem sc_is_sum : FnScope ["thing", "one"] ["thing"] (defScope s_is_sum) := ⟨rfl, rfl, rfl, by decide +kernel, rfl, by decide +kernel, by decide +kernel⟩
abbrev s_pence_of : Stmt := topS 10
theorem sc_pence_of : FnScope ["coins"] ["coins"] (defScope s_pence_of) := ⟨rfl, rfl, rfl, by decide +kernel, rfl, by decide +kernel, by decide +kernel⟩
abbrev s_sum_of : Stmt := topS 11
theorem sc_sum_of : FnScope ["pence"] ["pence"] (defScope s_sum_of) := ⟨rfl, rfl, rfl, by decide +kernel, rfl, by decide +kernel, by decide +kernel⟩
abbrev s_added : Stmt := topS 12
theorem sc_added : FnScope ["sums", "coins"] ["sums"] (defScope s_added) := ⟨rfl, rfl, rfl, by decide +kernel, rfl, by decide +kernel, by decide +kernel⟩
abbrev s_times_sum : Stmt := topS 13
theorem sc_times_sum : FnScope ["coins", "many"] ["coins", "many"] (defScope s_times_sum) := ⟨rfl, rfl, rfl, by decide +kernel, rfl, by decide +kernel, by decide +kernel⟩
abbrev s_parted : Stmt := topS 14
theorem sc_parted : FnScope ["coins", "many", "pence"] ["coins", "many"] (defScope s_parted) := ⟨rfl, rfl, rfl, by decide +kernel, rfl, by decide +kernel, by decide +kernel⟩
abbrev s_print_sum : Stmt := topS 15
theorem sc_print_sum : FnScope ["coins", "parts", "k"] ["coins"] (defScope s_print_sum) := ⟨rfl, rfl, rfl, by decide +kernel, rfl, by decide +kernel, by decide +kernel⟩
abbrev s_part_of : Stmt := topS 16
theorem sc_part_of : FnScope ["text", "many", "sign", "digits", "word"] ["text"] (defScope s_part_of) := ⟨rfl, rfl, rfl, by decide +kernel, rfl, by decide +kernel, by decide +kernel⟩
abbrev s_parse_sum : Stmt := topS 17
theorem sc_parse_sum : FnScope ["text", "found", "place", "last", "piece", "part"] ["text"] (defScope s_parse_sum) := ⟨rfl, rfl, rfl, by decide +kernel, rfl, by decide +kernel, by decide +kernel⟩
abbrev s__law_draws : Stmt := topS 19
theorem sc__law_draws : FnScope ["script", "many", "draws", "mixed", "k", "cell", "rest", "turn"] ["script", "many"] (defScope s__law_draws) := ⟨rfl, rfl, rfl, by decide +kernel, rfl, by decide +kernel, by decide +kernel⟩
abbrev s__law_next : Stmt := topS 20
theorem sc__law_next : FnScope ["w", "many"] ["w", "many"] (defScope s__law_next) := ⟨rfl, rfl, rfl, by decide +kernel, rfl, by decide +kernel, by decide +kernel⟩
abbrev s__law_plain : Stmt := topS 21
theorem sc__law_plain : FnScope ["pence", "pounds", "shillings"] ["pence"] (defScope s__law_plain) := ⟨rfl, rfl, rfl, by decide +kernel, rfl, by decide +kernel, by decide +kernel⟩
abbrev s__law_text : Stmt := topS 22
theorem sc__law_text : FnScope ["coins", "found", "k"] ["coins"] (defScope s__law_text) := ⟨rfl, rfl, rfl, by decide +kernel, rfl, by decide +kernel, by decide +kernel⟩
abbrev s__law_read : Stmt := topS 23
theorem sc__law_read : FnScope ["text", "found", "place", "words", "piece", "digits", "word", "k", "many"] ["text"] (defScope s__law_read) := ⟨rfl, rfl, rfl, by decide +kernel, rfl, by decide +kernel, by decide +kernel⟩
abbrev s_law : Stmt := topS 24
theorem sc_law : FnScope ["script", "w", "turn", "rows", "k", "coins", "pence", "plain", "many", "whole", "one", "each", "rest", "is_small", "thing", "due", "small", "text", "at", "bent", "told", "wrong"] ["script"] (defScope s_law) := ⟨rfl, rfl, rfl, by decide +kernel, rfl, by decide +kernel, by decide +kernel⟩
abbrev s_init : Stmt := (clsBody (topS 2)).getD 0 (.Pass ⟨0, 0, 0, 0⟩)
theorem sc_init : FnScope ["self", "place"] ["self", "place"] (defScope s_init) := ⟨rfl, rfl, rfl, by decide +kernel, rfl, by decide +kernel, by decide +kernel⟩
theorem ok_init {P : Program} {w : World} {K : PySem.W.Frag} {mg : Str → Option Value} {base : Heap} {C fI B : Addr} {fdI : FuncData} (F : Fun K "__init__" "BadText.__init__" s_init fI fdI) (T : OexC K C) (no : PySem.W.findIn K (.ref C) "place" = some none) (BE : BaseE K mg "CharterError" B) : FnOk P w K mg base CX0 1 fI fdI ["self", "place"] (spInit false C "place") := by
  refine F.ok sc_init (fun vs H Q E h => by obtain ⟨a, v, rfl, _⟩ := h; rfl) fun cdv A outer s H vs Q E hr h => ⟨_, pss_cons (ps_expr (pe_clsinit rfl BE.g BE.ty BE.rd BE.ga BE.vV (pa_cons (pv 0) (pa_cons (pe_str) pa_nil)))) (pss_one (ps_ost (pv 0) (pv 1))), ?_⟩
  exact init_con T no h
def d_WORDS : D := .ft [.str "li", .str "s", .str "d"]
def d_DIGITS : D := .str "0123456789"
section
variable {P : Program} {w : World} {K : PySem.W.Frag} {mg : Str → Option Value} {base : Heap}
def t_is_number : WS :=
  (wRet (wAndV (wIs "int" (wVar 0)) (wNotV (wIs "bool" (wVar 0)))))
theorem ok_is_number {sp : FS} {D_is_number : Df K mg "is_number" ["thing"] s_is_number} (m_isinstance : mg "isinstance" = none) (m_bool : mg "bool" = none) (m_int : mg "int" = none)
    (hs : ∀ as q, sp as q → as.length = 1 ∧ t_is_number ⟨fun _ => q .non .fz, q, fun _ => False, fun _ => False⟩ (rho0 1 as)) : OkF P w base D_is_number 1 sp := by
  refine fn_ok _ D_is_number.F sc_is_number (fun cdv A outer s H E hr => ?_) hs
  have sc := sc_is_number
  have d : SB (cxOf CX0 P w K mg base ["thing"] "is_number" (defScope s_is_number) D_is_number.f cdv A outer s H E).nox (defBody s_is_number) _ _ :=
    (b_one (s_ret (e_andV (c_isi "int" (e_var 0) m_isinstance m_int) (e_one (e_notV (c_isi "bool" (e_var 0) m_isinstance m_bool))))))
  exact ⟨_, d.ps, d.snd⟩
def t_is_tuple_of : WS :=
  (wRet (wAndV (wIs "tuple" (wVar 0)) (wBin bEq (wCl cLen (wCons (wVar 0) wNil)) (wVar 1))))
theorem ok_is_tuple_of {sp : FS} {D_is_tuple_of : Df K mg "is_tuple_of" ["thing", "many"] s_is_tuple_of} (m_len : mg "len" = none) (m_isinstance : mg "isinstance" = none) (m_tuple : mg "tuple" = none)
    (hs : ∀ as q, sp as q → as.length = 2 ∧ t_is_tuple_of ⟨fun _ => q .non .fz, q, fun _ => False, fun _ => False⟩ (rho0 2 as)) : OkF P w base D_is_tuple_of 1 sp := by
  refine fn_ok _ D_is_tuple_of.F sc_is_tuple_of (fun cdv A outer s H E hr => ?_) hs
  have sc := sc_is_tuple_of
  have d : SB (cxOf CX0 P w K mg base ["thing", "many"] "is_tuple_of" (defScope s_is_tuple_of) D_is_tuple_of.f cdv A outer s H E).nox (defBody s_is_tuple_of) _ _ :=
    (b_one (s_ret (e_andV (c_isi "tuple" (e_var 0) m_isinstance m_tuple) (e_one (e_eq hr (c_len m_len (o_cons (e_var 0) o_nil)) (e_var 1))))))
  exact ⟨_, d.ps, d.snd⟩
def t_is_sum_c1 (sp_is_number : FS) : WE :=
  (wAndV (wCall sp_is_number (xCons (wVar 1) xNil)) (wBin bGeD (wVar 1) (wCon (.int 0))))
def t_is_sum_s1 : WS :=
  (wRet (wAndV (wBin bLtD (wBin bSubs (wVar 0) (wCon (.int 1))) (wCon (.int 20))) (wBin bLtD (wBin bSubs (wVar 0) (wCon (.int 2))) (wCon (.int 12)))))
def t_is_sum (sp_is_number : FS) (sp_is_tuple_of : FS) : WS :=
  (wSeq (wIf (wOr (wNot (wTest (wCall sp_is_tuple_of (xCons (wVar 0) (xCons (wCon (.int 3)) xNil))))) (wNot (wTest (wCl cAll (wCons (wComp (wiO (wVar 0)) (wgName 1) wYes (t_is_sum_c1 sp_is_number) [1]) wNil))))) (wRet (wCon (.bl false))) wNext)
  t_is_sum_s1)
theorem ok_is_sum {sp : FS} {D_is_sum : Df K mg "is_sum" ["thing"] s_is_sum} {sp_is_number : FS} {D_is_number : Df K mg "is_number" ["thing"] s_is_number} (F_is_number : OkF P w base D_is_number 1 sp_is_number) {sp_is_tuple_of : FS} {D_is_tuple_of : Df K mg "is_tuple_of" ["thing", "many"] s_is_tuple_of} (F_is_tuple_of : OkF P w base D_is_tuple_of 1 sp_is_tuple_of) (m_all : mg "all" = none)
    (hs : ∀ as q, sp as q → as.length = 1 ∧ t_is_sum sp_is_number sp_is_tuple_of ⟨fun _ => q .non .fz, q, fun _ => False, fun _ => False⟩ (rho0 2 as)) : OkF P w base D_is_sum 2 sp := by
  refine fn_ok _ D_is_sum.F sc_is_sum (fun cdv A outer s H E hr => ?_) hs
  have sc := sc_is_sum
  have d : SB (cxOf CX0 P w K mg base ["thing", "one"] "is_sum" (defScope s_is_sum) D_is_sum.f cdv A outer s H E).nox (defBody s_is_sum) _ _ :=
    (b_cons (s_if (t_pw (t_or (t_not (t_val (e_call F_is_tuple_of (hr.mono (by first | exact Nat.le_refl _ | decide | omega)) (x_cons (e_var 0) (x_cons e_int x_nil))))) (t_or1 (t_not (t_val (c_all m_all (o_cons (e_comp [("one", 1)] sc.nd (io_seq (e_var 0)) (blkOk_by (N := ["thing", "one"]) (sc := defScope s_is_sum) (by decide +kernel)) (fun _ _ _ _ _ => (g_name 1 sc.nd)) (tgIn_name (by decide)) (fun _ _ _ _ _ => ts_nil) (fun _ _ _ _ _ => (e_andV (e_call F_is_number (hr.mono (by first | exact Nat.le_refl _ | decide | omega)) (x_cons (e_var 1) x_nil)) (e_one (e_ge hr (e_var 1) e_int))))) o_nil))))))) (b_one (s_ret e_bl)) b_nil)
    (b_one (s_ret (e_andV (e_lt hr (e_subs hr (e_var 0) e_int) e_int) (e_one (e_lt hr (e_subs hr (e_var 0) e_int) e_int))))))
  exact ⟨_, d.ps, d.snd⟩
def t_pence_of : WS :=
  (wRet (wBin bAdd (wBin bMul (wBin bAdd (wBin bMul (wBin bSubs (wVar 0) (wCon (.int 0))) (wCon (.int 20))) (wBin bSubs (wVar 0) (wCon (.int 1)))) (wCon (.int 12))) (wBin bSubs (wVar 0) (wCon (.int 2)))))
theorem ok_pence_of {sp : FS} {D_pence_of : Df K mg "pence_of" ["coins"] s_pence_of}
    (hs : ∀ as q, sp as q → as.length = 1 ∧ t_pence_of ⟨fun _ => q .non .fz, q, fun _ => False, fun _ => False⟩ (rho0 1 as)) : OkF P w base D_pence_of 1 sp := by
  refine fn_ok _ D_pence_of.F sc_pence_of (fun cdv A outer s H E hr => ?_) hs
  have sc := sc_pence_of
  have d : SB (cxOf CX0 P w K mg base ["coins"] "pence_of" (defScope s_pence_of) D_pence_of.f cdv A outer s H E).nox (defBody s_pence_of) _ _ :=
    (b_one (s_ret (e_add (e_mul (e_add (e_mul (e_subs hr (e_var 0) e_int) e_int) (e_subs hr (e_var 0) e_int)) e_int) (e_subs hr (e_var 0) e_int))))
  exact ⟨_, d.ps, d.snd⟩
def t_sum_of : WS :=
  (wRet (wTup (wConsF (wBin bDiv (wVar 0) (wCon (.int 240))) (wConsF (wBin bMod (wBin bDiv (wVar 0) (wCon (.int 12))) (wCon (.int 20))) (wConsF (wBin bMod (wVar 0) (wCon (.int 12))) wNil)))))
theorem ok_sum_of {sp : FS} {D_sum_of : Df K mg "sum_of" ["pence"] s_sum_of}
    (hs : ∀ as q, sp as q → as.length = 1 ∧ t_sum_of ⟨fun _ => q .non .fz, q, fun _ => False, fun _ => False⟩ (rho0 1 as)) : OkF P w base D_sum_of 1 sp := by
  refine fn_ok _ D_sum_of.F sc_sum_of (fun cdv A outer s H E hr => ?_) hs
  have sc := sc_sum_of
  have d : SB (cxOf CX0 P w K mg base ["pence"] "sum_of" (defScope s_sum_of) D_sum_of.f cdv A outer s H E).nox (defBody s_sum_of) _ _ :=
    (b_one (s_ret (e_tup (a_cons (e_div (e_var 0) e_int) (a_cons (e_mod (e_div (e_var 0) e_int) e_int) (a_cons (e_mod (e_var 0) e_int) a_nil))))))
  exact ⟨_, d.ps, d.snd⟩
def t_added_c1 (sp_pence_of : FS) : WE :=
  (wCall sp_pence_of (xCons (wVar 1) xNil))
def t_added (sp_sum_of : FS) (sp_pence_of : FS) : WS :=
  (wRet (wCall sp_sum_of (xCons (wCl cSum (wCons (wComp (wiO (wVar 0)) (wgName 1) wYes (t_added_c1 sp_pence_of) [1]) wNil)) xNil)))
theorem ok_added {sp : FS} {D_added : Df K mg "added" ["sums"] s_added} {sp_sum_of : FS} {D_sum_of : Df K mg "sum_of" ["pence"] s_sum_of} (F_sum_of : OkF P w base D_sum_of 1 sp_sum_of) {sp_pence_of : FS} {D_pence_of : Df K mg "pence_of" ["coins"] s_pence_of} (F_pence_of : OkF P w base D_pence_of 1 sp_pence_of) (m_sum : mg "sum" = none)
    (hs : ∀ as q, sp as q → as.length = 1 ∧ t_added sp_sum_of sp_pence_of ⟨fun _ => q .non .fz, q, fun _ => False, fun _ => False⟩ (rho0 2 as)) : OkF P w base D_added 2 sp := by
  refine fn_ok _ D_added.F sc_added (fun cdv A outer s H E hr => ?_) hs
  have sc := sc_added
  have d : SB (cxOf CX0 P w K mg base ["sums", "coins"] "added" (defScope s_added) D_added.f cdv A outer s H E).nox (defBody s_added) _ _ :=
    (b_one (s_ret (e_call F_sum_of (hr.mono (by first | exact Nat.le_refl _ | decide | omega)) (x_cons (c_sum m_sum (o_cons (e_comp [("coins", 1)] sc.nd (io_seq (e_var 0)) (blkOk_by (N := ["sums", "coins"]) (sc := defScope s_added) (by decide +kernel)) (fun _ _ _ _ _ => (g_name 1 sc.nd)) (tgIn_name (by decide)) (fun _ _ _ _ _ => ts_nil) (fun _ _ _ _ _ => (e_call F_pence_of (hr.mono (by first | exact Nat.le_refl _ | decide | omega)) (x_cons (e_var 1) x_nil)))) o_nil)) x_nil))))
  exact ⟨_, d.ps, d.snd⟩
def t_times_sum (sp_sum_of : FS) (sp_pence_of : FS) : WS :=
  (wRet (wCall sp_sum_of (xCons (wBin bMul (wCall sp_pence_of (xCons (wVar 0) xNil)) (wVar 1)) xNil)))
theorem ok_times_sum {sp : FS} {D_times_sum : Df K mg "times_sum" ["coins", "many"] s_times_sum} {sp_sum_of : FS} {D_sum_of : Df K mg "sum_of" ["pence"] s_sum_of} (F_sum_of : OkF P w base D_sum_of 1 sp_sum_of) {sp_pence_of : FS} {D_pence_of : Df K mg "pence_of" ["coins"] s_pence_of} (F_pence_of : OkF P w base D_pence_of 1 sp_pence_of)
    (hs : ∀ as q, sp as q → as.length = 2 ∧ t_times_sum sp_sum_of sp_pence_of ⟨fun _ => q .non .fz, q, fun _ => False, fun _ => False⟩ (rho0 2 as)) : OkF P w base D_times_sum 2 sp := by
  refine fn_ok _ D_times_sum.F sc_times_sum (fun cdv A outer s H E hr => ?_) hs
  have sc := sc_times_sum
  have d : SB (cxOf CX0 P w K mg base ["coins", "many"] "times_sum" (defScope s_times_sum) D_times_sum.f cdv A outer s H E).nox (defBody s_times_sum) _ _ :=
    (b_one (s_ret (e_call F_sum_of (hr.mono (by first | exact Nat.le_refl _ | decide | omega)) (x_cons (e_mul (e_call F_pence_of (hr.mono (by first | exact Nat.le_refl _ | decide | omega)) (x_cons (e_var 0) x_nil)) (e_var 1)) x_nil))))
  exact ⟨_, d.ps, d.snd⟩
def t_parted (sp_pence_of : FS) (sp_sum_of : FS) : WS :=
  (wSeq (wAsg 2 (wCall sp_pence_of (xCons (wVar 0) xNil)))
  (wRet (wTup (wConsF (wCall sp_sum_of (xCons (wBin bDiv (wVar 2) (wVar 1)) xNil)) (wConsF (wCall sp_sum_of (xCons (wBin bMod (wVar 2) (wVar 1)) xNil)) wNil)))))
theorem ok_parted {sp : FS} {D_parted : Df K mg "parted" ["coins", "many"] s_parted} {sp_pence_of : FS} {D_pence_of : Df K mg "pence_of" ["coins"] s_pence_of} (F_pence_of : OkF P w base D_pence_of 1 sp_pence_of) {sp_sum_of : FS} {D_sum_of : Df K mg "sum_of" ["pence"] s_sum_of} (F_sum_of : OkF P w base D_sum_of 1 sp_sum_of)
    (hs : ∀ as q, sp as q → as.length = 2 ∧ t_parted sp_pence_of sp_sum_of ⟨fun _ => q .non .fz, q, fun _ => False, fun _ => False⟩ (rho0 3 as)) : OkF P w base D_parted 2 sp := by
  refine fn_ok _ D_parted.F sc_parted (fun cdv A outer s H E hr => ?_) hs
  have sc := sc_parted
  have d : SB (cxOf CX0 P w K mg base ["coins", "many", "pence"] "parted" (defScope s_parted) D_parted.f cdv A outer s H E).nox (defBody s_parted) _ _ :=
    (b_cons (s_asg 2 sc.nd (e_call F_pence_of (hr.mono (by first | exact Nat.le_refl _ | decide | omega)) (x_cons (e_var 0) x_nil)))
    (b_one (s_ret (e_tup (a_cons (e_call F_sum_of (hr.mono (by first | exact Nat.le_refl _ | decide | omega)) (x_cons (e_div (e_var 2) (e_var 1)) x_nil)) (a_cons (e_call F_sum_of (hr.mono (by first | exact Nat.le_refl _ | decide | omega)) (x_cons (e_mod (e_var 2) (e_var 1)) x_nil)) a_nil))))))
  exact ⟨_, d.ps, d.snd⟩
def t_print_sum_i1 : WT :=
  (wTest (wBin bGtD (wBin bSubs (wVar 0) (wVar 2)) (wCon (.int 0))))
def t_print_sum_c1 : WE :=
  (wBin bAdd (wCl cStr (wCons (wBin bSubs (wVar 0) (wVar 2)) wNil)) (wBin bSubs (wCon d_WORDS) (wVar 2)))
def t_print_sum : WS :=
  (wSeq (wAsg 1 (wComp (wiR1 (wCons (wCon (.int 3)) wNil)) (wgName 2) t_print_sum_i1 t_print_sum_c1 [2]))
  (wRet (wIfE (wTest (wBin bNe (wVar 1) (wLst wNil))) (wJoin (wCon (.str " ")) (wVar 1)) (wCon (.str "0d")))))
theorem ok_print_sum {sp : FS} {D_print_sum : Df K mg "print_sum" ["coins"] s_print_sum} (m_range : mg "range" = none) (m_str : mg "str" = none) (g_WORDS : GlobOk K mg "WORDS" d_WORDS)
    (hs : ∀ as q, sp as q → as.length = 1 ∧ t_print_sum ⟨fun _ => q .non .fz, q, fun _ => False, fun _ => False⟩ (rho0 3 as)) : OkF P w base D_print_sum 1 sp := by
  refine fn_ok _ D_print_sum.F sc_print_sum (fun cdv A outer s H E hr => ?_) hs
  have sc := sc_print_sum
  have d : SB (cxOf CX0 P w K mg base ["coins", "parts", "k"] "print_sum" (defScope s_print_sum) D_print_sum.f cdv A outer s H E).nox (defBody s_print_sum) _ _ :=
    (b_cons (s_comp (j := 1) [("k", 2)] sc.nd (io_r1 m_range (o_cons e_int o_nil)) (blkOk_by (N := ["coins", "parts", "k"]) (sc := defScope s_print_sum) (by decide +kernel)) (fun _ _ _ _ _ => (g_name 2 sc.nd)) (tgIn_name (by decide)) (fun _ _ _ _ _ => (ts_one (t_gt hr (e_subs hr (e_var 0) (e_var 2)) e_int))) (fun _ _ _ _ _ => (e_add (c_str m_str (o_cons (e_subs hr (e_var 0) (e_var 2)) o_nil)) (e_subs hr (e_gc g_WORDS) (e_var 2)))))
    (b_one (s_ret (e_ifE (t_ne hr (e_var 1) (e_lst a_nil)) (e_join e_str (e_var 1)) e_str))))
  exact ⟨_, d.ps, d.snd⟩
def t_part_of_i1 : WT :=
  (wTest (wBin bIn (wVar 2) (wCon d_DIGITS)))
def t_part_of_s1 : WS :=
  (wRet (wTup (wConsF (wCl cIntT (wCons (wVar 3) wNil)) (wConsF (wGIx ["li", "s", "d"] (wVar 4)) wNil))))
def t_part_of : WS :=
  (wSeq (wAsg 1 (wCl cLen (wCons (wComp (wiSO (wVar 0)) (wgName 2) t_part_of_i1 (wVar 2) [2]) wNil)))
  (wSeq (wPar [3, 4] (nCons (wSlice (wVar 0) wPNone (wPSome (wVar 1))) (nCons (wSlice (wVar 0) (wPSome (wVar 1)) wPNone) nNil)))
  (wSeq (wIf (wOr (wTest (wBin bNotIn (wVar 4) (wCon d_WORDS))) (wOr (wTest (wBin bEq (wVar 3) (wCon (.str "")))) (wTest (wBin bEq (wBin bSubs (wVar 3) (wCon (.int 0))) (wCon (.str "0")))))) (wRet (wCon .non)) wNext)
  t_part_of_s1)))
theorem ok_part_of {sp : FS} {D_part_of : Df K mg "part_of" ["text"] s_part_of} (m_len : mg "len" = none) (m_int : mg "int" = none) (g_DIGITS : GlobOk K mg "DIGITS" d_DIGITS) (g_WORDS : GlobOk K mg "WORDS" d_WORDS) (gt_WORDS : GlobTx K mg "WORDS" ["li", "s", "d"])
    (hs : ∀ as q, sp as q → as.length = 1 ∧ t_part_of ⟨fun _ => q .non .fz, q, fun _ => False, fun _ => False⟩ (rho0 5 as)) : OkF P w base D_part_of 1 sp := by
  refine fn_ok _ D_part_of.F sc_part_of (fun cdv A outer s H E hr => ?_) hs
  have sc := sc_part_of
  have d : SB (cxOf CX0 P w K mg base ["text", "many", "sign", "digits", "word"] "part_of" (defScope s_part_of) D_part_of.f cdv A outer s H E).nox (defBody s_part_of) _ _ :=
    (b_cons (s_asg 1 sc.nd (c_len m_len (o_cons (e_comp [("sign", 2)] sc.nd (io_str (e_var 0)) (blkOk_by (N := ["text", "many", "sign", "digits", "word"]) (sc := defScope s_part_of) (by decide +kernel)) (fun _ _ _ _ _ => (g_name 2 sc.nd)) (tgIn_name (by decide)) (fun _ _ _ _ _ => (ts_one (t_in hr (e_var 2) (e_gc g_DIGITS)))) (fun _ _ _ _ _ => (e_var 2))) o_nil)))
    (b_cons (s_par2 3 4 sc.nd (n_cons (e_slice (e_var 0) q_none (q_some (e_var 1))) (n_cons (e_slice (e_var 0) (q_some (e_var 1)) q_none) n_nil)))
    (b_cons (s_if (t_pw (t_or (t_notin hr (e_var 4) (e_gc g_WORDS)) (t_or (t_eq hr (e_var 3) e_str) (t_or1 (t_eq hr (e_subs hr (e_var 3) e_int) e_str))))) (b_one (s_ret e_non)) b_nil)
    (b_one (s_ret (e_tup (a_cons (c_intT m_int (o_cons (e_var 3) o_nil)) (a_cons (e_gix gt_WORDS (e_var 4)) a_nil))))))))
  exact ⟨_, d.ps, d.snd⟩
def t_parse_sum (sp_part_of : FS) : WRS := fun x =>
  (wSeq (wIf (wTest (wBin bEq (wVar 0) (wCon (.str "0d")))) (wRet (wTup (wConsF (wCon (.int 0)) (wConsF (wCon (.int 0)) (wConsF (wCon (.int 0)) wNil))))) wNext)
  (wSeq (wPar [1, 2, 3] (nCons (wLst (wConsF (wCon (.int 0)) (wConsF (wCon (.int 0)) (wConsF (wCon (.int 0)) wNil)))) (nCons (wCon (.int 0)) (nCons (wUn uNeg (wCon (.int 1))) nNil))))
  (wSeq (wFor (wiF (wSplit (wVar 0) (wCon (.str " ")))) (wgName 4) (wSeq (wAsg 5 (wCall sp_part_of (xCons (wVar 4) xNil)))
  (wSeq (wIf (wOr (wTest (wBin bIs (wVar 5) (wCon .non))) (wOr (wTest (wBin bLeD (wBin bSubs (wVar 5) (wCon (.int 1))) (wVar 3))) (wAnd (wTest (wBin bGtD (wBin bSubs (wVar 5) (wCon (.int 1))) (wCon (.int 0)))) (wTest (wBin bGeD (wBin bSubs (wVar 5) (wCon (.int 0))) (wIfE (wTest (wBin bEq (wBin bSubs (wVar 5) (wCon (.int 1))) (wCon (.int 1)))) (wCon (.int 20)) (wCon (.int 12)))))))) (wRaise false (wVar 2) x) wNext)
  (wSeq (wAsgS 2 (gsPut 1 (wBin bSubs (wVar 5) (wCon (.int 1))) (gsName 3 gsNil)) (wTup (wConsF (wBin bSubs (wVar 5) (wCon (.int 0))) (wConsF (wBin bSubs (wVar 5) (wCon (.int 1))) wNil))))
  (wAugI 2 (wBin bAdd (wCl cLen (wCons (wVar 4) wNil)) (wCon (.int 1))))))))
  (wRet (wCl cTuple (wCons (wVar 1) wNil))))))
theorem ok_parse_sum {sp : FSX} {D_parse_sum : Df K mg "parse_sum" ["text"] s_parse_sum} {C fI : Addr} (O : OwnE K mg "BadText" "place" C fI) {fdI : FuncData} {psI : List Str} (FI : FnOk P w K mg base CX0 1 fI fdI psI (spInit false C "place")) (bI : Binds K fdI psI []) {sp_part_of : FS} {D_part_of : Df K mg "part_of" ["text"] s_part_of} (F_part_of : OkF P w base D_part_of 1 sp_part_of) (m_len : mg "len" = none) (m_tuple : mg "tuple" = none)
    (hs : ∀ as q x, sp as q x → as.length = 1 ∧ t_parse_sum sp_part_of (fun a _ => x a) ⟨fun _ => q .non .fz, q, fun _ => False, fun _ => False⟩ (rho0 6 as)) : OkX P w base D_parse_sum 3 C "place" sp := by
  refine fn_okX _ D_parse_sum.F sc_parse_sum (fun cdv A outer s H E hr => ?_) hs
  have sc := sc_parse_sum
  have tk : Takes (cxOf (L2.CX P w) P w K mg base ["text", "found", "place", "last", "piece", "part"] "parse_sum" (defScope s_parse_sum) D_parse_sum.f cdv A outer s H E) (fun cls d _ H => E cls d H) := takes_of rfl rfl rfl rfl
  have d : SBQ (cxOf (L2.CX P w) P w K mg base ["text", "found", "place", "last", "piece", "part"] "parse_sum" (defScope s_parse_sum) D_parse_sum.f cdv A outer s H E) C "place" (fun cls d _ H => E cls d H) (defBody s_parse_sum) _ _ :=
    (qb_cons (q_of (s_if (t_eq hr (e_var 0) e_str) (b_one (s_ret (e_tup (a_cons e_int (a_cons e_int (a_cons e_int a_nil)))))) b_nil))
    (qb_cons (q_of (s_par3 1 2 3 sc.nd (n_cons (e_lst (a_cons e_int (a_cons e_int (a_cons e_int a_nil)))) (n_cons e_int (n_cons (e_neg e_int) n_nil)))))
    (qb_cons (q_for (if_seq (e_split (e_var 0) e_str)) (g_name 4 sc.nd) (qb_cons (q_of (s_asg 5 sc.nd (e_call F_part_of (hr.mono (by first | exact Nat.le_refl _ | decide | omega)) (x_cons (e_var 4) x_nil))))
    (qb_cons (q_if (t_pw (t_or (t_is (e_var 5) e_non) (t_or (t_le hr (e_subs hr (e_var 5) e_int) (e_var 3)) (t_or1 (t_pw (t_and (t_gt hr (e_subs hr (e_var 5) e_int) e_int) (t_and1 (t_ge hr (e_subs hr (e_var 5) e_int) (e_ifE (t_eq hr (e_subs hr (e_var 5) e_int) e_int) e_int e_int))))))))) (qb_one (q_raise rfl tk O FI bI (hr.mono (by first | exact Nat.le_refl _ | decide | omega)) (e_var 2))) (qb_of b_nil))
    (qb_cons (q_of (s_asgS (n := 2) (e_tup (a_cons (e_subs hr (e_var 5) e_int) (a_cons (e_subs hr (e_var 5) e_int) a_nil))) (gs_put 1 (e_subs hr (e_var 5) e_int) (gs_name 3 sc.nd gs_nil))))
    (qb_one (q_of (s_augA 2 sc.nd (e_add (c_len m_len (o_cons (e_var 4) o_nil)) e_int))))))))
    (qb_one (q_of (s_ret (c_tuple m_tuple (o_cons (e_var 1) o_nil))))))))
  exact ⟨_, d.ps, d.snd⟩
def t__law_draws_f1 : WS :=
  (wIf (wTest (wBin bGtD (wVar 6) (wCon (.int 0)))) (wSeq (wMut 2 (wBin bMod (wCl cInt (wCons (wVar 6) wNil)) (wCon (.int 997))) fAppend)
  (wAsg 6 (wBin bDiv (wVar 6) (wCon (.int 997))))) wNext)
def t__law_draws_s1 : WS :=
  (wFor (wiR1 (wCons (wCon (.int 60)) wNil)) (wgName 7) t__law_draws_f1)
def t__law_draws_f2 : WS :=
  (wSeq (wAsg 5 (wCl cAbs (wCons (wCl cInt (wCons (wBin bSubs (wVar 0) (wVar 4)) wNil)) wNil)))
  (wSeq (wAsg 3 (wBin bMod (wCl cInt (wCons (wBin bAdd (wBin bAdd (wBin bMul (wVar 3) (wCon (.int 48271))) (wBin bMod (wVar 5) (wCon (.int 1000003)))) (wVar 4)) wNil)) (wCon (.int 65537))))
  (wSeq (wAsg 6 (wCon (.int 0)))
  (wSeq (wIf (wTest (wBin bGeD (wVar 5) (wBin bPow (wCon (.int 10)) (wCon (.int 18))))) (wAsg 6 (wVar 5)) (wSeq (wMut 2 (wBin bMod (wCl cInt (wCons (wVar 5) wNil)) (wCon (.int 997))) fAppend)
  (wMut 2 (wBin bMod (wBin bMod (wCl cInt (wCons (wBin bAdd (wBin bMul (wVar 3) (wCon (.int 69621))) (wCon (.int 5))) wNil)) (wCon (.int 65521))) (wCon (.int 997))) fAppend)))
  t__law_draws_s1))))
def t__law_draws_f3 : WS :=
  (wSeq (wAsg 3 (wBin bMod (wCl cInt (wCons (wBin bAdd (wBin bAdd (wBin bMul (wVar 3) (wCon (.int 16807))) (wVar 4)) (wCon (.int 1))) wNil)) (wCon (.int 65537))))
  (wMut 2 (wBin bMod (wCl cInt (wCons (wVar 3) wNil)) (wCon (.int 997))) fAppend))
def t__law_draws_s2 : WS :=
  (wRet (wSlice (wVar 2) wPNone (wPSome (wVar 1))))
def t__law_draws_s3 : WS :=
  (wSeq (wFor (wiR1 (wCons (wVar 1) wNil)) (wgName 4) t__law_draws_f3)
  t__law_draws_s2)
def t__law_draws : WS :=
  (wSeq (wAsg 2 (wLst wNil))
  (wSeq (wAsg 3 (wCon (.int 7)))
  (wSeq (wFor (wiR1 (wCons (wCl cLen (wCons (wVar 0) wNil)) wNil)) (wgName 4) t__law_draws_f2)
  t__law_draws_s3)))
theorem ok__law_draws {sp : FS} {D__law_draws : Df K mg "_law_draws" ["script", "many"] s__law_draws} (m_range : mg "range" = none) (m_len : mg "len" = none) (m_abs : mg "abs" = none) (m_int : mg "int" = none)
    (hs : ∀ as q, sp as q → as.length = 2 ∧ t__law_draws ⟨fun _ => q .non .fz, q, fun _ => False, fun _ => False⟩ (rho0 8 as)) : OkF P w base D__law_draws 1 sp := by
  refine fn_ok _ D__law_draws.F sc__law_draws (fun cdv A outer s H E hr => ?_) hs
  have sc := sc__law_draws
  have d : SB (cxOf CX0 P w K mg base ["script", "many", "draws", "mixed", "k", "cell", "rest", "turn"] "_law_draws" (defScope s__law_draws) D__law_draws.f cdv A outer s H E).nox (defBody s__law_draws) _ _ :=
    (b_cons (s_asg 2 sc.nd (e_lst a_nil))
    (b_cons (s_asg 3 sc.nd e_int)
    (b_cons (s_for (if_r1 m_range (o_cons (c_len m_len (o_cons (e_var 0) o_nil)) o_nil)) (g_name 4 sc.nd) (b_cons (s_asg 5 sc.nd (c_abs m_abs (o_cons (c_int m_int (o_cons (e_subs hr (e_var 0) (e_var 4)) o_nil)) o_nil)))
    (b_cons (s_asg 3 sc.nd (e_mod (c_int m_int (o_cons (e_add (e_add (e_mul (e_var 3) e_int) (e_mod (e_var 5) e_int)) (e_var 4)) o_nil)) e_int))
    (b_cons (s_asg 6 sc.nd e_int)
    (b_cons (s_if (t_ge hr (e_var 5) (e_pow e_int e_int)) (b_one (s_asg 6 sc.nd (e_var 5))) (b_cons (s_append 2 (e_mod (c_int m_int (o_cons (e_var 5) o_nil)) e_int))
    (b_one (s_append 2 (e_mod (e_mod (c_int m_int (o_cons (e_add (e_mul (e_var 3) e_int) e_int) o_nil)) e_int) e_int)))))
    (b_one (s_for (if_r1 m_range (o_cons e_int o_nil)) (g_name 7 sc.nd) (b_one (s_if (t_gt hr (e_var 6) e_int) (b_cons (s_append 2 (e_mod (c_int m_int (o_cons (e_var 6) o_nil)) e_int))
    (b_one (s_asg 6 sc.nd (e_div (e_var 6) e_int)))) b_nil)))))))))
    (b_cons (s_for (if_r1 m_range (o_cons (e_var 1) o_nil)) (g_name 4 sc.nd) (b_cons (s_asg 3 sc.nd (e_mod (c_int m_int (o_cons (e_add (e_add (e_mul (e_var 3) e_int) (e_var 4)) e_int) o_nil)) e_int))
    (b_one (s_append 2 (e_mod (c_int m_int (o_cons (e_var 3) o_nil)) e_int)))))
    (b_one (s_ret (e_slice (e_var 2) q_none (q_some (e_var 1)))))))))
  exact ⟨_, d.ps, d.snd⟩
theorem ok__law_next {D__law_next : Df K mg "_law_next" ["w", "many"] s__law_next} (m_len : mg "len" = none) (m_int : mg "int" = none) : OkF P w base D__law_next 1 spNext := by
  refine next_ok D__law_next.F sc__law_next fun cdv A outer s H E hr => ?_
  exact pss_cons (ps_daug (u1 hr) (pv 0) pe_str pe_int in_add (by intros; rfl))
    (pss_cons (ps_if (pt_cmpR op_gt (pe_dget (u1 hr) (pv 0) pe_str (by intro _ _; rfl)) (pe_callB cr_lenD (by rfl) m_len PySem.boot_len (pa_cons (pe_dget (u1 hr) (pv 0) pe_str (by intro _ _; rfl)) pa_nil)) (nomark _)) (pss_one (ps_ret pe_int)) pss_nil)
    (pss_one (ps_ret (pe_op op_modN (pe_callTy call_int1 (by rfl) m_int (by decide +kernel) (pa_cons (pe_ix ix_seq (pe_dget (u1 hr) (pv 0) pe_str (by intro _ _; rfl)) (pe_op op_sub (pe_dget (u1 hr) (pv 0) pe_str (by intro _ _; rfl)) pe_int) (by intro _ _; rfl)) pa_nil)) (pv 1)))))
def t__law_plain_w1 : WS :=
  (wPar [1, 0] (nCons (wBin bAdd (wVar 1) (wCon (.int 1))) (nCons (wBin bSub (wVar 0) (wCon (.int 240))) nNil)))
def t__law_plain_w2 : WS :=
  (wPar [2, 0] (nCons (wBin bAdd (wVar 2) (wCon (.int 1))) (nCons (wBin bSub (wVar 0) (wCon (.int 12))) nNil)))
def t__law_plain_s1 : WS :=
  (wRet (wTup (wConsF (wVar 1) (wConsF (wVar 2) (wConsF (wVar 0) wNil)))))
def t__law_plain_s2 : WS :=
  (wSeq (wWhile (wTest (wBin bGeD (wVar 0) (wCon (.int 12)))) t__law_plain_w2)
  t__law_plain_s1)
def t__law_plain : WS :=
  (wSeq (wPar [1, 2] (nCons (wCon (.int 0)) (nCons (wCon (.int 0)) nNil)))
  (wSeq (wWhile (wTest (wBin bGeD (wVar 0) (wCon (.int 240)))) t__law_plain_w1)
  t__law_plain_s2))
theorem ok__law_plain {sp : FS} {D__law_plain : Df K mg "_law_plain" ["pence"] s__law_plain}
    (hs : ∀ as q, sp as q → as.length = 1 ∧ t__law_plain ⟨fun _ => q .non .fz, q, fun _ => False, fun _ => False⟩ (rho0 3 as)) : OkF P w base D__law_plain 1 sp := by
  refine fn_ok _ D__law_plain.F sc__law_plain (fun cdv A outer s H E hr => ?_) hs
  have sc := sc__law_plain
  have d : SB (cxOf CX0 P w K mg base ["pence", "pounds", "shillings"] "_law_plain" (defScope s__law_plain) D__law_plain.f cdv A outer s H E).nox (defBody s__law_plain) _ _ :=
    (b_cons (s_parT (n := 2) [1, 2] (n_cons e_int (n_cons e_int n_nil)) (pg_tup rfl (pgs_cons (g_name 1 sc.nd).pg (pgs_cons (g_name 2 sc.nd).pg pgs_nil))))
    (b_cons (s_while (t_ge hr (e_var 0) e_int) (b_one (s_par2 1 0 sc.nd (n_cons (e_add (e_var 1) e_int) (n_cons (e_sub (e_var 0) e_int) n_nil)))))
    (b_cons (s_while (t_ge hr (e_var 0) e_int) (b_one (s_par2 2 0 sc.nd (n_cons (e_add (e_var 2) e_int) (n_cons (e_sub (e_var 0) e_int) n_nil)))))
    (b_one (s_ret (e_tup (a_cons (e_var 1) (a_cons (e_var 2) (a_cons (e_var 0) a_nil)))))))))
  exact ⟨_, d.ps, d.snd⟩
def t__law_text_f1 : WS :=
  (wIf (wTest (wBin bGtD (wBin bSubs (wVar 0) (wVar 2)) (wCon (.int 0)))) (wAsg 1 (wBin bAdd (wBin bAdd (wBin bAdd (wVar 1) (wIfE (wTest (wBin bNe (wVar 1) (wCon (.str "")))) (wCon (.str " ")) (wCon (.str "")))) (wCl cStr (wCons (wBin bSubs (wVar 0) (wVar 2)) wNil))) (wBin bSubs (wTup (wConsF (wCon (.str "li")) (wConsF (wCon (.str "s")) (wConsF (wCon (.str "d")) wNil)))) (wVar 2)))) wNext)
def t__law_text_s1 : WS :=
  (wRet (wIfE (wTest (wBin bNe (wVar 1) (wCon (.str "")))) (wVar 1) (wCon (.str "0d"))))
def t__law_text : WS :=
  (wSeq (wAsg 1 (wCon (.str "")))
  (wSeq (wFor (wiR1 (wCons (wCon (.int 3)) wNil)) (wgName 2) t__law_text_f1)
  t__law_text_s1))
theorem ok__law_text {sp : FS} {D__law_text : Df K mg "_law_text" ["coins"] s__law_text} (m_range : mg "range" = none) (m_str : mg "str" = none)
    (hs : ∀ as q, sp as q → as.length = 1 ∧ t__law_text ⟨fun _ => q .non .fz, q, fun _ => False, fun _ => False⟩ (rho0 3 as)) : OkF P w base D__law_text 1 sp := by
  refine fn_ok _ D__law_text.F sc__law_text (fun cdv A outer s H E hr => ?_) hs
  have sc := sc__law_text
  have d : SB (cxOf CX0 P w K mg base ["coins", "found", "k"] "_law_text" (defScope s__law_text) D__law_text.f cdv A outer s H E).nox (defBody s__law_text) _ _ :=
    (b_cons (s_asg 1 sc.nd e_str)
    (b_cons (s_for (if_r1 m_range (o_cons e_int o_nil)) (g_name 2 sc.nd) (b_one (s_if (t_gt hr (e_subs hr (e_var 0) (e_var 2)) e_int) (b_one (s_asg 1 sc.nd (e_add (e_add (e_add (e_var 1) (e_ifE (t_ne hr (e_var 1) e_str) e_str e_str)) (c_str m_str (o_cons (e_subs hr (e_var 0) (e_var 2)) o_nil))) (e_subs hr (e_tup (a_cons e_str (a_cons e_str (a_cons e_str a_nil)))) (e_var 2))))) b_nil)))
    (b_one (s_ret (e_ifE (t_ne hr (e_var 1) e_str) (e_var 1) e_str)))))
  exact ⟨_, d.ps, d.snd⟩
def t__law_read_w1 : WS :=
  (wAsg 5 (wSlice (wVar 4) wPNone (wPSome (wBin bAdd (wCl cLen (wCons (wVar 5) wNil)) (wCon (.int 1))))))
def t__law_read_s1 : WS :=
  (wSeq (wAsgS 2 (gsPut 1 (wVar 7) (gsName 3 gsNil)) (wTup (wConsF (wVar 8) (wConsF (wCl cList (wCons (wSlice (wTup (wConsF (wCon (.str "li")) (wConsF (wCon (.str "s")) (wConsF (wCon (.str "d")) wNil)))) (wPSome (wBin bAdd (wVar 7) (wCon (.int 1)))) wPNone) wNil)) wNil))))
  (wAugI 2 (wBin bAdd (wCl cLen (wCons (wVar 4) wNil)) (wCon (.int 1)))))
def t__law_read_s2 : WS :=
  (wSeq (wPar [7, 8] (nCons (wTIx (wConsF (wCon (.str "li")) (wConsF (wCon (.str "s")) (wConsF (wCon (.str "d")) wNil))) (wVar 6)) (nCons (wCl cIntT (wCons (wVar 5) wNil)) nNil)))
  (wSeq (wIf (wTest (wBin bGeD (wVar 8) (wBin bSubs (wTup (wConsF (wBin bAdd (wVar 8) (wCon (.int 1))) (wConsF (wCon (.int 20)) (wConsF (wCon (.int 12)) wNil)))) (wVar 7)))) (wRet (wTup (wConsF (wCon (.bl false)) (wConsF (wVar 2) wNil)))) wNext)
  t__law_read_s1))
def t__law_read_s3 : WS :=
  (wSeq (wAsg 6 (wSlice (wVar 4) (wPSome (wCl cLen (wCons (wVar 5) wNil))) wPNone))
  (wSeq (wIf (wOr (wTest (wBin bEq (wVar 5) (wCon (.str "")))) (wOr (wTest (wBin bEq (wBin bSubs (wVar 5) (wCon (.int 0))) (wCon (.str "0")))) (wTest (wBin bNotIn (wVar 6) (wVar 3))))) (wRet (wTup (wConsF (wCon (.bl false)) (wConsF (wVar 2) wNil)))) wNext)
  t__law_read_s2))
def t__law_read_f1 : WS :=
  (wSeq (wAsg 5 (wCon (.str "")))
  (wSeq (wWhile (wAnd (wTest (wBin bLtD (wCl cLen (wCons (wVar 5) wNil)) (wCl cLen (wCons (wVar 4) wNil)))) (wTest (wBin bIn (wBin bSubs (wVar 4) (wCl cLen (wCons (wVar 5) wNil))) (wCon (.str "0123456789"))))) t__law_read_w1)
  t__law_read_s3))
def t__law_read_s4 : WS :=
  (wRet (wTup (wConsF (wCon (.bl true)) (wConsF (wCl cTuple (wCons (wVar 1) wNil)) wNil))))
def t__law_read_s5 : WS :=
  (wSeq (wPar [1, 2, 3] (nCons (wLst (wConsF (wCon (.int 0)) (wConsF (wCon (.int 0)) (wConsF (wCon (.int 0)) wNil)))) (nCons (wCon (.int 0)) (nCons (wLst (wConsF (wCon (.str "li")) (wConsF (wCon (.str "s")) (wConsF (wCon (.str "d")) wNil)))) nNil))))
  (wSeq (wFor (wiF (wSplit (wVar 0) (wCon (.str " ")))) (wgName 4) t__law_read_f1)
  t__law_read_s4))
def t__law_read : WS :=
  (wSeq (wIf (wTest (wBin bEq (wVar 0) (wCon (.str "0d")))) (wRet (wTup (wConsF (wCon (.bl true)) (wConsF (wTup (wConsF (wCon (.int 0)) (wConsF (wCon (.int 0)) (wConsF (wCon (.int 0)) wNil)))) wNil)))) wNext)
  t__law_read_s5)
theorem ok__law_read {sp : FS} {D__law_read : Df K mg "_law_read" ["text"] s__law_read} (m_len : mg "len" = none) (m_int : mg "int" = none) (m_list : mg "list" = none) (m_tuple : mg "tuple" = none)
    (hs : ∀ as q, sp as q → as.length = 1 ∧ t__law_read ⟨fun _ => q .non .fz, q, fun _ => False, fun _ => False⟩ (rho0 9 as)) : OkF P w base D__law_read 1 sp := by
  refine fn_ok _ D__law_read.F sc__law_read (fun cdv A outer s H E hr => ?_) hs
  have sc := sc__law_read
  have d : SB (cxOf CX0 P w K mg base ["text", "found", "place", "words", "piece", "digits", "word", "k", "many"] "_law_read" (defScope s__law_read) D__law_read.f cdv A outer s H E).nox (defBody s__law_read) _ _ :=
    (b_cons (s_if (t_eq hr (e_var 0) e_str) (b_one (s_ret (e_tup (a_cons e_bl (a_cons (e_tup (a_cons e_int (a_cons e_int (a_cons e_int a_nil)))) a_nil))))) b_nil)
    (b_cons (s_par3 1 2 3 sc.nd (n_cons (e_lst (a_cons e_int (a_cons e_int (a_cons e_int a_nil)))) (n_cons e_int (n_cons (e_lst (a_cons e_str (a_cons e_str (a_cons e_str a_nil)))) n_nil))))
    (b_cons (s_for (if_seq (e_split (e_var 0) e_str)) (g_name 4 sc.nd) (b_cons (s_asg 5 sc.nd e_str)
    (b_cons (s_while (t_pw (t_and (t_lt hr (c_len m_len (o_cons (e_var 5) o_nil)) (c_len m_len (o_cons (e_var 4) o_nil))) (t_and1 (t_in hr (e_subs hr (e_var 4) (c_len m_len (o_cons (e_var 5) o_nil))) e_str)))) (b_one (s_asg 5 sc.nd (e_slice (e_var 4) q_none (q_some (e_add (c_len m_len (o_cons (e_var 5) o_nil)) e_int))))))
    (b_cons (s_asg 6 sc.nd (e_slice (e_var 4) (q_some (c_len m_len (o_cons (e_var 5) o_nil))) q_none))
    (b_cons (s_if (t_pw (t_or (t_eq hr (e_var 5) e_str) (t_or (t_eq hr (e_subs hr (e_var 5) e_int) e_str) (t_or1 (t_notin hr (e_var 6) (e_var 3)))))) (b_one (s_ret (e_tup (a_cons e_bl (a_cons (e_var 2) a_nil))))) b_nil)
    (b_cons (s_par2 7 8 sc.nd (n_cons (e_tix (a_cons e_str (a_cons e_str (a_cons e_str a_nil))) (e_var 6)) (n_cons (c_intT m_int (o_cons (e_var 5) o_nil)) n_nil)))
    (b_cons (s_if (t_ge hr (e_var 8) (e_subs hr (e_tup (a_cons (e_add (e_var 8) e_int) (a_cons e_int (a_cons e_int a_nil)))) (e_var 7))) (b_one (s_ret (e_tup (a_cons e_bl (a_cons (e_var 2) a_nil))))) b_nil)
    (b_cons (s_asgS (n := 2) (e_tup (a_cons (e_var 8) (a_cons (c_list m_list (o_cons (e_slice (e_tup (a_cons e_str (a_cons e_str (a_cons e_str a_nil)))) (q_some (e_add (e_var 7) e_int)) q_none) o_nil)) a_nil))) (gs_put 1 (e_var 7) (gs_name 3 sc.nd gs_nil)))
    (b_one (s_augA 2 sc.nd (e_add (c_len m_len (o_cons (e_var 4) o_nil)) e_int)))))))))))
    (b_one (s_ret (e_tup (a_cons e_bl (a_cons (c_tuple m_tuple (o_cons (e_var 1) o_nil)) a_nil))))))))
  exact ⟨_, d.ps, d.snd⟩
def t_law_c1 (sp__law_next : FS) : WE :=
  (wTup (wConsF (wCall sp__law_next (xW 1 (xCons (wCon (.int 4)) xNil))) (wConsF (wCall sp__law_next (xW 1 (xCons (wCon (.int 30)) xNil))) (wConsF (wCall sp__law_next (xW 1 (xCons (wCon (.int 20)) xNil))) wNil))))
def t_law_c2 : WE :=
  (wBin bAdd (wBin bAdd (wBin bMul (wBin bSubs (wVar 10) (wCon (.int 0))) (wCon (.int 240))) (wBin bMul (wBin bSubs (wVar 10) (wCon (.int 1))) (wCon (.int 12)))) (wBin bSubs (wVar 10) (wCon (.int 2))))
def t_law_f1 (sp_is_sum : FS) : WS :=
  (wIf (wTest (wBin bNe (wCall sp_is_sum (xCons (wVar 14) xNil)) (wVar 15))) (wRet (wCon (.bl false))) wNext)
def t_law_f2 (sp__law_read : FS) (sp_parse_sum : FSX) : WS :=
  (wSeq (wAsg 15 (wCall sp__law_read (xCons (wVar 19) xNil)))
  (wSeq (wTryT 21 20 (wCallX sp_parse_sum (xCons (wVar 19) xNil)))
  (wIf (wTest (wBin bNe (wVar 20) (wVar 15))) (wRet (wCon (.bl false))) wNext)))
def t_law_s1 (sp__law_next : FS) (sp__law_read : FS) (sp_parse_sum : FSX) : WS :=
  (wSeq (wAsg 18 (wCall sp__law_next (xW 1 (xCons (wBin bAdd (wCl cLen (wCons (wVar 17) wNil)) (wCon (.int 1))) xNil))))
  (wFor (wiF (wTup (wConsF (wVar 17) (wConsF (wBin bAdd (wBin bAdd (wSlice (wVar 17) wPNone (wPSome (wVar 18))) (wBin bSubs (wLst (wConsF (wCon (.str "0")) (wConsF (wCon (.str " ")) (wConsF (wCon (.str "d")) (wConsF (wCon (.str "s")) (wConsF (wCon (.str "1")) (wConsF (wCon (.str "li")) wNil))))))) (wCall sp__law_next (xW 1 (xCons (wCon (.int 6)) xNil))))) (wSlice (wVar 17) (wPSome (wVar 18)) wPNone)) (wConsF (wBin bAdd (wSlice (wVar 17) wPNone (wPSome (wVar 18))) (wSlice (wVar 17) (wPSome (wBin bAdd (wVar 18) (wCon (.int 1)))) wPNone)) (wConsF (wBin bAdd (wVar 17) (wCon (.str " 0d"))) (wConsF (wCon (.str "3d 2s")) (wConsF (wCon (.str "")) wNil)))))))) (wgName 19) (t_law_f2 sp__law_read sp_parse_sum)))
def t_law_s2 (sp__law_next : FS) (sp__law_text : FS) (sp_print_sum : FS) (sp_parse_sum : FSX) (sp__law_read : FS) : WS :=
  (wSeq (wAsg 16 (wIfE (wTest (wBin bEq (wCall sp__law_next (xW 1 (xCons (wCon (.int 2)) xNil))) (wCon (.int 0)))) (wVar 7) (wTup (wConsF (wCon (.int 0)) (wConsF (wBin bMul (wBin bSubs (wVar 7) (wCon (.int 1))) (wCall sp__law_next (xW 1 (xCons (wCon (.int 2)) xNil)))) (wConsF (wBin bMul (wBin bSubs (wVar 7) (wCon (.int 2))) (wCall sp__law_next (xW 1 (xCons (wCon (.int 2)) xNil)))) wNil))))))
  (wSeq (wAsg 17 (wCall sp__law_text (xCons (wVar 16) xNil)))
  (wSeq (wIf (wOr (wTest (wBin bNe (wCall sp_print_sum (xCons (wVar 16) xNil)) (wVar 17))) (wTest (wBin bNe (wCallX sp_parse_sum (xCons (wVar 17) xNil) fun _ _ => False) (wVar 16)))) (wRet (wCon (.bl false))) wNext)
  (t_law_s1 sp__law_next sp__law_read sp_parse_sum))))
def t_law_s3 (sp_is_sum : FS) (sp__law_next : FS) (sp__law_text : FS) (sp_print_sum : FS) (sp_parse_sum : FSX) (sp__law_read : FS) : WS :=
  (wSeq (wAsg 13 (wAndV (wBin bLtD (wBin bSubs (wVar 5) (wCon (.int 1))) (wCon (.int 20))) (wBin bLtD (wBin bSubs (wVar 5) (wCon (.int 2))) (wCon (.int 12)))))
  (wSeq (wFor (wiF (wTup (wConsF (wTup (wConsF (wVar 7) (wConsF (wCon (.bl true)) wNil))) (wConsF (wTup (wConsF (wVar 5) (wConsF (wVar 13) wNil))) (wConsF (wTup (wConsF (wCl cList (wCons (wVar 7) wNil)) (wConsF (wCon (.bl false)) wNil))) (wConsF (wTup (wConsF (wSlice (wVar 7) wPNone (wPSome (wCon (.int 2)))) (wConsF (wCon (.bl false)) wNil))) (wConsF (wTup (wConsF (wBin bAdd (wTup (wConsF (wBin bSub (wCon (.int 0)) (wCon (.int 1))) wNil)) (wSlice (wVar 7) (wPSome (wCon (.int 1))) wPNone)) (wConsF (wCon (.bl false)) wNil))) (wConsF (wTup (wConsF (wCon .non) (wConsF (wCon (.bl false)) wNil))) wNil)))))))) (wgTup 2 (wgCons (wgName 14) (wgCons (wgName 15) wgNil))) (t_law_f1 sp_is_sum))
  (t_law_s2 sp__law_next sp__law_text sp_print_sum sp_parse_sum sp__law_read)))
def t_law_s4 (sp_pence_of : FS) (sp__law_plain : FS) (sp_is_sum : FS) (sp__law_next : FS) (sp__law_text : FS) (sp_print_sum : FS) (sp_parse_sum : FSX) (sp__law_read : FS) : WS :=
  (wSeq (wIf (wOr (wNot (wTest (wChain bLeD bLeD (wCon (.int 0)) (wCall sp_pence_of (xCons (wVar 12) xNil)) (wVar 8)))) (wTest (wBin bNe (wVar 12) (wCall sp__law_plain (xCons (wCall sp_pence_of (xCons (wVar 12) xNil)) xNil))))) (wRet (wCon (.bl false))) wNext)
  (t_law_s3 sp_is_sum sp__law_next sp__law_text sp_print_sum sp_parse_sum sp__law_read))
def t_law_s5 (sp_parted : FS) (sp__law_plain : FS) (sp_pence_of : FS) (sp_is_sum : FS) (sp__law_next : FS) (sp__law_text : FS) (sp_print_sum : FS) (sp_parse_sum : FSX) (sp__law_read : FS) : WS :=
  (wSeq (wAsgT (wgTup 2 (wgCons (wgName 11) (wgCons (wgName 12) wgNil))) (wCall sp_parted (xCons (wVar 5) (xCons (wBin bAdd (wVar 8) (wCon (.int 1))) xNil))))
  (wSeq (wIf (wOr (wTest (wBin bNe (wVar 11) (wCall sp__law_plain (xCons (wBin bDiv (wVar 6) (wBin bAdd (wVar 8) (wCon (.int 1)))) xNil)))) (wTest (wBin bNe (wBin bAdd (wBin bMul (wCall sp_pence_of (xCons (wVar 11) xNil)) (wBin bAdd (wVar 8) (wCon (.int 1)))) (wCall sp_pence_of (xCons (wVar 12) xNil))) (wVar 6)))) (wRet (wCon (.bl false))) wNext)
  (t_law_s4 sp_pence_of sp__law_plain sp_is_sum sp__law_next sp__law_text sp_print_sum sp_parse_sum sp__law_read)))
def t_law_f3 (sp__law_next : FS) (sp__law_plain : FS) (sp_pence_of : FS) (sp_sum_of : FS) (sp_added : FS) (sp_times_sum : FS) (sp_parted : FS) (sp_is_sum : FS) (sp__law_text : FS) (sp_print_sum : FS) (sp_parse_sum : FSX) (sp__law_read : FS) : WS :=
  (wSeq (wAsg 3 (wComp (wiR1 (wCons (wCall sp__law_next (xW 1 (xCons (wCon (.int 4)) xNil))) wNil)) (wgName 4) wYes (t_law_c1 sp__law_next) [4]))
  (wSeq (wAsg 5 (wTup (wConsF (wCall sp__law_next (xW 1 (xCons (wCon (.int 12)) xNil))) (wConsF (wCall sp__law_next (xW 1 (xCons (wCon (.int 30)) xNil))) (wConsF (wCall sp__law_next (xW 1 (xCons (wCon (.int 30)) xNil))) wNil)))))
  (wSeq (wAsg 6 (wBin bAdd (wBin bAdd (wBin bMul (wBin bSubs (wVar 5) (wCon (.int 0))) (wCon (.int 240))) (wBin bMul (wBin bSubs (wVar 5) (wCon (.int 1))) (wCon (.int 12)))) (wBin bSubs (wVar 5) (wCon (.int 2)))))
  (wSeq (wPar [7, 8] (nCons (wCall sp__law_plain (xCons (wVar 6) xNil)) (nCons (wCall sp__law_next (xW 1 (xCons (wCon (.int 5)) xNil))) nNil)))
  (wSeq (wAsg 9 (wCl cSum (wCons (wComp (wiO (wVar 3)) (wgName 10) wYes t_law_c2 [10]) wNil)))
  (wSeq (wIf (wOr (wTest (wBin bNe (wCall sp_pence_of (xCons (wVar 5) xNil)) (wVar 6))) (wOr (wTest (wBin bNe (wCall sp_sum_of (xCons (wVar 6) xNil)) (wVar 7))) (wOr (wTest (wBin bNe (wCall sp_added (xCons (wCl cTuple (wCons (wVar 3) wNil)) xNil)) (wCall sp__law_plain (xCons (wVar 9) xNil)))) (wTest (wBin bNe (wCall sp_times_sum (xCons (wVar 5) (xCons (wVar 8) xNil))) (wCall sp__law_plain (xCons (wBin bMul (wVar 6) (wVar 8)) xNil))))))) (wRet (wCon (.bl false))) wNext)
  (t_law_s5 sp_parted sp__law_plain sp_pence_of sp_is_sum sp__law_next sp__law_text sp_print_sum sp_parse_sum sp__law_read)))))))
def t_law (sp__law_next : FS) (sp__law_plain : FS) (sp_times_sum : FS) (sp_added : FS) (sp_sum_of : FS) (sp_pence_of : FS) (sp_parted : FS) (sp_is_sum : FS) (sp__law_text : FS) (sp_parse_sum : FSX) (sp_print_sum : FS) (sp__law_read : FS) : WS :=
  (wSeq (wFor (wiR1 (wCons (wCon (.int 5)) wNil)) (wgName 2) (t_law_f3 sp__law_next sp__law_plain sp_pence_of sp_sum_of sp_added sp_times_sum sp_parted sp_is_sum sp__law_text sp_print_sum sp_parse_sum sp__law_read))
  (wRet (wCon (.bl true))))
theorem ok_law {f : Addr} {fd : FuncData} (F : Fun K "law" "law" s_law f fd) {C fI : Addr} (O : OwnE K mg "BadText" "place" C fI) {D__law_draws : Df K mg "_law_draws" ["script", "many"] s__law_draws} (F__law_draws : OkF P w base D__law_draws 1 spDraws) {sp__law_next : FS} {D__law_next : Df K mg "_law_next" ["w", "many"] s__law_next} (F__law_next : OkF P w base D__law_next 1 sp__law_next) {sp__law_plain : FS} {D__law_plain : Df K mg "_law_plain" ["pence"] s__law_plain} (F__law_plain : OkF P w base D__law_plain 1 sp__law_plain) {sp_times_sum : FS} {D_times_sum : Df K mg "times_sum" ["coins", "many"] s_times_sum} (F_times_sum : OkF P w base D_times_sum 2 sp_times_sum) {sp_added : FS} {D_added : Df K mg "added" ["sums"] s_added} (F_added : OkF P w base D_added 2 sp_added) {sp_sum_of : FS} {D_sum_of : Df K mg "sum_of" ["pence"] s_sum_of} (F_sum_of : OkF P w base D_sum_of 1 sp_sum_of) {sp_pence_of : FS} {D_pence_of : Df K mg "pence_of" ["coins"] s_pence_of} (F_pence_of : OkF P w base D_pence_of 1 sp_pence_of) {sp_parted : FS} {D_parted : Df K mg "parted" ["coins", "many"] s_parted} (F_parted : OkF P w base D_parted 2 sp_parted) {sp_is_sum : FS} {D_is_sum : Df K mg "is_sum" ["thing"] s_is_sum} (F_is_sum : OkF P w base D_is_sum 2 sp_is_sum) {sp__law_text : FS} {D__law_text : Df K mg "_law_text" ["coins"] s__law_text} (F__law_text : OkF P w base D__law_text 1 sp__law_text) {sp_parse_sum : FSX} {D_parse_sum : Df K mg "parse_sum" ["text"] s_parse_sum} (F_parse_sum : OkX P w base D_parse_sum 3 C "place" sp_parse_sum) {sp_print_sum : FS} {D_print_sum : Df K mg "print_sum" ["coins"] s_print_sum} (F_print_sum : OkF P w base D_print_sum 1 sp_print_sum) {sp__law_read : FS} {D__law_read : Df K mg "_law_read" ["text"] s__law_read} (F__law_read : OkF P w base D__law_read 1 sp__law_read) (m_range : mg "range" = none) (m_sum : mg "sum" = none) (m_tuple : mg "tuple" = none) (m_list : mg "list" = none) (m_len : mg "len" = none)
    (hs : ∀ ns : List Int, ns.length ≤ 63 → t_law sp__law_next sp__law_plain sp_times_sum sp_added sp_sum_of sp_pence_of sp_parted sp_is_sum sp__law_text sp_parse_sum sp_print_sum sp__law_read ⟨fun _ => False, fun d _ => d = .bl true, fun _ => False, fun _ => False⟩ (.fz (.fl (ns.map .int)) :: .w :: List.replicate 20 .un)) : FnOk P w K mg base CX0 4 f fd ["script"] (spLaw K) := by
  refine law_ok (m := 120) (n := 20) (by decide) (by decide) rfl F sc_law (fun cdv A outer s H E hr => ?_) hs
  have sc := sc_law
  have d1 : SS (cxOf CX0 P w K mg base ["script", "w", "turn", "rows", "k", "coins", "pence", "plain", "many", "whole", "one", "each", "rest", "is_small", "thing", "due", "small", "text", "at", "bent", "told", "wrong"] "law" (defScope s_law) f cdv A outer s H E).nox ((defBody s_law).getD 0 (.Pass ⟨0, 0, 0, 0⟩)) _ (wHead 120) :=
    (s_asg 1 sc.nd (e_disp (p_cons e_str (e_call F__law_draws (hr.mono (by decide)) (x_cons (e_var 0) (x_cons e_int x_nil))) (p_cons e_str e_int p_nil))))
  have d2 : SB (cxOf CX0 P w K mg base ["script", "w", "turn", "rows", "k", "coins", "pence", "plain", "many", "whole", "one", "each", "rest", "is_small", "thing", "due", "small", "text", "at", "bent", "told", "wrong"] "law" (defScope s_law) f cdv A outer s H E).nox (defBody s_law).tail _ (t_law sp__law_next sp__law_plain sp_times_sum sp_added sp_sum_of sp_pence_of sp_parted sp_is_sum sp__law_text sp_parse_sum sp_print_sum sp__law_read) :=
    (b_cons (s_for (if_r1 m_range (o_cons e_int o_nil)) (g_name 2 sc.nd) (b_cons (s_comp (j := 3) [("k", 4)] sc.nd (io_r1 m_range (o_cons (e_call F__law_next (hr.mono (by decide)) (x_w 1 (x_cons e_int x_nil))) o_nil)) (blkOk_by (N := ["script", "w", "turn", "rows", "k", "coins", "pence", "plain", "many", "whole", "one", "each", "rest", "is_small", "thing", "due", "small", "text", "at", "bent", "told", "wrong"]) (sc := defScope s_law) (by decide +kernel)) (fun _ _ _ _ _ => (g_name 4 sc.nd)) (tgIn_name (by decide)) (fun _ _ _ _ _ => ts_nil) (fun _ _ _ _ _ => (e_tup (a_cons (e_call F__law_next (hr.mono (by decide)) (x_w 1 (x_cons e_int x_nil))) (a_cons (e_call F__law_next (hr.mono (by decide)) (x_w 1 (x_cons e_int x_nil))) (a_cons (e_call F__law_next (hr.mono (by decide)) (x_w 1 (x_cons e_int x_nil))) a_nil))))))
    (b_cons (s_asg 5 sc.nd (e_tup (a_cons (e_call F__law_next (hr.mono (by decide)) (x_w 1 (x_cons e_int x_nil))) (a_cons (e_call F__law_next (hr.mono (by decide)) (x_w 1 (x_cons e_int x_nil))) (a_cons (e_call F__law_next (hr.mono (by decide)) (x_w 1 (x_cons e_int x_nil))) a_nil)))))
    (b_cons (s_asg 6 sc.nd (e_add (e_add (e_mul (e_subs hr (e_var 5) e_int) e_int) (e_mul (e_subs hr (e_var 5) e_int) e_int)) (e_subs hr (e_var 5) e_int)))
    (b_cons (s_par2 7 8 sc.nd (n_cons (e_call F__law_plain (hr.mono (by decide)) (x_cons (e_var 6) x_nil)) (n_cons (e_call F__law_next (hr.mono (by decide)) (x_w 1 (x_cons e_int x_nil))) n_nil)))
    (b_cons (s_asg 9 sc.nd (c_sum m_sum (o_cons (e_comp [("one", 10)] sc.nd (io_seq (e_var 3)) (blkOk_by (N := ["script", "w", "turn", "rows", "k", "coins", "pence", "plain", "many", "whole", "one", "each", "rest", "is_small", "thing", "due", "small", "text", "at", "bent", "told", "wrong"]) (sc := defScope s_law) (by decide +kernel)) (fun _ _ _ _ _ => (g_name 10 sc.nd)) (tgIn_name (by decide)) (fun _ _ _ _ _ => ts_nil) (fun _ _ _ _ _ => (e_add (e_add (e_mul (e_subs hr (e_var 10) e_int) e_int) (e_mul (e_subs hr (e_var 10) e_int) e_int)) (e_subs hr (e_var 10) e_int)))) o_nil)))
    (b_cons (s_if (t_pw (t_or (t_ne hr (e_call F_pence_of (hr.mono (by decide)) (x_cons (e_var 5) x_nil)) (e_var 6)) (t_or (t_ne hr (e_call F_sum_of (hr.mono (by decide)) (x_cons (e_var 6) x_nil)) (e_var 7)) (t_or (t_ne hr (e_call F_added (hr.mono (by decide)) (x_cons (c_tuple m_tuple (o_cons (e_var 3) o_nil)) x_nil)) (e_call F__law_plain (hr.mono (by decide)) (x_cons (e_var 9) x_nil))) (t_or1 (t_ne hr (e_call F_times_sum (hr.mono (by decide)) (x_cons (e_var 5) (x_cons (e_var 8) x_nil))) (e_call F__law_plain (hr.mono (by decide)) (x_cons (e_mul (e_var 6) (e_var 8)) x_nil)))))))) (b_one (s_ret e_bl)) b_nil)
    (b_cons (s_asgT (e_call F_parted (hr.mono (by decide)) (x_cons (e_var 5) (x_cons (e_add (e_var 8) e_int) x_nil))) (g_tup (n := 2) rfl (g_cons (g_name 11 sc.nd) (g_cons (g_name 12 sc.nd) g_nil))))
    (b_cons (s_if (t_pw (t_or (t_ne hr (e_var 11) (e_call F__law_plain (hr.mono (by decide)) (x_cons (e_div (e_var 6) (e_add (e_var 8) e_int)) x_nil))) (t_or1 (t_ne hr (e_add (e_mul (e_call F_pence_of (hr.mono (by decide)) (x_cons (e_var 11) x_nil)) (e_add (e_var 8) e_int)) (e_call F_pence_of (hr.mono (by decide)) (x_cons (e_var 12) x_nil))) (e_var 6))))) (b_one (s_ret e_bl)) b_nil)
    (b_cons (s_if (t_pw (t_or (t_not (t_chain (op_leD (u64 hr)) snd_leD (op_leD (u64 hr)) snd_leD e_int (e_call F_pence_of (hr.mono (by decide)) (x_cons (e_var 12) x_nil)) (e_var 8))) (t_or1 (t_ne hr (e_var 12) (e_call F__law_plain (hr.mono (by decide)) (x_cons (e_call F_pence_of (hr.mono (by decide)) (x_cons (e_var 12) x_nil)) x_nil)))))) (b_one (s_ret e_bl)) b_nil)
    (b_cons (s_asg 13 sc.nd (e_andV (e_lt hr (e_subs hr (e_var 5) e_int) e_int) (e_one (e_lt hr (e_subs hr (e_var 5) e_int) e_int))))
    (b_cons (s_for (if_seq (e_tup (a_cons (e_tup (a_cons (e_var 7) (a_cons e_bl a_nil))) (a_cons (e_tup (a_cons (e_var 5) (a_cons (e_var 13) a_nil))) (a_cons (e_tup (a_cons (c_list m_list (o_cons (e_var 7) o_nil)) (a_cons e_bl a_nil))) (a_cons (e_tup (a_cons (e_slice (e_var 7) q_none (q_some e_int)) (a_cons e_bl a_nil))) (a_cons (e_tup (a_cons (e_add (e_tup (a_cons (e_sub e_int e_int) a_nil)) (e_slice (e_var 7) (q_some e_int) q_none)) (a_cons e_bl a_nil))) (a_cons (e_tup (a_cons e_non (a_cons e_bl a_nil))) a_nil)))))))) (g_tup (n := 2) rfl (g_cons (g_name 14 sc.nd) (g_cons (g_name 15 sc.nd) g_nil))) (b_one (s_if (t_ne hr (e_call F_is_sum (hr.mono (by decide)) (x_cons (e_var 14) x_nil)) (e_var 15)) (b_one (s_ret e_bl)) b_nil)))
    (b_cons (s_asg 16 sc.nd (e_ifE (t_eq hr (e_call F__law_next (hr.mono (by decide)) (x_w 1 (x_cons e_int x_nil))) e_int) (e_var 7) (e_tup (a_cons e_int (a_cons (e_mul (e_subs hr (e_var 7) e_int) (e_call F__law_next (hr.mono (by decide)) (x_w 1 (x_cons e_int x_nil)))) (a_cons (e_mul (e_subs hr (e_var 7) e_int) (e_call F__law_next (hr.mono (by decide)) (x_w 1 (x_cons e_int x_nil)))) a_nil))))))
    (b_cons (s_asg 17 sc.nd (e_call F__law_text (hr.mono (by decide)) (x_cons (e_var 16) x_nil)))
    (b_cons (s_if (t_pw (t_or (t_ne hr (e_call F_print_sum (hr.mono (by decide)) (x_cons (e_var 16) x_nil)) (e_var 17)) (t_or1 (t_ne hr (e_callN F_parse_sum (hr.mono (by decide)) (x_cons (e_var 17) x_nil)) (e_var 16))))) (b_one (s_ret e_bl)) b_nil)
    (b_cons (s_asg 18 sc.nd (e_call F__law_next (hr.mono (by decide)) (x_w 1 (x_cons (e_add (c_len m_len (o_cons (e_var 17) o_nil)) e_int) x_nil))))
    (b_one (s_for (if_seq (e_tup (a_cons (e_var 17) (a_cons (e_add (e_add (e_slice (e_var 17) q_none (q_some (e_var 18))) (e_subs hr (e_lst (a_cons e_str (a_cons e_str (a_cons e_str (a_cons e_str (a_cons e_str (a_cons e_str a_nil))))))) (e_call F__law_next (hr.mono (by decide)) (x_w 1 (x_cons e_int x_nil))))) (e_slice (e_var 17) (q_some (e_var 18)) q_none)) (a_cons (e_add (e_slice (e_var 17) q_none (q_some (e_var 18))) (e_slice (e_var 17) (q_some (e_add (e_var 18) e_int)) q_none)) (a_cons (e_add (e_var 17) e_str) (a_cons e_str (a_cons e_str a_nil)))))))) (g_name 19 sc.nd) (b_cons (s_asg 15 sc.nd (e_call F__law_read (hr.mono (by decide)) (x_cons (e_var 19) x_nil)))
    (b_cons (s_tryTc F_parse_sum (hr.mono (by decide)) (fun _ _ => (x_cons (e_var 19) x_nil)) 21 20 O sc.nd)
    (b_one (s_if (t_ne hr (e_var 20) (e_var 15)) (b_one (s_ret e_bl)) b_nil))))))))))))))))))))))
    (b_one (s_ret e_bl)))
  exact ⟨_, _, pss_cons d1.ps d2.ps, d1.snd, d2.snd⟩
end
end K22

namespace K22
open PySem PySem.Spec PyProof.Rows L2 VL
section
variable {t u : WE} {ρ : Rho} {k k' : Kd} {b b' : Bool} {c : WT} {tb : WS} {P : PEnds}
theorem ev_andB (h : Ev t ρ (.bl b) k) (h' : b = true → Ev u ρ (.bl b') .fz) : Ev (wAndV t u) ρ (.bl (b && b')) .fz := fun Q q => by
  rw [wAndV_e, wTest_e]
  refine h _ ?_
  rw [blK_e]
  cases b with
  | true => exact h' rfl _ q
  | false => exact q
theorem ev_notB (h : Ev t ρ (.bl b) k) : Ev (wNotV t) ρ (.bl (!b)) .fz := fun Q q => by
  rw [wNotV_e, wTest_e]
  refine h _ ?_
  exact q
theorem go_while (W : Nat → Rho → Prop) {m0 : Nat} (h0 : W m0 ρ) (h : ∀ m ρ, W m ρ → ∃ b, Et c ρ b ∧ (b = true → tb ⟨fun ρ' => ∃ m', m' < m ∧ W m' ρ', P.rt, P.nx, fun ρ' => ∃ m', m' < m ∧ W m' ρ'⟩ ρ) ∧ (b = false → P.nx ρ)) : wWhile c tb P ρ :=
  ⟨W, ⟨m0, h0⟩, fun m ρ w => by
    obtain ⟨b, e, h1, h2⟩ := h m ρ w
    refine e _ ?_
    cases b with
    | true => exact h1 rfl
    | false => exact h2 rfl⟩
theorem mul_r {i j : Int} (h : j.natAbs < 1000000000) : bMul (.int i) (.int j) = some (.int (i * j), .fz) := by
  rw [bMul_i, if_pos (.inr h)]
theorem sq_parT {P : PEnds} {r : WS} {d e : D} {i j : Nat} (h : Ev t ρ d .fz) (h' : Ev u ρ e .fz) (q : r P ((ρ.set i (.fz d)).set j (.fz e))) : wSeq (wPar [i, j] (nCons t (nCons u nNil))) r P ρ := sq_par2 h h' q
theorem go_par2 {P : PEnds} {d e : D} {i j : Nat} (h : Ev t ρ d .fz) (h' : Ev u ρ e .fz) (q : P.nx ((ρ.set i (.fz d)).set j (.fz e))) : wPar [i, j] (nCons t (nCons u nNil)) P ρ := h _ (h' _ ⟨rfl, q⟩)
end
def c3 (x : Int × Int × Int) : D := .tup [.int x.1, .int x.2.1, .int x.2.2]
def pen (x : Int × Int × Int) : Int := (x.1 * 20 + x.2.1) * 12 + x.2.2
def pl3 (p : Int) : Int × Int × Int := (p / 240, p / 12 % 20, p % 12)
theorem pen_pl (p : Int) : pen (pl3 p) = p := by
  unfold pen pl3
  show (p / 240 * 20 + p / 12 % 20) * 12 + p % 12 = p
  omega
def spPence : FS := fun as q => ∃ x, as = [.d (c3 x)] ∧ q (.int (pen x)) .fz
theorem p_pence_of (as : List VL.A) (q : D → Kd → Prop) (h : spPence as q) : as.length = 1 ∧ t_pence_of ⟨fun _ => q .non .fz, q, fun _ => False, fun _ => False⟩ (rho0 1 as) := by
  obtain ⟨⟨a, b, c⟩, rfl, hq⟩ := h
  refine ⟨rfl, ?_⟩
  unfold t_pence_of
  refine (show wRet _ _ [.fz (c3 (a, b, c))] from ?_)
  have e0 : Ev (wBin bSubs (wVar 0) (wCon (.int 0))) [.fz (c3 (a, b, c))] (.int a) .fz := ev_bin (ev_var rfl) ev_con rfl
  have e1 : Ev (wBin bSubs (wVar 0) (wCon (.int 1))) [.fz (c3 (a, b, c))] (.int b) .fz := ev_bin (ev_var rfl) ev_con rfl
  have e2 : Ev (wBin bSubs (wVar 0) (wCon (.int 2))) [.fz (c3 (a, b, c))] (.int c) .fz := ev_bin (ev_var rfl) ev_con rfl
  exact go_ret (ev_bin (ev_bin (ev_bin (ev_bin e0 ev_con (mul_r (by decide))) e1 bAdd_i) ev_con (mul_r (by decide))) e2 bAdd_i) hq
def spSumOf : FS := fun as q => ∃ p : Int, as = [.d (.int p)] ∧ q (c3 (pl3 p)) .fz
theorem p_sum_of (as : List VL.A) (q : D → Kd → Prop) (h : spSumOf as q) : as.length = 1 ∧ t_sum_of ⟨fun _ => q .non .fz, q, fun _ => False, fun _ => False⟩ (rho0 1 as) := by
  obtain ⟨p, rfl, hq⟩ := h
  refine ⟨rfl, ?_⟩
  unfold t_sum_of
  refine (show wRet _ _ [.fz (.int p)] from ?_)
  have e0 : Ev (wVar 0) [.fz (.int p)] (.int p) .fz := ev_var rfl
  exact go_ret (ev_tup (ea_consF (ev_bin e0 ev_con (bDiv_p (by decide))) (ea_consF (ev_bin (ev_bin e0 ev_con (bDiv_p (by decide))) ev_con (bMod_p (by decide))) (ea_consF (ev_bin e0 ev_con (bMod_p (by decide))) ea_nil)))) hq
def spAdded : FS := fun as q => ∃ l : List (Int × Int × Int), l.length ≤ 100 ∧ as = [.d (.tup (l.map c3))] ∧ q (c3 (pl3 (l.map pen).sum)) .fz
theorem p_added (as : List VL.A) (q : D → Kd → Prop) (h : spAdded as q) : as.length = 1 ∧ t_added spSumOf spPence ⟨fun _ => q .non .fz, q, fun _ => False, fun _ => False⟩ (rho0 2 as) := by
  obtain ⟨l, hl, rfl, hq⟩ := h
  refine ⟨rfl, ?_⟩
  unfold t_added
  refine (show wRet _ _ [.fz (.tup (l.map c3)), .un] from ?_)
  have e := ev_comp1 (ρ := [.fz (.tup (l.map c3)), .un]) (wi := wiO (wVar 0)) (i := 1) (tt := wYes) (t := t_added_c1 spPence) (k := .fz) c3 (fun _ => true) (fun x => .int (pen x)) l (ei_tup (ev_var rfl)) (by simp only [LIM]; omega) (fun _ _ => et_yes) (fun x _ _ => by
    unfold t_added_c1
    exact ev_call (ex_cons (ev_var rfl) ex_nil) fun q hq => ⟨x, rfl, hq⟩)
  refine go_ret (ev_call (k := .fz) (ex_cons (ev_cl (z := .int (l.map pen).sum) (kz := .fz) (ea_cons e ea_nil) ?_) ex_nil) fun q hq => ⟨_, rfl, hq⟩) hq
  rw [List.filter_eq_self.mpr (by simp)]
  have : (l.map fun x => D.int (pen x)) = (l.map pen).map .int := by rw [List.map_map]; rfl
  rw [this]
  exact cSum_ints _
def spTimes : FS := fun as q => ∃ x m, m.natAbs < 1000000000 ∧ as = [.d (c3 x), .d (.int m)] ∧ q (c3 (pl3 (pen x * m))) .fz
theorem p_times_sum (as : List VL.A) (q : D → Kd → Prop) (h : spTimes as q) : as.length = 2 ∧ t_times_sum spSumOf spPence ⟨fun _ => q .non .fz, q, fun _ => False, fun _ => False⟩ (rho0 2 as) := by
  obtain ⟨x, m, hm, rfl, hq⟩ := h
  refine ⟨rfl, ?_⟩
  unfold t_times_sum
  refine (show wRet _ _ [.fz (c3 x), .fz (.int m)] from ?_)
  exact go_ret (ev_call (k := .fz) (ex_cons (ev_bin (z := .int (pen x * m)) (kz := .fz) (ev_call (k := .fz) (ex_cons (ev_var rfl) ex_nil) fun q hq => ⟨x, rfl, hq⟩) (ev_var rfl) (mul_r hm)) ex_nil) fun q hq => ⟨_, rfl, hq⟩) hq
def spParted : FS := fun as q => ∃ x m, 0 < m ∧ m < 1000000000 ∧ as = [.d (c3 x), .d (.int m)] ∧ q (.tup [c3 (pl3 (pen x / m)), c3 (pl3 (pen x % m))]) .fz
theorem p_parted (as : List VL.A) (q : D → Kd → Prop) (h : spParted as q) : as.length = 2 ∧ t_parted spPence spSumOf ⟨fun _ => q .non .fz, q, fun _ => False, fun _ => False⟩ (rho0 3 as) := by
  obtain ⟨x, m, h0, hm, rfl, hq⟩ := h
  refine ⟨rfl, ?_⟩
  unfold t_parted
  refine (show wSeq _ _ _ [.fz (c3 x), .fz (.int m), .un] from ?_)
  refine sq_asg (ev_call (d := .int (pen x)) (k := .fz) (ex_cons (ev_var rfl) ex_nil) fun q hq => ⟨x, rfl, hq⟩) ?_
  refine (show wRet _ _ [.fz (c3 x), .fz (.int m), .fz (.int (pen x))] from ?_)
  exact go_ret (ev_tup (ea_consF (k := .fz) (ev_call (k := .fz) (ex_cons (ev_bin (ev_var rfl) (ev_var rfl) (bDiv_p ⟨h0, by omega⟩)) ex_nil) fun q hq => ⟨_, rfl, hq⟩) (ea_consF (k := .fz) (ev_call (k := .fz) (ex_cons (ev_bin (ev_var rfl) (ev_var rfl) (bMod_p h0)) ex_nil) fun q hq => ⟨_, rfl, hq⟩) ea_nil))) hq
/-! ### is_sum -/
theorem ev_is {n a : String} {t : WE} {ρ : Rho} {d : D} {k : Kd} (h : Ev t ρ d k) (e : tyD d = some a) : Ev (wIs n t) ρ (.bl (isB a n)) .fz := fun Q q => h _ (by
  show (match tyD d with
    | some a => Q (.bl (isB a n)) .fz ρ
    | none => False)
  rw [e]; exact q)
theorem isI_int : isB "int" "int" = true := by decide +kernel
theorem isI_bool : isB "int" "bool" = false := by decide +kernel
theorem isT_tup : isB "tuple" "tuple" = true := by decide +kernel
theorem isL_tup : isB "list" "tuple" = false := by decide +kernel
theorem isN_tup : isB "NoneType" "tuple" = false := by decide +kernel
def spIsNum : FS := fun as q => ∃ i : Int, as = [.d (.int i)] ∧ q (.bl true) .fz
theorem p_is_number (as : List VL.A) (q : D → Kd → Prop) (h : spIsNum as q) : as.length = 1 ∧ t_is_number ⟨fun _ => q .non .fz, q, fun _ => False, fun _ => False⟩ (rho0 1 as) := by
  obtain ⟨i, rfl, hq⟩ := h
  refine ⟨rfl, ?_⟩
  unfold t_is_number
  refine (show wRet _ _ [.fz (.int i)] from ?_)
  have e := ev_andB (ρ := [.fz (.int i)]) (t := wIs "int" (wVar 0)) (u := wNotV (wIs "bool" (wVar 0))) (ev_is (a := "int") (ev_var rfl) rfl) (fun _ => ev_notB (ev_is (a := "int") (ev_var rfl) rfl))
  rw [isI_int, isI_bool] at e
  exact go_ret e hq
def isTupN (d : D) (m : Int) : Bool := match d with
  | .tup xs => decide ((xs.length : Int) = m)
  | _ => false
def spIsTup : FS := fun as q => ∃ d m, (d = .non ∨ (∃ xs, d = .lst xs) ∨ ∃ xs, d = .tup xs) ∧ as = [.d d, .d (.int m)] ∧ q (.bl (isTupN d m)) .fz
theorem p_is_tuple_of (as : List VL.A) (q : D → Kd → Prop) (h : spIsTup as q) : as.length = 2 ∧ t_is_tuple_of ⟨fun _ => q .non .fz, q, fun _ => False, fun _ => False⟩ (rho0 2 as) := by
  obtain ⟨d, m, hd, rfl, hq⟩ := h
  refine ⟨rfl, ?_⟩
  unfold t_is_tuple_of
  refine (show wRet _ _ [.fz d, .fz (.int m)] from ?_)
  rcases hd with rfl | ⟨xs, rfl⟩ | ⟨xs, rfl⟩
  · have e := ev_andB (b' := false) (ρ := [.fz .non, .fz (.int m)]) (t := wIs "tuple" (wVar 0)) (u := wBin bEq (wCl cLen (wCons (wVar 0) wNil)) (wVar 1)) (ev_is (a := "NoneType") (ev_var rfl) rfl) (fun h => by rw [isN_tup] at h; cases h)
    rw [isN_tup] at e
    exact go_ret e hq
  · have e := ev_andB (b' := false) (ρ := [.fz (.lst xs), .fz (.int m)]) (t := wIs "tuple" (wVar 0)) (u := wBin bEq (wCl cLen (wCons (wVar 0) wNil)) (wVar 1)) (ev_is (a := "list") (ev_var rfl) rfl) (fun h => by rw [isL_tup] at h; cases h)
    rw [isL_tup] at e
    exact go_ret e hq
  · have e := ev_andB (ρ := [.fz (.tup xs), .fz (.int m)]) (t := wIs "tuple" (wVar 0)) (u := wBin bEq (wCl cLen (wCons (wVar 0) wNil)) (wVar 1)) (ev_is (a := "tuple") (ev_var rfl) rfl) (fun _ => ev_bin (ev_cl (ea_cons (ev_var rfl) ea_nil) cLen_t) (ev_var rfl) bEq_i)
    rw [isT_tup] at e
    exact go_ret e hq
def isSumI (xs : List Int) : Bool := decide (xs.length = 3) && xs.all (fun i => decide (0 ≤ i)) && decide (xs.getD 1 0 < 20) && decide (xs.getD 2 0 < 12)
def isSumD (d : D) (b : Bool) : Prop := (d = .non ∧ b = false) ∨ (∃ xs, d = .lst xs ∧ b = false) ∨ ∃ xs : List Int, d = .tup (xs.map .int) ∧ xs.length ≤ 10 ∧ b = isSumI xs
def spIsSum : FS := fun as q => ∃ d b, isSumD d b ∧ as = [.d d] ∧ q (.bl b) .fz
theorem p_is_sum (as : List VL.A) (q : D → Kd → Prop) (h : spIsSum as q) : as.length = 1 ∧ t_is_sum spIsNum spIsTup ⟨fun _ => q .non .fz, q, fun _ => False, fun _ => False⟩ (rho0 2 as) := by
  obtain ⟨d, b, hd, rfl, hq⟩ := h
  refine ⟨rfl, ?_⟩
  unfold t_is_sum
  refine (show wSeq _ _ _ [.fz d, .un] from ?_)
  have tup : ∀ d, (d = .non ∨ (∃ xs, d = .lst xs) ∨ ∃ xs, d = .tup xs) → Et (wNot (wTest (wCall spIsTup (xCons (wVar 0) (xCons (wCon (.int 3)) xNil))))) [.fz d, .un] (!isTupN d 3) := fun d hd => et_not (et_test (ev_call (k := .fz) (ex_cons (ev_var rfl) (ex_cons ev_con ex_nil)) fun q hq => ⟨d, 3, hd, rfl, hq⟩))
  rcases hd with ⟨rfl, rfl⟩ | ⟨xs, rfl, rfl⟩ | ⟨xs, rfl, hl, rfl⟩
  · refine sq_ifT (et_or (b := true) (b' := false) (tup _ (.inl rfl)) (fun h => by cases h)) (sq ?_)
    exact go_ret ev_con hq
  · refine sq_ifT (et_or (b := true) (b' := false) (tup _ (.inr (.inl ⟨_, rfl⟩))) (fun h => by cases h)) (sq ?_)
    exact go_ret ev_con hq
  · have e := ev_comp1 (ρ := [.fz (.tup (xs.map .int)), .un]) (wi := wiO (wVar 0)) (i := 1) (tt := wYes) (t := t_is_sum_c1 spIsNum) (k := .fz) D.int (fun _ => true) (fun x => .bl (decide (0 ≤ x))) xs (ei_tup (ev_var rfl)) (by simp only [LIM]; omega) (fun _ _ => et_yes) (fun x _ _ => by
      unfold t_is_sum_c1
      exact ev_andB (b := true) (ev_call (k := .fz) (ex_cons (ev_var rfl) ex_nil) fun q hq => ⟨x, rfl, hq⟩) fun _ => ev_bin (ev_var rfl) ev_con i_ge)
    rw [List.filter_eq_self.mpr (by simp)] at e
    have ha : Et (wNot (wTest (wCl cAll (wCons (wComp (wiO (wVar 0)) (wgName 1) wYes (t_is_sum_c1 spIsNum) [1]) wNil)))) [.fz (.tup (xs.map .int)), .un] (!xs.all (fun i => decide (0 ≤ i))) := by
      have := et_not (et_test (ev_cl (z := .bl (xs.all (fun i => decide (0 ≤ i)))) (kz := .fz) (ea_cons e ea_nil) (by
        have h1 : (xs.map fun x => D.bl (decide (0 ≤ x))) = (xs.map fun x => decide (0 ≤ x)).map .bl := by rw [List.map_map]; rfl
        rw [h1]
        refine (cAll_bls _).trans ?_
        rw [List.all_map]; rfl)))
      exact this
    have t1 := tup (.tup (xs.map .int)) (.inr (.inr ⟨_, rfl⟩))
    have en : isTupN (.tup (xs.map .int)) 3 = decide (xs.length = 3) := by
      show decide ((((xs.map D.int).length : Nat) : Int) = 3) = _
      rw [List.length_map]
      exact decide_eq_decide.mpr (by omega)
    rw [en] at t1
    have tt := et_or t1 (fun _ => ha)
    by_cases c : xs.length = 3 ∧ xs.all (fun i => decide (0 ≤ i)) = true
    · obtain ⟨c1, c2⟩ := c
      rw [c2, decide_eq_true c1] at tt
      refine sq_skip tt ?_
      unfold t_is_sum_s1
      match xs, c1, hq, c2 with
      | [x, y, z], _, hq, c2 =>
        refine (show wRet _ _ [.fz (.tup [.int x, .int y, .int z]), .un] from ?_)
        refine go_ret (ev_andB (ev_bin (ev_bin (z := .int y) (kz := .fz) (ev_var rfl) ev_con rfl) ev_con i_lt) fun _ => ev_bin (ev_bin (z := .int z) (kz := .fz) (ev_var rfl) ev_con rfl) ev_con i_lt) ?_
        unfold isSumI at hq
        rw [c2] at hq
        exact hq
    · have : (!decide (xs.length = 3) || !xs.all (fun i => decide (0 ≤ i))) = true := by
        by_cases c1 : xs.length = 3
        · cases h : xs.all (fun i => decide (0 ≤ i))
          · simp
          · exact absurd ⟨c1, h⟩ c
        · simp [c1]
      rw [this] at tt
      refine sq_ifT tt (sq (go_ret ev_con ?_))
      have : isSumI xs = false := by
        unfold isSumI
        by_cases c1 : xs.length = 3
        · cases h : xs.all (fun i => decide (0 ≤ i))
          · simp
          · exact absurd ⟨c1, h⟩ c
        · simp [c1]
      rw [this] at hq
      exact hq
/-! ### the law's own reckoning -/
def spPlain : FS := fun as q => ∃ p : Int, 0 ≤ p ∧ as = [.d (.int p)] ∧ q (c3 (pl3 p)) .fz
theorem p__law_plain (as : List VL.A) (q : D → Kd → Prop) (h : spPlain as q) : as.length = 1 ∧ t__law_plain ⟨fun _ => q .non .fz, q, fun _ => False, fun _ => False⟩ (rho0 3 as) := by
  obtain ⟨p, hp, rfl, hq⟩ := h
  refine ⟨rfl, ?_⟩
  unfold t__law_plain
  refine (show wSeq _ _ _ [.fz (.int p), .un, .un] from ?_)
  refine sq_par2 ev_con ev_con ?_
  refine (show wSeq _ _ _ [.fz (.int p), .fz (.int 0), .fz (.int 0)] from ?_)
  refine sq (go_while (fun m ρ => ∃ a : Int, ∃ r : Nat, m = r ∧ p = a * 240 + r ∧ ρ = [.fz (.int (r : Int)), .fz (.int a), .fz (.int 0)]) (m0 := p.toNat) ⟨0, p.toNat, rfl, by omega, by rw [Int.toNat_of_nonneg hp]⟩ ?_)
  rintro r _ ⟨a, _, rfl, e, rfl⟩
  refine ⟨decide ((r : Int) ≥ 240), et_test (ev_bin (ev_var rfl) ev_con i_ge), fun hb => ?_, fun hb => ?_⟩
  · have hb := of_decide_eq_true hb
    unfold t__law_plain_w1
    refine go_par2 (ev_bin (ev_var rfl) ev_con bAdd_i) (ev_bin (ev_var rfl) ev_con bSub_i) ?_
    refine ⟨r - 240, by omega, a + 1, r - 240, rfl, by omega, ?_⟩
    have : ((r - 240 : Nat) : Int) = (r : Int) - 240 := by omega
    rw [this]
    rfl
  · have hb := of_decide_eq_false hb
    refine (show t__law_plain_s2 _ _ from ?_)
    unfold t__law_plain_s2
    refine (show wSeq _ _ _ [.fz (.int (r : Int)), .fz (.int a), .fz (.int 0)] from ?_)
    refine sq (go_while (fun m ρ => ∃ b : Int, ∃ s : Nat, m = s ∧ (r : Int) = b * 12 + s ∧ ρ = [.fz (.int (s : Int)), .fz (.int a), .fz (.int b)]) (m0 := r) ⟨0, r, rfl, by omega, rfl⟩ ?_)
    rintro s _ ⟨b, _, rfl, e2, rfl⟩
    refine ⟨decide ((s : Int) ≥ 12), et_test (ev_bin (ev_var rfl) ev_con i_ge), fun hb => ?_, fun hb2 => ?_⟩
    · have hb := of_decide_eq_true hb
      unfold t__law_plain_w2
      refine go_par2 (ev_bin (ev_var rfl) ev_con bAdd_i) (ev_bin (ev_var rfl) ev_con bSub_i) ?_
      refine ⟨s - 12, by omega, b + 1, s - 12, rfl, by omega, ?_⟩
      have : ((s - 12 : Nat) : Int) = (s : Int) - 12 := by omega
      rw [this]
      rfl
    · have hb2 := of_decide_eq_false hb2
      dsimp only
      unfold t__law_plain_s1
      refine (show wRet _ _ [.fz (.int (s : Int)), .fz (.int a), .fz (.int b)] from ?_)
      refine go_ret (ev_tup (ea_consF (ev_var rfl) (ea_consF (ev_var rfl) (ea_consF (ev_var rfl) ea_nil)))) ?_
      have h1 : a = p / 240 := by omega
      have h2 : b = p / 12 % 20 := by omega
      have h3 : (s : Int) = p % 12 := by omega
      rw [h1, h2, h3]
      exact hq
end K22

namespace K22
open PySem PySem.Spec PyProof.Rows L2 VL
/-! ### signs -/
def dg (c : Nat) : Bool := decide (48 ≤ c) && decide (c ≤ 57)
theorem dg_iff {c : Nat} : dg c = true ↔ 48 ≤ c ∧ c ≤ 57 := by unfold dg; simp
def unitN (w : List Nat) : Option Nat := if w = [108, 105] then some 0 else if w = [115] then some 1 else if w = [100] then some 2 else none
theorem unit_cases {w : List Nat} {k : Nat} (h : unitN w = some k) : (k = 0 ∧ w = [108, 105]) ∨ (k = 1 ∧ w = [115]) ∨ (k = 2 ∧ w = [100]) := by
  unfold unitN at h
  split at h
  · cases h; exact .inl ⟨rfl, by assumption⟩
  · split at h
    · cases h; exact .inr (.inl ⟨rfl, by assumption⟩)
    · split at h
      · cases h; exact .inr (.inr ⟨rfl, by assumption⟩)
      · cases h
theorem unit_free {w : List Nat} {k : Nat} (h : unitN w = some k) : w.filter dg = [] ∧ (∀ c, w.head? = some c → dg c = false) := by
  rcases unit_cases h with ⟨_, rfl⟩ | ⟨_, rfl⟩ | ⟨_, rfl⟩ <;> exact ⟨by decide, fun c hc => by cases hc; decide⟩
theorem tw_app {a b : List Nat} (ha : ∀ c ∈ a, dg c = true) (hb : ∀ c, b.head? = some c → dg c = false) : (a ++ b).takeWhile dg = a ∧ (a ++ b).dropWhile dg = b := by
  have h1 : b.takeWhile dg = [] := by
    cases b with
    | nil => rfl
    | cons c r => rw [List.takeWhile_cons, hb c rfl]; rfl
  have h2 : b.dropWhile dg = b := by
    cases b with
    | nil => rfl
    | cons c r => rw [List.dropWhile_cons, hb c rfl]; rfl
  constructor
  · rw [List.takeWhile_append_of_pos ha, h1, List.append_nil]
  · rw [List.dropWhile_append_of_pos ha, h2]
def lead (p : List Nat) : List Nat := p.takeWhile dg
def tail' (p : List Nat) : List Nat := p.dropWhile dg
theorem lead_dg {p : List Nat} : ∀ c ∈ lead p, dg c = true := fun c hc => by
  unfold lead at hc
  exact List.all_eq_true.mp (List.all_takeWhile) c hc
def partR (p : List Nat) : Option (Nat × Nat) := if lead p = [] ∨ (lead p).head? = some 48 then none else (unitN (tail' p)).map fun k => (NumText.digitsVal (lead p), k)
def many (p : List Nat) : Nat := (p.filter dg).length
theorem cut_some {p : List Nat} {k : Nat} (h : unitN (p.drop (many p)) = some k) : lead p = p.take (many p) ∧ tail' p = p.drop (many p) := by
  obtain ⟨h1, h2⟩ := unit_free h
  have e : p.filter dg = (p.take (many p)).filter dg := by
    conv => lhs; rw [← List.take_append_drop (many p) p]
    rw [List.filter_append, h1, List.append_nil]
  have hl : (p.take (many p)).length ≤ many p := by rw [List.length_take]; omega
  have hf : ((p.take (many p)).filter dg).length = many p := by rw [← e]; rfl
  have hle := List.length_filter_le dg (p.take (many p))
  have ha : ∀ c ∈ p.take (many p), dg c = true := List.length_filter_eq_length_iff.mp (by omega)
  have := tw_app ha h2
  rw [List.take_append_drop] at this
  exact this
theorem cut_none {p : List Nat} (h : unitN (p.drop (many p)) = none) : unitN (tail' p) = none := by
  cases hu : unitN (tail' p) with
  | none => rfl
  | some k =>
    exfalso
    have h1 := (unit_free hu).1
    have e : many p = (lead p).length := by
      unfold many
      have e0 : p = lead p ++ tail' p := (List.takeWhile_append_dropWhile (p := dg) (l := p)).symm
      conv => lhs; rw [e0]
      rw [List.filter_append, h1, List.append_nil, List.filter_eq_self.mpr (fun c hc => lead_dg c hc)]
    rw [e] at h
    have : p.drop (lead p).length = tail' p := by
      have e0 : p = lead p ++ tail' p := (List.takeWhile_append_dropWhile (p := dg) (l := p)).symm
      generalize lead p = a at *
      generalize tail' p = b at *
      rw [e0]
      exact List.drop_left
    rw [this, hu] at h
    cases h
/-! ### the whole text -/
def rdL : Int → Nat → List Int → List (List Nat) → List Int ⊕ Nat
  | _, _, f, [] => .inl f
  | last, place, f, p :: ps => match partR p with
    | none => .inr place
    | some (n, k) => if (k : Int) ≤ last ∨ (0 < k ∧ (if k = 1 then 20 else 12) ≤ n) then .inr place else rdL k (place + p.length + 1) (f.set k n) ps
def pcs (cs : List Nat) : List (List Nat) := TL.spl [32] 0 [] cs
def rd (cs : List Nat) : List Int ⊕ Nat := if cs = [48, 100] then .inl [0, 0, 0] else rdL (-1) 0 [0, 0, 0] (pcs cs)
theorem spl_mem : ∀ (l acc : List Nat), ∀ p ∈ TL.spl [32] 0 acc l, p.length ≤ acc.length + l.length ∧ ∀ c ∈ p, c ∈ acc ∨ c ∈ l
  | [], acc, p, h => by
    unfold TL.spl at h
    rw [List.mem_singleton.mp h]
    exact ⟨by simp, fun c hc => .inl hc⟩
  | c :: r, acc, p, h => by
    unfold TL.spl at h
    split at h
    · rcases List.mem_cons.mp h with rfl | h
      · exact ⟨by simp, fun c hc => .inl hc⟩
      · obtain ⟨h1, h2⟩ := spl_mem r [] p h
        refine ⟨by simp at h1 ⊢; omega, fun d hd => .inr (List.mem_cons_of_mem _ ?_)⟩
        rcases h2 d hd with h3 | h3
        · simp at h3
        · exact h3
    · obtain ⟨h1, h2⟩ := spl_mem r (acc ++ [c]) p h
      refine ⟨by simp at h1 ⊢; omega, fun d hd => ?_⟩
      rcases h2 d hd with h3 | h3
      · rcases List.mem_append.mp h3 with h4 | h4
        · exact .inl h4
        · rw [List.mem_singleton.mp h4]; exact .inr (List.mem_cons_self ..)
      · exact .inr (List.mem_cons_of_mem _ h3)
/-- texts that are spoken of -/
def Tx (cs : List Nat) : Prop := cs.length ≤ 600 ∧ ∀ c ∈ cs, c < 256
theorem Tx.pcs {cs : List Nat} (h : Tx cs) : ∀ p ∈ pcs cs, Tx p := fun p hp => by
  obtain ⟨h1, h2⟩ := spl_mem cs [] p hp
  refine ⟨by have := h.1; simp at h1; omega, fun c hc => ?_⟩
  rcases h2 c hc with h3 | h3
  · simp at h3
  · exact h.2 c h3
theorem Tx.take {cs : List Nat} (h : Tx cs) (n : Nat) : Tx (cs.take n) := ⟨by have := h.1; rw [List.length_take]; omega, fun c hc => h.2 c (List.mem_of_mem_take hc)⟩
theorem Tx.drop {cs : List Nat} (h : Tx cs) (n : Nat) : Tx (cs.drop n) := ⟨by have := h.1; rw [List.length_drop]; omega, fun c hc => h.2 c (List.mem_of_mem_drop hc)⟩
theorem Tx.cps {cs : List Nat} (h : Tx cs) : (SX.S cs).cps.all (· < 0x110000) = true := by
  rw [← Array.all_toList]
  refine List.all_eq_true.mpr fun c hc => decide_eq_true ?_
  have := h.2 c hc
  omega
theorem Tx.lim {cs : List Nat} (h : Tx cs) : cs.length ≤ LIM := by have := h.1; simp only [LIM]; omega
/-! ### readings of texts -/
theorem eqS {a b : List Nat} (ha : Tx a) (hb : Tx b) : bEq (.str (SX.S a)) (.str (SX.S b)) = some (.bl (decide (a = b)), .fz) := bEq_str ha.cps hb.cps SX.S_beq_eq
theorem neS {a b : List Nat} (ha : Tx a) (hb : Tx b) : bNe (.str (SX.S a)) (.str (SX.S b)) = some (.bl (!decide (a = b)), .fz) := bNe_str ha.cps hb.cps SX.S_beq_eq
theorem digits_tl : ("0123456789" : Str).cps.toList = [48, 49, 50, 51, 52, 53, 54, 55, 56, 57] := by decide +kernel
theorem inDg (c : Nat) : bIn (.str (SX.S [c])) (.str "0123456789") = some (.bl (dg c), .fz) := by
  show (some (decide (c ∈ ("0123456789" : Str).cps.toList))).bind (fun c => ozB c) = _
  rw [digits_tl]
  have : decide (c ∈ [48, 49, 50, 51, 52, 53, 54, 55, 56, 57]) = dg c := by
    rw [Bool.eq_iff_iff, decide_eq_true_iff, dg_iff]
    simp
    omega
  rw [this]; rfl
theorem s_nil : ("" : Str) = SX.S [] := by decide +kernel
theorem s_0 : ("0" : Str) = SX.S [48] := by decide +kernel
theorem s_0d : ("0d" : Str) = SX.S [48, 100] := by decide +kernel
theorem s_li : ("li" : Str) = SX.S [108, 105] := by decide +kernel
theorem s_s : ("s" : Str) = SX.S [115] := by decide +kernel
theorem s_d : ("d" : Str) = SX.S [100] := by decide +kernel
theorem s_sp : (" " : Str) = SX.S [32] := by decide +kernel
theorem tx_small {cs : List Nat} (h : cs.length ≤ 600 := by decide) (h' : ∀ c ∈ cs, c < 256 := by decide) : Tx cs := ⟨h, h'⟩
def wordsD (j : Nat) : List D := ([.str "li", .str "s", .str "d"] : List D).drop j
def inW (w : List Nat) (j : Nat) : Bool := match unitN w with
  | some k => decide (j ≤ k)
  | none => false
theorem eqv_S {a b : List Nat} : eqv (.str (SX.S a)) (.str (SX.S b)) = decide (a = b) := by
  show (SX.S a == SX.S b) = _
  exact SX.S_beq_eq
theorem wd_okE (j : Nat) (hj : j ≤ 3) : okEs 19 (wordsD j) = true := by
  obtain rfl | rfl | rfl | rfl : j = 0 ∨ j = 1 ∨ j = 2 ∨ j = 3 := by omega
  all_goals decide +kernel
theorem wd_any (w : List Nat) (j : Nat) (hj : j ≤ 3) : ((wordsD j).any fun z => eqv z (.str (SX.S w))) = inW w j := by
  unfold wordsD inW
  rw [s_li, s_s, s_d]
  by_cases h0 : w = [108, 105]
  · subst h0
    obtain rfl | rfl | rfl | rfl : j = 0 ∨ j = 1 ∨ j = 2 ∨ j = 3 := by omega
    all_goals decide +kernel
  · by_cases h1 : w = [115]
    · subst h1
      obtain rfl | rfl | rfl | rfl : j = 0 ∨ j = 1 ∨ j = 2 ∨ j = 3 := by omega
      all_goals decide +kernel
    · by_cases h2 : w = [100]
      · subst h2
        obtain rfl | rfl | rfl | rfl : j = 0 ∨ j = 1 ∨ j = 2 ∨ j = 3 := by omega
        all_goals decide +kernel
      · have hu : unitN w = none := by unfold unitN; rw [if_neg h0, if_neg h1, if_neg h2]
        rw [hu, List.any_eq_false]
        intro z hz
        have hz := List.mem_of_mem_drop hz
        simp only [List.mem_cons, List.not_mem_nil, or_false] at hz
        rcases hz with rfl | rfl | rfl <;> rw [eqv_S] <;> simp [Ne.symm h0, Ne.symm h1, Ne.symm h2]
theorem okS {w : List Nat} (h : Tx w) : okE 20 (.str (SX.S w)) = true := by
  have := h.cps
  simpa [okE] using this
theorem notinL {w : List Nat} (h : Tx w) (j : Nat) (hj : j ≤ 3) : bNotIn (.str (SX.S w)) (.lst (wordsD j)) = some (.bl (!inW w j), .fz) := by
  show (if okE 20 (.str (SX.S w)) = true ∧ okE 20 (.lst (wordsD j)) = true then some ((wordsD j).any fun z => eqv z (.str (SX.S w))) else none).bind _ = _
  rw [if_pos ⟨okS h, by rw [okE_lst]; exact wd_okE j hj⟩, wd_any w j hj]
  rfl
theorem notinW {w : List Nat} (h : Tx w) : bNotIn (.str (SX.S w)) d_WORDS = some (.bl (!inW w 0), .fz) := by
  show (if okE 20 (.str (SX.S w)) = true ∧ okE 20 (.ft (wordsD 0)) = true then some ((wordsD 0).any fun z => eqv z (.str (SX.S w))) else none).bind _ = _
  rw [if_pos ⟨okS h, by
    have := wd_okE 0 (by omega)
    simpa [okE] using this⟩, wd_any w 0 (by omega)]
  rfl
theorem unit_ix {w : List Nat} {k : Nat} (h : unitN w = some k) : SX.S w ∈ (["li", "s", "d"] : List Str) ∧ (["li", "s", "d"] : List Str).idxOf (SX.S w) = k := by
  rcases unit_cases h with ⟨rfl, rfl⟩ | ⟨rfl, rfl⟩ | ⟨rfl, rfl⟩
  · rw [← s_li]; exact ⟨by simp, by decide +kernel⟩
  · rw [← s_s]; exact ⟨by simp, by decide +kernel⟩
  · rw [← s_d]; exact ⟨by simp, by decide +kernel⟩
end K22

namespace K22
open PySem PySem.Spec PyProof.Rows L2 VL
def one (c : Nat) : D := .str (SX.S [c])
theorem signs_S (p : List Nat) : signsD (SX.S p) = p.map one := by
  unfold signsD
  rfl
theorem ei_signs {w : WE} {ρ : Rho} {p : List Nat} {k : Kd} (h : Ev w ρ (.str (SX.S p)) k) : Ei (wiSO w) ρ (p.map one) := fun Q q => h _ (by
  show Q (signsD (SX.S p)) ρ
  rw [signs_S]; exact q)
def partD : Option (Nat × Nat) → D
  | none => .non
  | some (n, k) => .tup [.int (n : Int), .int (k : Int)]
def spPart : FS := fun as q => ∃ p, Tx p ∧ as = [.d (.str (SX.S p))] ∧ q (partD (partR p)) .fz
theorem ad_lead (p : List Nat) : NumText.AllDigits (lead p) := fun c hc => dg_iff.mp (lead_dg c hc)
theorem ev_txt {ρ : Rho} {i : Nat} {cs : List Nat} (h : ρ[i]? = some (.fz (.str (SX.S cs)))) : Ev (wVar i) ρ (.str (SX.S cs)) .fz := ev_var h
theorem head0 {cs : List Nat} {ρ : Rho} {i : Nat} (h : Tx cs) (hv : ρ[i]? = some (.fz (.str (SX.S cs)))) (hne : cs ≠ []) : Ev (wBin bEq (wBin bSubs (wVar i) (wCon (.int 0))) (wCon (.str "0"))) ρ (.bl (decide (cs.head? = some 48))) .fz := by
  cases cs with
  | nil => exact absurd rfl hne
  | cons c r =>
    have e := eqS (a := [c]) (b := [48]) ⟨by simp, fun d hd => by rw [List.mem_singleton.mp hd]; exact h.2 c (List.mem_cons_self ..)⟩ tx_small
    rw [← s_0] at e
    have := ev_bin (ρ := ρ) (ev_bin (ev_var hv) (ev_con (d := .int 0)) (ixS (k := 0) h.lim rfl)) (ev_con (d := .str "0")) e
    have e2 : decide ([c] = [48]) = decide ((c :: r).head? = some 48) := decide_eq_decide.mpr (by simp)
    rw [e2] at this
    exact this
theorem p_part_of (as : List VL.A) (q : D → Kd → Prop) (h : spPart as q) : as.length = 1 ∧ t_part_of ⟨fun _ => q .non .fz, q, fun _ => False, fun _ => False⟩ (rho0 5 as) := by
  obtain ⟨p, hp, rfl, hq⟩ := h
  refine ⟨rfl, ?_⟩
  unfold t_part_of
  refine (show wSeq _ _ _ [.fz (.str (SX.S p)), .un, .un, .un, .un] from ?_)
  have e := ev_comp1 (ρ := [.fz (.str (SX.S p)), .un, .un, .un, .un]) (wi := wiSO (wVar 0)) (i := 2) (tt := t_part_of_i1) (t := wVar 2) (k := .fz) one dg one p (ei_signs (ev_var rfl)) hp.lim (fun c _ => by
    unfold t_part_of_i1
    exact et_test (ev_bin (ev_var rfl) ev_con (inDg c))) (fun c _ _ => ev_var rfl)
  have e2 := ev_lenL e
  refine sq_asg e2 ?_
  have em : (((p.filter dg).length : Nat) : Int) = ((many p : Nat) : Int) := rfl
  rw [em]
  refine (show wSeq _ _ _ [.fz (.str (SX.S p)), .fz (.int (many p : Int)), .un, .un, .un] from ?_)
  refine sq_par2 (ev_slE (ev_var rfl) (ev_var rfl) (slS_to hp.lim)) (ev_slB (ev_var rfl) (ev_var rfl) (slS_from hp.lim)) ?_
  refine (show wSeq _ _ _ [.fz (.str (SX.S p)), .fz (.int (many p : Int)), .un, .fz (.str (SX.S (p.take (many p)))), .fz (.str (SX.S (p.drop (many p))))] from ?_)
  have hd := hp.take (many p)
  have hw := hp.drop (many p)
  have t1 : Et (wTest (wBin bNotIn (wVar 4) (wCon d_WORDS))) [.fz (.str (SX.S p)), .fz (.int (many p : Int)), .un, .fz (.str (SX.S (p.take (many p)))), .fz (.str (SX.S (p.drop (many p))))] (!inW (p.drop (many p)) 0) := et_test (ev_bin (ev_var rfl) ev_con (notinW hw))
  have t2 : Et (wTest (wBin bEq (wVar 3) (wCon (.str "")))) [.fz (.str (SX.S p)), .fz (.int (many p : Int)), .un, .fz (.str (SX.S (p.take (many p)))), .fz (.str (SX.S (p.drop (many p))))] (decide (p.take (many p) = [])) := et_test (ev_bin (ev_var rfl) ev_con (by rw [s_nil]; exact eqS hd tx_small))
  cases hu : unitN (p.drop (many p)) with
  | none =>
    have hi : inW (p.drop (many p)) 0 = false := by unfold inW; rw [hu]
    rw [hi] at t1
    refine sq_ifT (et_or (b := true) (b' := false) t1 (fun z => by cases z)) (sq (go_ret ev_con ?_))
    have : partR p = none := by
      unfold partR
      split
      · rfl
      · rw [cut_none hu]; rfl
    rw [this] at hq
    exact hq
  | some k =>
    have hi : inW (p.drop (many p)) 0 = true := by unfold inW; rw [hu]; simp
    rw [hi] at t1
    obtain ⟨c1, c2⟩ := cut_some hu
    have ad := ad_lead p
    have ur : unitN (tail' p) = some k := by rw [c2]; exact hu
    have hpr : partR p = if lead p = [] ∨ (lead p).head? = some 48 then none else some (NumText.digitsVal (lead p), k) := by unfold partR; rw [ur]; rfl
    rw [hpr] at hq
    rw [← c1] at t1 t2 hd ⊢
    by_cases h0 : lead p = []
    · rw [decide_eq_true h0] at t2
      refine sq_ifT (et_or t1 (fun _ => et_or (b := true) (b' := false) t2 (fun z => by cases z))) (sq (go_ret ev_con ?_))
      rw [if_pos (.inl h0)] at hq
      exact hq
    · rw [decide_eq_false h0] at t2
      have t3 : Et (wTest (wBin bEq (wBin bSubs (wVar 3) (wCon (.int 0))) (wCon (.str "0")))) [.fz (.str (SX.S p)), .fz (.int (many p : Int)), .un, .fz (.str (SX.S (lead p))), .fz (.str (SX.S (p.drop (many p))))] _ := et_test (head0 hd rfl h0)
      have tt := et_or t1 (fun _ => et_or t2 (fun _ => t3))
      by_cases h8 : (lead p).head? = some 48
      · rw [decide_eq_true h8] at tt
        refine sq_ifT tt (sq (go_ret ev_con ?_))
        rw [if_pos (.inr h8)] at hq
        exact hq
      · rw [decide_eq_false h8] at tt
        refine sq_skip tt ?_
        unfold t_part_of_s1
        have ix := unit_ix hu
        refine go_ret (ev_tup (ea_consF (ev_cl (ea_cons (ev_txt rfl) ea_nil) (intS ad h0 (by have := hd.1; omega))) (ea_consF (d := .int (k : Int)) (k := .fz) (fun Q q => ev_txt (cs := p.drop (many p)) rfl _ ⟨ix.1, by rw [ix.2]; exact q⟩) ea_nil))) ?_
        rw [if_neg (by rintro (z | z); exact h0 z; exact h8 z)] at hq
        exact hq
/-! ### parse_sum -/
def fD (f : List Int) : D := .lst (f.map .int)
theorem lput_at {f : List Int} {k n : Nat} (h : k < f.length) : lputD (fD f) (.int (k : Int)) (.int (n : Int)) = some (fD (f.set k (n : Int))) := by
  show (ixN (f.map D.int).length (k : Int)).map (fun j => D.lst ((f.map .int).set j (.int (n : Int)))) = _
  have : ixN (f.map D.int).length (k : Int) = some k := by
    rw [List.length_map]
    unfold ixN
    simp [h]
  rw [this]
  show some (D.lst ((f.map .int).set k (.int (n : Int)))) = some (.lst ((f.set k (n : Int)).map .int))
  rw [List.map_set]
theorem part_lt {p : List Nat} {n k : Nat} (h : partR p = some (n, k)) : k ≤ 2 := by
  unfold partR at h
  split at h
  · cases h
  · cases hu : unitN (tail' p) with
    | none => rw [hu] at h; cases h
    | some j =>
      rw [hu] at h; cases h
      rcases unit_cases hu with ⟨h, _⟩ | ⟨h, _⟩ | ⟨h, _⟩ <;> omega
def outX (q : D → Kd → Prop) (x : D → Prop) : List Int ⊕ Nat → Prop
  | .inl f => q (.tup (f.map .int)) .fz
  | .inr n => x (.int (n : Int))
def spParse : FSX := fun as q x => ∃ cs, Tx cs ∧ as = [.d (.str (SX.S cs))] ∧ outX q x (rd cs)
theorem parse_loop {cs : List Nat} {q : D → Kd → Prop} {x : D → Prop} {P : PEnds} {tb : WS}
    (htb : tb = (wSeq (wAsg 5 (wCall spPart (xCons (wVar 4) xNil)))
  (wSeq (wIf (wOr (wTest (wBin bIs (wVar 5) (wCon .non))) (wOr (wTest (wBin bLeD (wBin bSubs (wVar 5) (wCon (.int 1))) (wVar 3))) (wAnd (wTest (wBin bGtD (wBin bSubs (wVar 5) (wCon (.int 1))) (wCon (.int 0)))) (wTest (wBin bGeD (wBin bSubs (wVar 5) (wCon (.int 0))) (wIfE (wTest (wBin bEq (wBin bSubs (wVar 5) (wCon (.int 1))) (wCon (.int 1)))) (wCon (.int 20)) (wCon (.int 12)))))))) (wRaise false (wVar 2) (fun a _ => x a)) wNext)
  (wSeq (wAsgS 2 (gsPut 1 (wBin bSubs (wVar 5) (wCon (.int 1))) (gsName 3 gsNil)) (wTup (wConsF (wBin bSubs (wVar 5) (wCon (.int 0))) (wConsF (wBin bSubs (wVar 5) (wCon (.int 1))) wNil))))
  (wAugI 2 (wBin bAdd (wCl cLen (wCons (wVar 4) wNil)) (wCon (.int 1))))))))
    (hP : ∀ (f : List Int) x2 x3 x4 x5, q (.tup (f.map .int)) .fz → P.nx [.fz (.str (SX.S cs)), .ow (fD f), x2, x3, x4, x5]) :
    ∀ (ps : List (List Nat)) (last : Int) (place : Nat) (f : List Int) (x4 x5 : Slot), (∀ p ∈ ps, Tx p) → f.length = 3 → outX q x (rdL last place f ps) → wLoop (wgName 4) tb P (ps.map fun p => .str (SX.S p)) [.fz (.str (SX.S cs)), .ow (fD f), .fz (.int (place : Int)), .fz (.int last), x4, x5]
  | [], last, place, f, x4, x5, _, _, h => hP _ _ _ _ _ h
  | p :: ps, last, place, f, x4, x5, ht, hf, h => by
    have hp := ht p (List.mem_cons_self ..)
    refine (show tb _ [.fz (.str (SX.S cs)), .ow (fD f), .fz (.int (place : Int)), .fz (.int last), .fz (.str (SX.S p)), x5] from ?_)
    rw [htb]
    refine sq_asg (ev_call (k := .fz) (ex_cons (ev_var rfl) ex_nil) fun q hq => ⟨p, hp, rfl, hq⟩) ?_
    refine (show wSeq _ _ _ [.fz (.str (SX.S cs)), .ow (fD f), .fz (.int (place : Int)), .fz (.int last), .fz (.str (SX.S p)), .fz (partD (partR p))] from ?_)
    cases hr : partR p with
    | none =>
      unfold rdL at h
      rw [hr] at h
      refine sq_ifT (et_or (b := true) (b' := false) (et_test (ev_bin (ev_var rfl) ev_con (bIs_e (d := .non)))) (fun z => by cases z)) ?_
      exact ⟨rfl, rfl, h⟩
    | some nk =>
      obtain ⟨n, k⟩ := nk
      have hk := part_lt hr
      unfold rdL at h
      rw [hr] at h
      dsimp only at h
      refine (show wSeq _ _ _ [.fz (.str (SX.S cs)), .ow (fD f), .fz (.int (place : Int)), .fz (.int last), .fz (.str (SX.S p)), .fz (.tup [.int (n : Int), .int (k : Int)])] from ?_)
      have e0 : Ev (wBin bSubs (wVar 5) (wCon (.int 0))) [.fz (.str (SX.S cs)), .ow (fD f), .fz (.int (place : Int)), .fz (.int last), .fz (.str (SX.S p)), .fz (.tup [.int (n : Int), .int (k : Int)])] (.int (n : Int)) .fz := ev_bin (ev_var rfl) ev_con rfl
      have e1 : Ev (wBin bSubs (wVar 5) (wCon (.int 1))) [.fz (.str (SX.S cs)), .ow (fD f), .fz (.int (place : Int)), .fz (.int last), .fz (.str (SX.S p)), .fz (.tup [.int (n : Int), .int (k : Int)])] (.int (k : Int)) .fz := ev_bin (ev_var rfl) ev_con rfl
      have tI : Ev (wIfE (wTest (wBin bEq (wBin bSubs (wVar 5) (wCon (.int 1))) (wCon (.int 1)))) (wCon (.int 20)) (wCon (.int 12))) [.fz (.str (SX.S cs)), .ow (fD f), .fz (.int (place : Int)), .fz (.int last), .fz (.str (SX.S p)), .fz (.tup [.int (n : Int), .int (k : Int)])] (.int (if k = 1 then 20 else 12)) .fz := by
        by_cases c : k = 1
        · rw [if_pos c]; exact ev_ifT (et_test (b := true) (ev_bin e1 ev_con (by rw [bEq_i, decide_eq_true (by omega)]))) ev_con
        · rw [if_neg c]; exact ev_ifF (et_test (b := false) (ev_bin e1 ev_con (by rw [bEq_i, decide_eq_false (by omega)]))) ev_con
      have tt := et_or (et_test (ev_bin (ev_var (d := .tup [.int (n : Int), .int (k : Int)]) (i := 5) (ρ := [.fz (.str (SX.S cs)), .ow (fD f), .fz (.int (place : Int)), .fz (.int last), .fz (.str (SX.S p)), .fz (.tup [.int (n : Int), .int (k : Int)])]) rfl) ev_con (bIs_e (d := .tup [.int (n : Int), .int (k : Int)]))))
        (fun _ => et_or (et_test (ev_bin e1 (ev_var (i := 3) (d := .int last) rfl) i_le)) (fun _ => et_and (et_test (ev_bin e1 (ev_con (d := .int 0)) i_gt)) (fun _ => et_test (ev_bin e0 tI i_ge))))
      by_cases c : (k : Int) ≤ last ∨ (0 < k ∧ (if k = 1 then 20 else 12) ≤ n)
      · rw [if_pos c] at h
        refine sq_ifT (c := _) (by
          have : (isNonD (.tup [.int (n : Int), .int (k : Int)]) || (decide ((k : Int) ≤ last) || (decide ((k : Int) > 0) && decide ((n : Int) ≥ (if k = 1 then 20 else 12))))) = true := by
            rcases c with c | ⟨c1, c2⟩
            · rw [decide_eq_true c]; simp
            · rw [decide_eq_true (show (k : Int) > 0 by omega), decide_eq_true (show (n : Int) ≥ (if k = 1 then 20 else 12) by split at c2 <;> simp_all <;> omega)]; simp
          rw [this] at tt
          exact tt) ?_
        exact ⟨rfl, rfl, h⟩
      · rw [if_neg c] at h
        refine sq_skip (c := _) (by
          have : (isNonD (.tup [.int (n : Int), .int (k : Int)]) || (decide ((k : Int) ≤ last) || (decide ((k : Int) > 0) && decide ((n : Int) ≥ (if k = 1 then 20 else 12))))) = false := by
            have c1 : ¬ (k : Int) ≤ last := fun z => c (.inl z)
            rw [decide_eq_false c1]
            show (false || (false || _)) = false
            by_cases c2 : 0 < k
            · have c3 : ¬ (if k = 1 then 20 else 12) ≤ n := fun z => c (.inr ⟨c2, z⟩)
              rw [decide_eq_false (show ¬ (n : Int) ≥ (if k = 1 then 20 else 12) by split at c3 <;> simp_all <;> omega)]; simp
            · rw [decide_eq_false (show ¬ (k : Int) > 0 by omega)]; simp
          rw [this] at tt
          exact tt) ?_
        refine sq_put2 (ev_tup (ea_consF e0 (ea_consF e1 ea_nil))) rfl e1 (lput_at (by omega)) ?_
        refine go_augI rfl (ev_bin (ev_cl (ea_cons (ev_txt rfl) ea_nil) (lenS hp.lim)) ev_con bAdd_i) ?_
        have ih := parse_loop htb hP ps k (place + p.length + 1) (f.set k n) (.fz (.str (SX.S p))) (.fz (.tup [.int (n : Int), .int (k : Int)])) (fun p hp => ht p (List.mem_cons_of_mem _ hp)) (by rw [List.length_set]; exact hf) h
        have ea : ((place : Int) + (((p.length : Nat) : Int) + 1)) = ((place + p.length + 1 : Nat) : Int) := by omega
        rw [ea]
        rw [htb] at ih
        exact ih
theorem p_parse_sum (as : List VL.A) (q : D → Kd → Prop) (x : D → Prop) (h : spParse as q x) : as.length = 1 ∧ t_parse_sum spPart (fun a _ => x a) ⟨fun _ => q .non .fz, q, fun _ => False, fun _ => False⟩ (rho0 6 as) := by
  obtain ⟨cs, hc, rfl, hq⟩ := h
  refine ⟨rfl, ?_⟩
  unfold t_parse_sum
  refine (show wSeq _ _ _ [.fz (.str (SX.S cs)), .un, .un, .un, .un, .un] from ?_)
  have t1 : Et (wTest (wBin bEq (wVar 0) (wCon (.str "0d")))) [.fz (.str (SX.S cs)), .un, .un, .un, .un, .un] (decide (cs = [48, 100])) := et_test (ev_bin (ev_var rfl) ev_con (by rw [s_0d]; exact eqS hc tx_small))
  unfold rd at hq
  by_cases c : cs = [48, 100]
  · rw [if_pos c] at hq
    rw [decide_eq_true c] at t1
    exact sq_ifT t1 (sq (go_ret (ev_tup (ea_consF ev_con (ea_consF ev_con (ea_consF ev_con ea_nil)))) hq))
  · rw [if_neg c] at hq
    rw [decide_eq_false c] at t1
    refine sq_skip t1 ?_
    refine sq_parNMM (ev_lst (ea_consF ev_con (ea_consF ev_con (ea_consF ev_con ea_nil)))) ev_con (ev_un ev_con uNeg_i) ?_
    refine (show wSeq _ _ _ [.fz (.str (SX.S cs)), .ow (fD [0, 0, 0]), .fz (.int ((0 : Nat) : Int)), .fz (.int (-1)), .un, .un] from ?_)
    refine sq (go_for (ei_split (sep := [32]) (ev_var rfl) (by rw [s_sp]; exact ev_con) (by simp) (by decide) (by have := hc.1; omega)) ?_)
    refine parse_loop rfl (fun f x2 x3 x4 x5 hf => ?_) (pcs cs) (-1) 0 [0, 0, 0] .un .un hc.pcs rfl hq
    dsimp only
    exact go_ret (ev_cl (ea_cons (ev_own rfl) ea_nil) cTup_l) hf
end K22

namespace K22
open PySem PySem.Spec PyProof.Rows L2 VL
theorem slT_from {l : List D} {k : Nat} : dSlice (.tup l) (some (k : Int)) none = some (.tup (l.drop k), .fz) := by
  show some (D.tup (VL.cutD l (some (k : Int)) none), Kd.fz) = _
  have : VL.cutD l (some (k : Int)) none = l.drop k := by
    unfold VL.cutD
    rw [HT.sIx_none, HT.sIx_nat, drop_min]
  rw [this]
def outR (q : D → Kd → Prop) : List Int ⊕ Nat → Prop
  | .inl f => q (.tup [.bl true, .tup (f.map .int)]) .fz
  | .inr n => q (.tup [.bl false, .int (n : Int)]) .fz
def spRead : FS := fun as q => ∃ cs, Tx cs ∧ as = [.d (.str (SX.S cs))] ∧ outR q (rd cs)
def IsW (x : Slot) (j : Nat) : Prop := x = .ow (.lst (wordsD j)) ∨ x = .fz (.lst (wordsD j))
theorem ev_W {ρ : Rho} {i : Nat} {x : Slot} {j : Nat} (h : ρ[i]? = some x) (hx : IsW x j) : ∃ k, Ev (wVar i) ρ (.lst (wordsD j)) k := by
  rcases hx with rfl | rfl
  · exact ⟨_, ev_own h⟩
  · exact ⟨_, ev_var h⟩
theorem rdL_none {p : List Nat} {last : Int} {place : Nat} {f : List Int} {ps : List (List Nat)} (h : partR p = none) : rdL last place f (p :: ps) = .inr place := by
  unfold rdL; rw [h]
theorem rdL_bad {p : List Nat} {last : Int} {place : Nat} {f : List Int} {ps : List (List Nat)} {n k : Nat} (h : partR p = some (n, k)) (c : (k : Int) ≤ last ∨ (0 < k ∧ (if k = 1 then 20 else 12) ≤ n)) : rdL last place f (p :: ps) = .inr place := by
  unfold rdL; rw [h]; exact if_pos c
theorem rdL_step {p : List Nat} {last : Int} {place : Nat} {f : List Int} {ps : List (List Nat)} {n k : Nat} (h : partR p = some (n, k)) (c : ¬ ((k : Int) ≤ last ∨ (0 < k ∧ (if k = 1 then 20 else 12) ≤ n))) : rdL last place f (p :: ps) = rdL k (place + p.length + 1) (f.set k n) ps := by
  conv => lhs; unfold rdL
  rw [h]; exact if_neg c
theorem read_loop {cs : List Nat} {q : D → Kd → Prop} {P : PEnds} (hrt : P.rt = q)
    (hP : ∀ (f : List Int) x2 x3 x4 x5 x6 x7 x8, q (.tup [.bl true, .tup (f.map .int)]) .fz → P.nx [.fz (.str (SX.S cs)), .ow (fD f), x2, x3, x4, x5, x6, x7, x8]) :
    ∀ (ps : List (List Nat)) (j : Nat) (place : Nat) (f : List Int) (x3 x4 x5 x6 x7 x8 : Slot), j ≤ 3 → IsW x3 j → (∀ p ∈ ps, Tx p) → f.length = 3 → outR q (rdL ((j : Int) - 1) place f ps) → wLoop (wgName 4) t__law_read_f1 P (ps.map fun p => .str (SX.S p)) [.fz (.str (SX.S cs)), .ow (fD f), .fz (.int (place : Int)), x3, x4, x5, x6, x7, x8]
  | [], j, place, f, x3, x4, x5, x6, x7, x8, _, _, _, _, h => hP _ _ _ _ _ _ _ _ h
  | p :: ps, j, place, f, x3, x4, x5, x6, x7, x8, hj, hx, ht, hf, h => by
    have hp := ht p (List.mem_cons_self ..)
    refine (show t__law_read_f1 ⟨wLoop (wgName 4) t__law_read_f1 P (ps.map fun p => .str (SX.S p)), P.rt, P.nx, wLoop (wgName 4) t__law_read_f1 P (ps.map fun p => .str (SX.S p))⟩ [.fz (.str (SX.S cs)), .ow (fD f), .fz (.int (place : Int)), x3, .fz (.str (SX.S p)), x5, x6, x7, x8] from ?_)
    unfold t__law_read_f1
    refine sq_asg ev_con ?_
    refine sq (go_while (fun m ρ => ∃ i : Nat, m = p.length - i ∧ i ≤ p.length ∧ (∀ c ∈ p.take i, dg c = true) ∧ ρ = [.fz (.str (SX.S cs)), .ow (fD f), .fz (.int (place : Int)), x3, .fz (.str (SX.S p)), .fz (.str (SX.S (p.take i))), x6, x7, x8]) (m0 := p.length) ⟨0, by omega, by omega, by simp, by rw [s_nil]; rfl⟩ ?_)
    rintro _ _ ⟨i, rfl, hi, hd, rfl⟩
    have hti : (p.take i).length = i := by rw [List.length_take]; omega
    have l5 : Ev (wCl cLen (wCons (wVar 5) wNil)) [.fz (.str (SX.S cs)), .ow (fD f), .fz (.int (place : Int)), x3, .fz (.str (SX.S p)), .fz (.str (SX.S (p.take i))), x6, x7, x8] (.int (i : Int)) .fz := by
      have := ev_cl (ρ := [.fz (.str (SX.S cs)), .ow (fD f), .fz (.int (place : Int)), x3, .fz (.str (SX.S p)), .fz (.str (SX.S (p.take i))), x6, x7, x8]) (ea_cons (ev_txt (i := 5) rfl) ea_nil) (lenS (hp.take i).lim)
      rw [hti] at this
      exact this
    have l4 : Ev (wCl cLen (wCons (wVar 4) wNil)) [.fz (.str (SX.S cs)), .ow (fD f), .fz (.int (place : Int)), x3, .fz (.str (SX.S p)), .fz (.str (SX.S (p.take i))), x6, x7, x8] (.int (p.length : Int)) .fz := ev_cl (ea_cons (ev_txt rfl) ea_nil) (lenS hp.lim)
    have t1 := et_test (ev_bin l5 l4 i_lt)
    have fin : (∀ c, (p.drop i).head? = some c → dg c = false) → t__law_read_s3 ⟨wLoop (wgName 4) t__law_read_f1 P (ps.map fun p => .str (SX.S p)), P.rt, P.nx, wLoop (wgName 4) t__law_read_f1 P (ps.map fun p => .str (SX.S p))⟩ [.fz (.str (SX.S cs)), .ow (fD f), .fz (.int (place : Int)), x3, .fz (.str (SX.S p)), .fz (.str (SX.S (p.take i))), x6, x7, x8] := fun hh => by
      have tw := tw_app hd hh
      rw [List.take_append_drop] at tw
      have e1 : p.take i = lead p := tw.1.symm
      have e2 : p.drop i = tail' p := tw.2.symm
      have ad := ad_lead p
      have hw := hp.drop i
      have hdg := hp.take i
      unfold t__law_read_s3
      refine sq_asg (ev_slB (ev_var rfl) l5 (slS_from hp.lim)) ?_
      rw [e2] at hw ⊢
      rw [e1] at hdg ⊢
      refine (show wSeq _ _ _ [.fz (.str (SX.S cs)), .ow (fD f), .fz (.int (place : Int)), x3, .fz (.str (SX.S p)), .fz (.str (SX.S (lead p))), .fz (.str (SX.S (tail' p))), x7, x8] from ?_)
      have t2 : Et (wTest (wBin bEq (wVar 5) (wCon (.str "")))) [.fz (.str (SX.S cs)), .ow (fD f), .fz (.int (place : Int)), x3, .fz (.str (SX.S p)), .fz (.str (SX.S (lead p))), .fz (.str (SX.S (tail' p))), x7, x8] (decide (lead p = [])) := et_test (ev_bin (ev_var rfl) ev_con (by rw [s_nil]; exact eqS hdg tx_small))
      obtain ⟨kw, evw⟩ := ev_W (ρ := [.fz (.str (SX.S cs)), .ow (fD f), .fz (.int (place : Int)), x3, .fz (.str (SX.S p)), .fz (.str (SX.S (lead p))), .fz (.str (SX.S (tail' p))), x7, x8]) (i := 3) rfl hx
      have t4 : Et (wTest (wBin bNotIn (wVar 6) (wVar 3))) [.fz (.str (SX.S cs)), .ow (fD f), .fz (.int (place : Int)), x3, .fz (.str (SX.S p)), .fz (.str (SX.S (lead p))), .fz (.str (SX.S (tail' p))), x7, x8] (!inW (tail' p) j) := et_test (ev_bin (ev_var rfl) evw (notinL hw j hj))
      have bad : rdL ((j : Int) - 1) place f (p :: ps) = .inr place → wSeq (wRet (wTup (wConsF (wCon (.bl false)) (wConsF (wVar 2) wNil)))) t__law_read_s2 ⟨wLoop (wgName 4) t__law_read_f1 P (ps.map fun p => .str (SX.S p)), P.rt, P.nx, wLoop (wgName 4) t__law_read_f1 P (ps.map fun p => .str (SX.S p))⟩ [.fz (.str (SX.S cs)), .ow (fD f), .fz (.int (place : Int)), x3, .fz (.str (SX.S p)), .fz (.str (SX.S (lead p))), .fz (.str (SX.S (tail' p))), x7, x8] := fun e => by
        rw [e] at h
        refine sq (go_ret (ev_tup (ea_consF ev_con (ea_consF (ev_var rfl) ea_nil))) ?_)
        rw [hrt]; exact h
      by_cases h0 : lead p = []
      · rw [decide_eq_true h0] at t2
        exact sq_ifT (et_or (b := true) (b' := false) t2 (fun z => by cases z)) (bad (rdL_none (by unfold partR; rw [if_pos (.inl h0)])))
      · rw [decide_eq_false h0] at t2
        have t3 : Et (wTest (wBin bEq (wBin bSubs (wVar 5) (wCon (.int 0))) (wCon (.str "0")))) [.fz (.str (SX.S cs)), .ow (fD f), .fz (.int (place : Int)), x3, .fz (.str (SX.S p)), .fz (.str (SX.S (lead p))), .fz (.str (SX.S (tail' p))), x7, x8] _ := et_test (head0 hdg rfl h0)
        by_cases h8 : (lead p).head? = some 48
        · rw [decide_eq_true h8] at t3
          exact sq_ifT (et_or t2 (fun _ => et_or (b := true) (b' := false) t3 (fun z => by cases z))) (bad (rdL_none (by unfold partR; rw [if_pos (.inr h8)])))
        · rw [decide_eq_false h8] at t3
          have tt := et_or t2 (fun _ => et_or t3 (fun _ => t4))
          have hpr : partR p = (unitN (tail' p)).map fun k => (NumText.digitsVal (lead p), k) := by unfold partR; rw [if_neg (by rintro (z | z); exact h0 z; exact h8 z)]
          cases hu : unitN (tail' p) with
          | none =>
            have hi : inW (tail' p) j = false := by unfold inW; rw [hu]
            rw [hi] at tt
            exact sq_ifT tt (bad (rdL_none (by rw [hpr, hu]; rfl)))
          | some k =>
            rw [hu] at hpr
            have hpr : partR p = some (NumText.digitsVal (lead p), k) := hpr
            have hk := part_lt hpr
            have hi : inW (tail' p) j = decide (j ≤ k) := by unfold inW; rw [hu]
            rw [hi] at tt
            by_cases hjk : j ≤ k
            · rw [decide_eq_true hjk] at tt
              refine sq_skip tt ?_
              generalize hn : NumText.digitsVal (lead p) = n at hpr
              unfold t__law_read_s2
              have ix := unit_ix hu
              refine sq_par2 (d := .int (k : Int)) (e := .int (n : Int)) (fun Q q => ?_) (ev_cl (ea_cons (ev_txt rfl) ea_nil) (by rw [← hn]; exact intS ad h0 (by have := hdg.1; omega))) ?_
              · refine (ea_consF (ev_con (d := .str "li")) (ea_consF (ev_con (d := .str "s")) (ea_consF (ev_con (d := .str "d")) ea_nil))) _ ⟨by simp [LIM], ?_⟩
                refine ev_txt (cs := tail' p) rfl _ ?_
                exact ⟨ix.1, by rw [ix.2]; exact q⟩
              refine (show wSeq _ _ _ [.fz (.str (SX.S cs)), .ow (fD f), .fz (.int (place : Int)), x3, .fz (.str (SX.S p)), .fz (.str (SX.S (lead p))), .fz (.str (SX.S (tail' p))), .fz (.int (k : Int)), .fz (.int (n : Int))] from ?_)
              have e8 : Ev (wVar 8) [.fz (.str (SX.S cs)), .ow (fD f), .fz (.int (place : Int)), x3, .fz (.str (SX.S p)), .fz (.str (SX.S (lead p))), .fz (.str (SX.S (tail' p))), .fz (.int (k : Int)), .fz (.int (n : Int))] (.int (n : Int)) .fz := ev_var rfl
              have e7 : Ev (wVar 7) [.fz (.str (SX.S cs)), .ow (fD f), .fz (.int (place : Int)), x3, .fz (.str (SX.S p)), .fz (.str (SX.S (lead p))), .fz (.str (SX.S (tail' p))), .fz (.int (k : Int)), .fz (.int (n : Int))] (.int (k : Int)) .fz := ev_var rfl
              have t5 := et_test (ev_bin e8 (ev_bin (f := bSubs) (z := .int (if k = 0 then (n : Int) + 1 else if k = 1 then 20 else 12)) (kz := .fz) (ev_tup (ea_consF (ev_bin e8 (ev_con (d := .int 1)) bAdd_i) (ea_consF (ev_con (d := .int 20)) (ea_consF (ev_con (d := .int 12)) ea_nil)))) e7 (by
                obtain rfl | rfl | rfl : k = 0 ∨ k = 1 ∨ k = 2 := by omega
                all_goals rfl)) i_ge)
              by_cases hb : 0 < k ∧ (if k = 1 then 20 else 12) ≤ n
              · rw [rdL_bad hpr (.inr hb)] at h
                refine sq_ifT (by
                  rw [decide_eq_true (show (n : Int) ≥ (if k = 0 then (n : Int) + 1 else if k = 1 then 20 else 12) by
                    obtain ⟨b1, b2⟩ := hb
                    rw [if_neg (by omega)]
                    split at b2 <;> simp_all <;> omega)] at t5
                  exact t5) ?_
                refine sq (go_ret (ev_tup (ea_consF ev_con (ea_consF (ev_var rfl) ea_nil))) ?_)
                rw [hrt]; exact h
              · rw [rdL_step hpr (fun z => z.elim (fun z => by omega) hb)] at h
                refine sq_skip (by
                  rw [decide_eq_false (show ¬ (n : Int) ≥ (if k = 0 then (n : Int) + 1 else if k = 1 then 20 else 12) by
                    by_cases k0 : k = 0
                    · rw [if_pos k0]; omega
                    · rw [if_neg k0]
                      have : ¬ (if k = 1 then 20 else 12) ≤ n := fun z => hb ⟨by omega, z⟩
                      split at this <;> simp_all <;> omega)] at t5
                  exact t5) ?_
                unfold t__law_read_s1
                have ek : ((k : Int) + 1) = ((k + 1 : Nat) : Int) := by omega
                have words : Ev (wCl cList (wCons (wSlice (wTup (wConsF (wCon (.str "li")) (wConsF (wCon (.str "s")) (wConsF (wCon (.str "d")) wNil)))) (wPSome (wBin bAdd (wVar 7) (wCon (.int 1)))) wPNone) wNil)) [.fz (.str (SX.S cs)), .ow (fD f), .fz (.int (place : Int)), x3, .fz (.str (SX.S p)), .fz (.str (SX.S (lead p))), .fz (.str (SX.S (tail' p))), .fz (.int (k : Int)), .fz (.int (n : Int))] (.lst (wordsD (k + 1))) .nw :=
                  ev_cl (ea_cons (ev_slB (ev_tup (ea_consF (ev_con (d := .str "li")) (ea_consF (ev_con (d := .str "s")) (ea_consF (ev_con (d := .str "d")) ea_nil)))) (ev_bin e7 ev_con bAdd_i) (by rw [ek]; exact slT_from)) ea_nil) cLst_t
                refine sq_put2 (ev_tup (ea_consF e8 (ea_consF words ea_nil))) rfl e7 (lput_at (by omega)) ?_
                refine go_augI rfl (ev_bin (ev_cl (ea_cons (ev_txt rfl) ea_nil) (lenS hp.lim)) ev_con bAdd_i) ?_
                have ih := read_loop hrt hP ps (k + 1) (place + p.length + 1) (f.set k n) (.fz (.lst (wordsD (k + 1)))) (.fz (.str (SX.S p))) (.fz (.str (SX.S (lead p)))) (.fz (.str (SX.S (tail' p)))) (.fz (.int (k : Int))) (.fz (.int (n : Int))) (by omega) (.inr rfl) (fun p hp => ht p (List.mem_cons_of_mem _ hp)) (by rw [List.length_set]; exact hf) (by
                  have : (((k + 1 : Nat) : Int) - 1) = k := by omega
                  rw [this]; exact h)
                have ea : ((place : Int) + (((p.length : Nat) : Int) + 1)) = ((place + p.length + 1 : Nat) : Int) := by omega
                rw [ea]
                exact ih
            · rw [decide_eq_false hjk] at tt
              exact sq_ifT tt (bad (rdL_bad hpr (.inl (by omega))))
    by_cases hlt : i < p.length
    · have hc : p[i]? = some p[i] := List.getElem?_eq_getElem hlt
      have t2 : Et (wTest (wBin bIn (wBin bSubs (wVar 4) (wCl cLen (wCons (wVar 5) wNil))) (wCon (.str "0123456789")))) [.fz (.str (SX.S cs)), .ow (fD f), .fz (.int (place : Int)), x3, .fz (.str (SX.S p)), .fz (.str (SX.S (p.take i))), x6, x7, x8] (dg p[i]) := et_test (ev_bin (ev_bin (ev_var rfl) l5 (ixS hp.lim hc)) ev_con (inDg _))
      rw [decide_eq_true (show (i : Int) < (p.length : Int) by omega)] at t1
      refine ⟨_, et_and t1 (fun _ => t2), fun hb => ?_, fun hb => ?_⟩
      · have hb : dg p[i] = true := by simpa using hb
        unfold t__law_read_w1
        refine go_asg (d := .str (SX.S (p.take (i + 1)))) (ev_slE (ev_var rfl) (ev_bin l5 ev_con bAdd_i) (by
          have : ((i : Int) + 1) = ((i + 1 : Nat) : Int) := by omega
          rw [this]; exact slS_to hp.lim)) ?_
        refine ⟨p.length - (i + 1), by omega, i + 1, rfl, by omega, fun c hc' => ?_, rfl⟩
        rw [List.take_succ, hc] at hc'
        rcases List.mem_append.mp hc' with h1 | h1
        · exact hd c h1
        · simp at h1; rw [h1]; exact hb
      · have hb : dg p[i] = false := by simpa using hb
        refine fin fun c hc' => ?_
        rw [List.head?_drop, hc] at hc'
        cases hc'
        exact hb
    · rw [decide_eq_false (show ¬ (i : Int) < (p.length : Int) by omega)] at t1
      refine ⟨_, et_and (b' := false) t1 (fun z => by cases z), fun hb => absurd hb (by simp), fun _ => fin fun c hc' => ?_⟩
      rw [List.head?_drop, List.getElem?_eq_none (by omega)] at hc'
      cases hc'
theorem p__law_read (as : List VL.A) (q : D → Kd → Prop) (h : spRead as q) : as.length = 1 ∧ t__law_read ⟨fun _ => q .non .fz, q, fun _ => False, fun _ => False⟩ (rho0 9 as) := by
  obtain ⟨cs, hc, rfl, hq⟩ := h
  refine ⟨rfl, ?_⟩
  unfold t__law_read
  refine (show wSeq _ _ _ [.fz (.str (SX.S cs)), .un, .un, .un, .un, .un, .un, .un, .un] from ?_)
  have t1 : Et (wTest (wBin bEq (wVar 0) (wCon (.str "0d")))) [.fz (.str (SX.S cs)), .un, .un, .un, .un, .un, .un, .un, .un] (decide (cs = [48, 100])) := et_test (ev_bin (ev_var rfl) ev_con (by rw [s_0d]; exact eqS hc tx_small))
  unfold rd at hq
  by_cases c : cs = [48, 100]
  · rw [if_pos c] at hq
    rw [decide_eq_true c] at t1
    exact sq_ifT t1 (sq (go_ret (ev_tup (ea_consF ev_con (ea_consF (ev_tup (ea_consF ev_con (ea_consF ev_con (ea_consF ev_con ea_nil)))) ea_nil))) hq))
  · rw [if_neg c] at hq
    rw [decide_eq_false c] at t1
    refine sq_skip t1 ?_
    unfold t__law_read_s5
    refine sq_parNMN (ev_lst (ea_consF ev_con (ea_consF ev_con (ea_consF ev_con ea_nil)))) ev_con (ev_lst (ea_consF ev_con (ea_consF ev_con (ea_consF ev_con ea_nil)))) ?_
    refine (show wSeq _ _ _ [.fz (.str (SX.S cs)), .ow (fD [0, 0, 0]), .fz (.int ((0 : Nat) : Int)), .ow (.lst (wordsD 0)), .un, .un, .un, .un, .un] from ?_)
    refine sq (go_for (ei_split (sep := [32]) (ev_var rfl) (by rw [s_sp]; exact ev_con) (by simp) (by decide) (by have := hc.1; omega)) ?_)
    refine read_loop rfl (fun f x2 x3 x4 x5 x6 x7 x8 hf => ?_) (pcs cs) 0 0 [0, 0, 0] _ .un .un .un .un .un (by omega) (.inl rfl) hc.pcs rfl hq
    dsimp only
    unfold t__law_read_s4
    exact go_ret (ev_tup (ea_consF ev_con (ea_consF (ev_cl (ea_cons (ev_own rfl) ea_nil) cTup_l) ea_nil))) hf
end K22

namespace K22
open PySem PySem.Spec PyProof.Rows L2 VL
def cn (x : Nat × Nat × Nat) : Nat → Nat
  | 0 => x.1
  | 1 => x.2.1
  | _ => x.2.2
def uL : Nat → List Nat
  | 0 => [108, 105]
  | 1 => [115]
  | _ => [100]
def piece (x : Nat × Nat × Nat) (k : Nat) : List Nat := TL.numL (cn x k) ++ uL k
def ksT (x : Nat × Nat × Nat) : List Nat := (List.range 3).filter fun k => decide (0 < cn x k)
def pcsT (x : Nat × Nat × Nat) : List (List Nat) := (ksT x).map (piece x)
def txt (x : Nat × Nat × Nat) : List Nat := if pcsT x = [] then [48, 100] else TL.joinL [32] (pcsT x)
def Sm (x : Nat × Nat × Nat) : Prop := x.1 < 100000 ∧ x.2.1 < 100000 ∧ x.2.2 < 100000
theorem sm_cn {x : Nat × Nat × Nat} (h : Sm x) (k : Nat) : cn x k < 100000 := by
  unfold cn
  split
  · exact h.1
  · exact h.2.1
  · exact h.2.2
def nc3 (x : Nat × Nat × Nat) : D := .tup [.int (x.1 : Int), .int (x.2.1 : Int), .int (x.2.2 : Int)]
theorem ix_nc {x : Nat × Nat × Nat} {k : Nat} (h : k < 3) : bSubs (nc3 x) (.int (k : Int)) = some (.int (cn x k : Int), .fz) := by
  obtain rfl | rfl | rfl : k = 0 ∨ k = 1 ∨ k = 2 := by omega
  all_goals rfl
theorem ix_w {k : Nat} (h : k < 3) : bSubs d_WORDS (.int (k : Int)) = some (.str (SX.S (uL k)), .fz) := by
  obtain rfl | rfl | rfl : k = 0 ∨ k = 1 ∨ k = 2 := by omega
  · show some (D.str "li", Kd.fz) = some (.str (SX.S [108, 105]), .fz)
    rw [s_li]
  · show some (D.str "s", Kd.fz) = some (.str (SX.S [115]), .fz)
    rw [s_s]
  · show some (D.str "d", Kd.fz) = some (.str (SX.S [100]), .fz)
    rw [s_d]
theorem ix_wt {k : Nat} (h : k < 3) : bSubs (.tup [.str "li", .str "s", .str "d"]) (.int (k : Int)) = some (.str (SX.S (uL k)), .fz) := by
  obtain rfl | rfl | rfl : k = 0 ∨ k = 1 ∨ k = 2 := by omega
  · show some (D.str "li", Kd.fz) = some (.str (SX.S [108, 105]), .fz)
    rw [s_li]
  · show some (D.str "s", Kd.fz) = some (.str (SX.S [115]), .fz)
    rw [s_s]
  · show some (D.str "d", Kd.fz) = some (.str (SX.S [100]), .fz)
    rw [s_d]
theorem num5 {n : Nat} (h : n < 100000) : cStr [.int (n : Int)] = some (.str (SX.S (TL.numL n)), .fz) ∧ (TL.numL n).length ≤ 5 := by
  refine ⟨?_, TL.numL_len (k := 5) (by decide) h⟩
  show (if (n : Int).natAbs < 1000000000000 then some (D.str (strI n), Kd.fz) else none) = _
  rw [if_pos (by omega), str_num]
theorem uL_len (k : Nat) : (uL k).length ≤ 2 := by unfold uL; split <;> simp
theorem uL_lt (k : Nat) : ∀ c ∈ uL k, c < 256 ∧ c ≠ 32 := by unfold uL; split <;> simp
theorem piece_ok {x : Nat × Nat × Nat} (h : Sm x) (k : Nat) : (piece x k).length ≤ 7 ∧ (∀ c ∈ piece x k, c < 256 ∧ c ≠ 32) ∧ piece x k ≠ [] := by
  unfold piece
  refine ⟨?_, fun c hc => ?_, ?_⟩
  · rw [List.length_append]
    have := (num5 (sm_cn h k)).2
    have := uL_len k
    omega
  · rcases List.mem_append.mp hc with h1 | h1
    · have := TL.numL_digits (cn x k) c h1
      omega
    · exact uL_lt k c h1
  · intro e
    exact TL.numL_ne (cn x k) (List.append_eq_nil_iff.mp e).1
/-! ### print_sum -/
theorem join_len (S : List Nat) : ∀ ps : List (List Nat), (TL.joinL S ps).length ≤ (ps.map (·.length)).sum + ps.length * S.length
  | [] => by simp [TL.joinL]
  | [p] => by simp [TL.joinL]
  | p :: q :: r => by
    have ih := join_len S (q :: r)
    show (p ++ (S ++ TL.joinL S (q :: r))).length ≤ _
    rw [List.length_append, List.length_append]
    simp only [List.map_cons, List.sum_cons, List.length_cons] at ih ⊢
    rw [Nat.add_mul (r.length + 1) 1, Nat.one_mul]
    omega
theorem join_mem (S : List Nat) : ∀ (ps : List (List Nat)) (c : Nat), c ∈ TL.joinL S ps → c ∈ S ∨ ∃ p ∈ ps, c ∈ p
  | [], c, h => by simp [TL.joinL] at h
  | [p], c, h => .inr ⟨p, by simp, h⟩
  | p :: q :: r, c, h => by
    have h : c ∈ p ++ (S ++ TL.joinL S (q :: r)) := h
    rcases List.mem_append.mp h with h1 | h1
    · exact .inr ⟨p, by simp, h1⟩
    · rcases List.mem_append.mp h1 with h2 | h2
      · exact .inl h2
      · rcases join_mem S (q :: r) c h2 with h3 | ⟨z, h3, h4⟩
        · exact .inl h3
        · exact .inr ⟨z, List.mem_cons_of_mem _ h3, h4⟩
theorem ks_len (x : Nat × Nat × Nat) : (ksT x).length ≤ 3 := by
  have := List.length_filter_le (fun k => decide (0 < cn x k)) (List.range 3)
  unfold ksT
  simpa using this
theorem sum_le (ps : List (List Nat)) (b : Nat) (h : ∀ p ∈ ps, p.length ≤ b) : (ps.map (·.length)).sum ≤ ps.length * b := by
  induction ps with
  | nil => simp
  | cons p r ih =>
    have h1 := h p (List.mem_cons_self ..)
    have h2 := ih fun q hq => h q (List.mem_cons_of_mem _ hq)
    simp only [List.map_cons, List.sum_cons, List.length_cons]
    rw [Nat.add_mul, Nat.one_mul]
    omega
theorem sum_T {x : Nat × Nat × Nat} (h : Sm x) : ((pcsT x).map (·.length)).sum ≤ 21 ∧ (pcsT x).length ≤ 3 := by
  have hl : (pcsT x).length ≤ 3 := by unfold pcsT; rw [List.length_map]; exact ks_len x
  have := sum_le (pcsT x) 7 fun p hp => by
    obtain ⟨k, _, rfl⟩ := List.mem_map.mp hp
    exact (piece_ok h k).1
  omega
theorem txt_tx {x : Nat × Nat × Nat} (h : Sm x) : (txt x).length ≤ 24 ∧ ∀ c ∈ txt x, c < 256 := by
  unfold txt
  split
  · exact ⟨by simp, by decide⟩
  · obtain ⟨h1, h2⟩ := sum_T h
    refine ⟨?_, fun c hc => ?_⟩
    · have := join_len [32] (pcsT x)
      simp only [List.length_cons, List.length_nil] at this
      omega
    · rcases join_mem [32] (pcsT x) c hc with h3 | ⟨p, h3, h4⟩
      · rw [List.mem_singleton.mp h3]; decide
      · obtain ⟨k, _, rfl⟩ := List.mem_map.mp h3
        exact ((piece_ok h k).2.1 c h4).1
def spText : FS := fun as q => ∃ x, Sm x ∧ as = [.d (nc3 x)] ∧ q (.str (SX.S (txt x))) .fz
theorem p_print_sum (as : List VL.A) (q : D → Kd → Prop) (h : spText as q) : as.length = 1 ∧ t_print_sum ⟨fun _ => q .non .fz, q, fun _ => False, fun _ => False⟩ (rho0 3 as) := by
  obtain ⟨x, hx, rfl, hq⟩ := h
  refine ⟨rfl, ?_⟩
  unfold t_print_sum
  refine (show wSeq _ _ _ [.fz (nc3 x), .un, .un] from ?_)
  have e := ev_comp1 (ρ := [.fz (nc3 x), .un, .un]) (wi := wiR1 (wCons (wCon (.int 3)) wNil)) (i := 2) (tt := t_print_sum_i1) (t := t_print_sum_c1) (k := .fz) (fun (k : Nat) => .int (k : Int)) (fun k => decide (0 < cn x k)) (fun k => .str (SX.S (piece x k))) (List.range 3) (ei_r1 (n := 3) (ea_cons ev_con ea_nil) (by decide)) (by simp [LIM]) (fun k hk => by
    have hk := List.mem_range.mp hk
    unfold t_print_sum_i1
    have := et_test (ρ := [.fz (nc3 x), .un, .fz (.int (k : Int))]) (ev_bin (ev_bin (ev_var (i := 0) rfl) (ev_var (i := 2) rfl) (ix_nc hk)) (ev_con (d := .int 0)) i_gt)
    have e : decide ((cn x k : Int) > 0) = decide (0 < cn x k) := decide_eq_decide.mpr (by omega)
    rw [e] at this
    exact this) (fun k hk _ => by
    have hk := List.mem_range.mp hk
    unfold t_print_sum_c1
    have n5 := num5 (sm_cn hx k)
    exact ev_bin (ev_cl (ea_cons (ev_bin (ev_var rfl) (ev_var rfl) (ix_nc hk)) ea_nil) n5.1) (ev_bin ev_con (ev_var rfl) (ix_w hk)) (addS (by have := n5.2; have := uL_len k; simp only [LIM]; omega)))
  refine sq_asgN e ?_
  have ed : ((List.range 3).filter fun k => decide (0 < cn x k)).map (fun k => D.str (SX.S (piece x k))) = (pcsT x).map fun p => .str (SX.S p) := by
    unfold pcsT ksT; rw [List.map_map]; rfl
  rw [ed]
  refine (show wRet _ _ [.fz (nc3 x), .ow (.lst ((pcsT x).map fun p => .str (SX.S p))), .un] from ?_)
  have t1 : Et (wTest (wBin bNe (wVar 1) (wLst wNil))) [.fz (nc3 x), .ow (.lst ((pcsT x).map fun p => .str (SX.S p))), .un] (!decide (((pcsT x).map fun p => D.str (SX.S p)) = [])) := et_test (ev_bin (ev_own rfl) (ev_lst ea_nil) (bNe_nilL (okL fun z hz => by
    obtain ⟨p, hp, rfl⟩ := List.mem_map.mp hz
    obtain ⟨k, _, rfl⟩ := List.mem_map.mp hp
    have o := piece_ok hx k
    have t : Tx (piece x k) := ⟨by omega, fun c hc => (o.2.1 c hc).1⟩
    have := t.cps
    simpa [okE] using this)))
  unfold txt at hq
  by_cases c : pcsT x = []
  · rw [if_pos c] at hq
    rw [c] at t1 ⊢
    refine go_ret (ev_ifF t1 ev_con) ?_
    rw [s_0d]
    exact hq
  · rw [if_neg c] at hq
    rw [decide_eq_false (fun z => c (List.map_eq_nil_iff.mp z))] at t1
    obtain ⟨h1, h2⟩ := sum_T hx
    exact go_ret (ev_ifT t1 (ev_join (sep := [32]) (by rw [s_sp]; exact ev_con) (ev_own rfl) (by simp only [List.length_cons, List.length_nil]; omega))) hq
/-! ### _law_text -/
def stepT (x : Nat × Nat × Nat) (f : List Nat) (k : Nat) : List Nat := if 0 < cn x k then f ++ (if f = [] then [] else [32]) ++ TL.numL (cn x k) ++ uL k else f
theorem text_step {x : Nat × Nat × Nat} (hx : Sm x) {P : PEnds} {f : List Nat} {k : Nat} (hk : k < 3) (hf : Tx f) (hl : f.length ≤ 500) (h : P.nx [.fz (nc3 x), .fz (.str (SX.S (stepT x f k))), .fz (.int (k : Int))]) : t__law_text_f1 P [.fz (nc3 x), .fz (.str (SX.S f)), .fz (.int (k : Int))] := by
  unfold t__law_text_f1
  have n5 := num5 (sm_cn hx k)
  have e0 : Ev (wBin bSubs (wVar 0) (wVar 2)) [.fz (nc3 x), .fz (.str (SX.S f)), .fz (.int (k : Int))] (.int (cn x k : Int)) .fz := ev_bin (ev_var rfl) (ev_var rfl) (ix_nc hk)
  have t1 := et_test (ev_bin e0 (ev_con (d := .int 0)) i_gt)
  have t2 : Et (wTest (wBin bNe (wVar 1) (wCon (.str "")))) [.fz (nc3 x), .fz (.str (SX.S f)), .fz (.int (k : Int))] (!decide (f = [])) := et_test (ev_bin (ev_var rfl) ev_con (by rw [s_nil]; exact neS hf tx_small))
  have e2 : Ev (wIfE (wTest (wBin bNe (wVar 1) (wCon (.str "")))) (wCon (.str " ")) (wCon (.str ""))) [.fz (nc3 x), .fz (.str (SX.S f)), .fz (.int (k : Int))] (.str (SX.S (if f = [] then [] else [32]))) .fz := by
    by_cases c : f = []
    · rw [if_pos c, ← s_nil]
      rw [decide_eq_true c] at t2
      exact ev_ifF t2 ev_con
    · rw [if_neg c, ← s_sp]
      rw [decide_eq_false c] at t2
      exact ev_ifT t2 ev_con
  have hi : (if f = [] then [] else [32] : List Nat).length ≤ 1 := by split <;> simp
  unfold stepT at h
  by_cases c : 0 < cn x k
  · rw [if_pos c] at h
    rw [decide_eq_true (show (cn x k : Int) > 0 by omega)] at t1
    refine go_ifT t1 (go_asg (ev_bin (ev_bin (ev_bin (ev_txt (i := 1) rfl) e2 (addS (by simp only [LIM]; omega))) (ev_cl (ea_cons e0 ea_nil) n5.1) (addS (by rw [List.length_append]; have := n5.2; simp only [LIM]; omega))) (ev_bin (ev_tup (ea_consF (ev_con (d := .str "li")) (ea_consF (ev_con (d := .str "s")) (ea_consF (ev_con (d := .str "d")) ea_nil)))) (ev_var rfl) (ix_wt hk)) (addS (by rw [List.length_append, List.length_append]; have := n5.2; have := uL_len k; simp only [LIM]; omega))) ?_)
    exact h
  · rw [if_neg c] at h
    rw [decide_eq_false (show ¬ (cn x k : Int) > 0 by omega)] at t1
    exact go_ifF t1 h
theorem step_ok {x : Nat × Nat × Nat} (hx : Sm x) {f : List Nat} {k : Nat} {n : Nat} (hf : Tx f) (hl : f.length ≤ n) (hn : n ≤ 500) : Tx (stepT x f k) ∧ (stepT x f k).length ≤ n + 8 := by
  have n5 := num5 (sm_cn hx k)
  have hi : (if f = [] then [] else [32] : List Nat).length ≤ 1 := by split <;> simp
  have hu := uL_len k
  unfold stepT
  split
  · refine ⟨⟨?_, fun c hc => ?_⟩, ?_⟩
    · simp only [List.length_append]; omega
    · rcases List.mem_append.mp hc with h1 | h1
      · rcases List.mem_append.mp h1 with h2 | h2
        · rcases List.mem_append.mp h2 with h3 | h3
          · exact hf.2 c h3
          · split at h3
            · simp at h3
            · rw [List.mem_singleton.mp h3]; decide
        · have := TL.numL_digits (cn x k) c h2
          omega
      · exact (uL_lt k c h1).1
    · simp only [List.length_append]; omega
  · exact ⟨hf, by omega⟩
theorem txt_fold {x : Nat × Nat × Nat} : txt x = if stepT x (stepT x (stepT x [] 0) 1) 2 = [] then [48, 100] else stepT x (stepT x (stepT x [] 0) 1) 2 := by
  have ne : ∀ k : Nat, ∀ r : List Nat, TL.numL (cn x k) ++ r ≠ [] := fun k r e => TL.numL_ne _ (List.append_eq_nil_iff.mp e).1
  have r3 : List.range 3 = [0, 1, 2] := by decide
  unfold txt pcsT ksT
  rw [r3]
  by_cases h0 : 0 < cn x 0 <;> by_cases h1 : 0 < cn x 1 <;> by_cases h2 : 0 < cn x 2 <;>
    simp [stepT, h0, h1, h2, piece, TL.joinL, ne]
theorem p__law_text (as : List VL.A) (q : D → Kd → Prop) (h : spText as q) : as.length = 1 ∧ t__law_text ⟨fun _ => q .non .fz, q, fun _ => False, fun _ => False⟩ (rho0 3 as) := by
  obtain ⟨x, hx, rfl, hq⟩ := h
  refine ⟨rfl, ?_⟩
  unfold t__law_text
  refine (show wSeq _ _ _ [.fz (nc3 x), .un, .un] from ?_)
  refine sq_asg ev_con ?_
  refine (show wSeq _ _ _ [.fz (nc3 x), .fz (.str ""), .un] from ?_)
  refine sq (go_for (ei_r1 (n := 3) (ea_cons ev_con ea_nil) (by decide)) ?_)
  have o0 : Tx ([] : List Nat) := tx_small
  have o1 := step_ok (k := 0) hx o0 (n := 0) (by simp) (by omega)
  have o2 := step_ok (k := 1) hx o1.1 o1.2 (by omega)
  have o3 := step_ok (k := 2) hx o2.1 o2.2 (by omega)
  have r3 : (List.range 3).map (fun k : Nat => D.int (k : Int)) = [.int ((0 : Nat) : Int), .int ((1 : Nat) : Int), .int ((2 : Nat) : Int)] := by rw [show List.range 3 = [0, 1, 2] by decide]; rfl
  rw [r3]
  have e0 : ([.fz (nc3 x), .fz (.str ""), .un] : Rho) = [.fz (nc3 x), .fz (.str (SX.S [])), .un] := by rw [s_nil]
  rw [e0]
  refine text_step hx (by decide) o0 (by simp) ?_
  refine text_step hx (k := 1) (by decide) o1.1 (by omega) ?_
  refine text_step hx (k := 2) (by decide) o2.1 (by omega) ?_
  refine (show t__law_text_s1 _ [.fz (nc3 x), .fz (.str (SX.S (stepT x (stepT x (stepT x [] 0) 1) 2))), .fz (.int ((2 : Nat) : Int))] from ?_)
  unfold t__law_text_s1
  rw [txt_fold] at hq
  generalize stepT x (stepT x (stepT x [] 0) 1) 2 = f at *
  have t2 : Et (wTest (wBin bNe (wVar 1) (wCon (.str "")))) [.fz (nc3 x), .fz (.str (SX.S f)), .fz (.int ((2 : Nat) : Int))] (!decide (f = [])) := et_test (ev_bin (ev_var rfl) ev_con (by rw [s_nil]; exact neS o3.1 tx_small))
  by_cases c : f = []
  · rw [if_pos c] at hq
    rw [decide_eq_true c] at t2
    refine go_ret (ev_ifF t2 ev_con) ?_
    rw [s_0d]; exact hq
  · rw [if_neg c] at hq
    rw [decide_eq_false c] at t2
    exact go_ret (ev_ifT t2 (ev_txt rfl)) hq
/-! ### printed and read -/
theorem num_head {n : Nat} (h : 0 < n) : (TL.numL n).head? ≠ some 48 := by
  induction n using Nat.strongRecOn with
  | _ n ih =>
    by_cases c : n < 10
    · rw [TL.numL_lt c]
      intro e
      have : 48 + n = 48 := by simpa using e
      omega
    · rw [TL.numL_step (by omega)]
      have := ih (n / 10) (by omega) (by omega)
      cases hn : TL.numL (n / 10) with
      | nil => exact absurd hn (TL.numL_ne _)
      | cons a r => rw [hn] at this; exact this
theorem unit_u {k : Nat} (h : k < 3) : unitN (uL k) = some k := by
  obtain rfl | rfl | rfl : k = 0 ∨ k = 1 ∨ k = 2 := by omega
  all_goals decide
theorem part_piece {x : Nat × Nat × Nat} {k : Nat} (hk : k < 3) (h : 0 < cn x k) : partR (piece x k) = some (cn x k, k) := by
  have hu := unit_u hk
  have tw := tw_app (a := TL.numL (cn x k)) (b := uL k) (fun c hc => dg_iff.mpr (TL.numL_digits _ c hc)) (unit_free hu).2
  have e1 : lead (piece x k) = TL.numL (cn x k) := tw.1
  have e2 : tail' (piece x k) = uL k := tw.2
  unfold partR
  rw [e1, e2, hu, if_neg (by rintro (z | z); exact TL.numL_ne _ z; exact num_head h z), TL.numL_val]
  rfl
theorem rd_pieces {x : Nat × Nat × Nat} (h1 : x.2.1 < 20) (h2 : x.2.2 < 12) : ∀ (ks : List Nat) (last : Int) (place : Nat) (f : List Int), ks.Pairwise (· < ·) → (∀ k ∈ ks, k < 3 ∧ 0 < cn x k ∧ last < (k : Int)) → rdL last place f (ks.map (piece x)) = .inl (ks.foldl (fun f k => f.set k (cn x k : Int)) f)
  | [], last, place, f, _, _ => rfl
  | k :: ks, last, place, f, hp, h => by
    obtain ⟨a, b, c⟩ := h k (List.mem_cons_self ..)
    obtain ⟨p1, p2⟩ := List.pairwise_cons.mp hp
    rw [List.map_cons, rdL_step (part_piece a b) (by
      rintro (z | ⟨z1, z2⟩)
      · omega
      · obtain rfl | rfl : k = 1 ∨ k = 2 := by omega
        · have e : cn x 1 = x.2.1 := rfl
          rw [e] at z2; simp at z2; omega
        · have e : cn x 2 = x.2.2 := rfl
          rw [e] at z2; simp at z2; omega)]
    exact rd_pieces h1 h2 ks k _ _ p2 fun j hj => ⟨(h j (List.mem_cons_of_mem _ hj)).1, (h j (List.mem_cons_of_mem _ hj)).2.1, by have := p1 j hj; omega⟩
theorem rd_txt {x : Nat × Nat × Nat} (hx : Sm x) (h1 : x.2.1 < 20) (h2 : x.2.2 < 12) : rd (txt x) = .inl [(x.1 : Int), x.2.1, x.2.2] := by
  have mk : ∀ k ∈ ksT x, k < 3 ∧ 0 < cn x k ∧ (-1 : Int) < (k : Int) := fun k hk => by
    obtain ⟨a, b⟩ := List.mem_filter.mp hk
    exact ⟨List.mem_range.mp a, of_decide_eq_true b, by omega⟩
  have key := rd_pieces h1 h2 (ksT x) (-1) 0 [0, 0, 0] ((List.pairwise_lt_range).filter _) mk
  have fin : (ksT x).foldl (fun f k => f.set k (cn x k : Int)) ([0, 0, 0] : List Int) = [(x.1 : Int), x.2.1, x.2.2] := by
    have r3 : List.range 3 = [0, 1, 2] := by decide
    unfold ksT
    rw [r3]
    have c0 : cn x 0 = x.1 := rfl
    have c1 : cn x 1 = x.2.1 := rfl
    have c2 : cn x 2 = x.2.2 := rfl
    by_cases h0 : 0 < x.1 <;> by_cases h1 : 0 < x.2.1 <;> by_cases h2 : 0 < x.2.2 <;> simp [c0, c1, c2, h0, h1, h2] <;> omega
  rw [fin] at key
  unfold txt
  by_cases c : pcsT x = []
  · rw [if_pos c]
    have c' : (ksT x).map (piece x) = [] := c
    rw [c'] at key
    exact key
  · rw [if_neg c]
    have hs : pcs (TL.joinL [32] (pcsT x)) = pcsT x := TL.spl_join c fun p hp => by
      obtain ⟨k, _, rfl⟩ := List.mem_map.mp hp
      exact fun z => ((piece_ok hx k).2.1 32 z).2 rfl
    have hne : TL.joinL [32] (pcsT x) ≠ [48, 100] := fun e => by
      rw [e] at hs
      have e2 : pcs [48, 100] = [[48, 100]] := by decide
      rw [e2] at hs
      have : [48, 100] ∈ pcsT x := by rw [← hs]; simp
      obtain ⟨k, hk, e3⟩ := List.mem_map.mp this
      have := part_piece (mk k hk).1 (mk k hk).2.1
      rw [e3] at this
      have e4 : partR [48, 100] = none := by decide
      rw [e4] at this
      cases this
    unfold rd
    rw [if_neg hne, hs]
    exact key
end K22

namespace K22
open PySem PySem.Spec PyProof.Rows L2 VL
section
variable {t u : WE} {ρ : Rho} {c : WT} {R : D → Prop} {d : D} {k : Kd}
theorem dm_if (h : Dt c ρ) (a : Dm t ρ R) (b : Dm u ρ R) : Dm (wIfE c t u) ρ R := fun Q q => by
  rw [wIfE_e]
  refine h _ fun z => ?_
  cases z with
  | true => exact a _ q
  | false => exact b _ q
theorem dm_tup3 {R S T : D → Prop} {t u v : WE} (h : Dm t ρ R) (h' : Dm u ρ S) (h2 : Dm v ρ T) : Dm (wTup (wConsF t (wConsF u (wConsF v wNil)))) ρ (fun z => ∃ a b c, z = .tup [a, b, c] ∧ R a ∧ S b ∧ T c) :=
  fun Q q => h _ fun a ha => h' _ fun b hb => h2 _ fun c hc => ⟨by simp [LIM], q _ ⟨a, b, c, rfl, ha, hb, hc⟩⟩
theorem sq_asgDN {w : WE} {r : WS} {P : PEnds} {i : Nat} (h : DmN w ρ R) (q : ∀ d, R d → r P (ρ.set i (.ow d))) : wSeq (wAsg i w) r P ρ := h _ fun d hd => q d hd
theorem go_forD {n : Nat} {ta : WA} {g : WG} {tb : WS} {P : PEnds} (h : Dl ta ρ n R) (hn : n ≤ LIM) (q : ∀ ds, (∀ x ∈ ds, R x) → wLoop g tb P ds ρ) : wFor (wiF (wTup ta)) g tb P ρ :=
  h _ fun ds h1 h2 => ⟨by rw [h1]; exact hn, q ds h2⟩
end
def resD : List Int ⊕ Nat → D
  | .inl f => .tup [.bl true, .tup (f.map .int)]
  | .inr n => .tup [.bl false, .int (n : Int)]
theorem outR_of {q : D → Kd → Prop} {r : List Int ⊕ Nat} (h : q (resD r) .fz) : outR q r := by
  cases r <;> exact h
theorem bNe_tag {n : Nat} {b : Bool} {d : D} (h : Gd n d) (hn : n ≤ 19) : bNe (.tup [.bl b, d]) (.tup [.bl b, d]) = some (.bl false, .fz) := by
  have o : okE 20 (.tup [.bl b, d]) = true := by
    rw [okE_tup, okEs_all]
    intro z hz
    simp only [List.mem_cons, List.not_mem_nil, or_false] at hz
    rcases hz with rfl | rfl
    · simp [okE]
    · exact (h.up hn).1
  have e : eqv (.tup [.bl b, d]) (.tup [.bl b, d]) = true := by
    show ((b == b) && (eqv d d && eqvs [] [])) = true
    rw [(eqv_pl h.2 h.2).mpr rfl, beq_self_eq_true]
    rfl
  unfold bNe
  rw [if_pos ⟨o, o⟩, e]
  rfl
theorem ne_res (r : List Int ⊕ Nat) : bNe (resD r) (resD r) = some (.bl false, .fz) := by
  cases r with
  | inl f => exact bNe_tag (n := 1) (.map (fun _ => .int) f) (by decide)
  | inr n => exact bNe_tag (n := 0) .int (by decide)
theorem gd_c3 (x : Int × Int × Int) : Gd 3 (c3 x) := .tup fun z hz => by
  simp only [List.mem_cons, List.not_mem_nil, or_false] at hz
  rcases hz with rfl | rfl | rfl <;> exact .int
def TxD (d : D) : Prop := ∃ cs, Tx cs ∧ d = .str (SX.S cs)
section
variable {P : PEnds} {x0 x2 x3 x4 x5 x6 x7 x8 x9 x10 x11 x12 x13 x14 x15 x16 x17 x18 x19 x20 x21 : Slot}
theorem f2_ok {cs : List Nat} (hc : Tx cs) (h : ∀ x15 x20 x21, P.nx [x0, .w, x2, x3, x4, x5, x6, x7, x8, x9, x10, x11, x12, x13, x14, x15, x16, x17, x18, .fz (.str (SX.S cs)), x20, x21]) : t_law_f2 spRead spParse P [x0, .w, x2, x3, x4, x5, x6, x7, x8, x9, x10, x11, x12, x13, x14, x15, x16, x17, x18, .fz (.str (SX.S cs)), x20, x21] := by
  unfold t_law_f2
  refine sq_asg (d := resD (rd cs)) (ev_call (k := .fz) (ex_cons (ev_txt rfl) ex_nil) fun q hq => ⟨cs, hc, rfl, outR_of hq⟩) ?_
  refine (show wSeq _ _ _ [x0, .w, x2, x3, x4, x5, x6, x7, x8, x9, x10, x11, x12, x13, x14, .fz (resD (rd cs)), x16, x17, x18, .fz (.str (SX.S cs)), x20, x21] from ?_)
  have fin : ∀ x21, wIf (wTest (wBin bNe (wVar 20) (wVar 15))) (wRet (wCon (.bl false))) wNext P [x0, .w, x2, x3, x4, x5, x6, x7, x8, x9, x10, x11, x12, x13, x14, .fz (resD (rd cs)), x16, x17, x18, .fz (.str (SX.S cs)), .fz (resD (rd cs)), x21] := fun x21 =>
    go_skip (et_test (b := false) (ev_bin (ev_var rfl) (ev_var rfl) (ne_res _))) (h _ _ _)
  simp only [wSeq, wTryT, wCallX]
  refine (ex_cons (ρ := [x0, .w, x2, x3, x4, x5, x6, x7, x8, x9, x10, x11, x12, x13, x14, .fz (resD (rd cs)), x16, x17, x18, .fz (.str (SX.S cs)), x20, x21]) (ev_txt (cs := cs) (i := 19) rfl) ex_nil) _ ?_
  refine ⟨cs, hc, rfl, ?_⟩
  cases hr : rd cs with
  | inl f =>
    rw [hr] at fin
    exact fin _
  | inr n =>
    rw [hr] at fin
    exact ⟨by simp, fin _⟩
theorem s_3d : ("3d 2s" : Str) = SX.S [51, 100, 32, 50, 115] := by decide +kernel
theorem s_w0d : (" 0d" : Str) = SX.S [32, 48, 100] := by decide +kernel
theorem s_1 : ("1" : Str) = SX.S [49] := by decide +kernel
theorem s1_ok {cs : List Nat} (hl : cs.length ≤ 24) (hc : ∀ c ∈ cs, c < 256) (h : ∀ x2 x3 x4 x5 x6 x7 x8 x9 x10 x11 x12 x13 x14 x15 x16 x17 x18 x19 x20 x21, P.nx [x0, .w, x2, x3, x4, x5, x6, x7, x8, x9, x10, x11, x12, x13, x14, x15, x16, x17, x18, x19, x20, x21]) : t_law_s1 spNext spRead spParse P [x0, .w, x2, x3, x4, x5, x6, x7, x8, x9, x10, x11, x12, x13, x14, x15, x16, .fz (.str (SX.S cs)), x18, x19, x20, x21] := by
  have tx : Tx cs := ⟨by omega, hc⟩
  have app : ∀ {a b : List Nat}, Tx a → Tx b → a.length + b.length ≤ 600 → Tx (a ++ b) := fun {a b} ha hb h => ⟨by rw [List.length_append]; exact h, fun c hc => (List.mem_append.mp hc).elim (ha.2 c) (hb.2 c)⟩
  unfold t_law_s1
  refine sq_asgD (dm_next rfl (ev_bin (ev_cl (ea_cons (ev_txt rfl) ea_nil) (lenS tx.lim)) ev_con bAdd_i) (by omega)) fun d ⟨r, e, r0, _⟩ => ?_
  subst e
  obtain ⟨n, rfl⟩ : ∃ n : Nat, r = n := ⟨r.toNat, by omega⟩
  refine (show wFor _ _ _ _ [x0, .w, x2, x3, x4, x5, x6, x7, x8, x9, x10, x11, x12, x13, x14, x15, x16, .fz (.str (SX.S cs)), .fz (.int (n : Int)), x19, x20, x21] from ?_)
  have e17 : Ev (wVar 17) [x0, .w, x2, x3, x4, x5, x6, x7, x8, x9, x10, x11, x12, x13, x14, x15, x16, .fz (.str (SX.S cs)), .fz (.int (n : Int)), x19, x20, x21] (.str (SX.S cs)) .fz := ev_var rfl
  have e18 : Ev (wVar 18) [x0, .w, x2, x3, x4, x5, x6, x7, x8, x9, x10, x11, x12, x13, x14, x15, x16, .fz (.str (SX.S cs)), .fz (.int (n : Int)), x19, x20, x21] (.int (n : Int)) .fz := ev_var rfl
  have t1 : (cs.take n).length ≤ 24 := by rw [List.length_take]; omega
  have t2 : (cs.drop n).length ≤ 24 := by rw [List.length_drop]; omega
  have t3 : (cs.drop (n + 1)).length ≤ 24 := by rw [List.length_drop]; omega
  have eto := ev_slE e17 e18 (slS_to tx.lim)
  have efr := ev_slB e17 e18 (slS_from tx.lim)
  have efr1 := ev_slB e17 (ev_bin e18 (ev_con (d := .int 1)) bAdd_i) (by
    have : ((n : Int) + 1) = ((n + 1 : Nat) : Int) := by omega
    rw [this]; exact slS_from tx.lim)
  have sgn : Dm (wBin bSubs (wLst (wConsF (wCon (.str "0")) (wConsF (wCon (.str " ")) (wConsF (wCon (.str "d")) (wConsF (wCon (.str "s")) (wConsF (wCon (.str "1")) (wConsF (wCon (.str "li")) wNil))))))) (wCall spNext (xW 1 (xCons (wCon (.int 6)) xNil)))) [x0, .w, x2, x3, x4, x5, x6, x7, x8, x9, x10, x11, x12, x13, x14, x15, x16, .fz (.str (SX.S cs)), .fz (.int (n : Int)), x19, x20, x21] (fun d => ∃ a, a.length ≤ 2 ∧ Tx a ∧ d = .str (SX.S a)) := fun Q q => by
    refine (ev_lst (ea_consF (ev_con (d := .str "0")) (ea_consF (ev_con (d := .str " ")) (ea_consF (ev_con (d := .str "d")) (ea_consF (ev_con (d := .str "s")) (ea_consF (ev_con (d := .str "1")) (ea_consF (ev_con (d := .str "li")) ea_nil))))))) _ ?_
    refine (dm_next rfl ev_con (by decide) : Dm (wCall spNext (xW 1 (xCons (wCon (.int 6)) xNil))) [x0, .w, x2, x3, x4, x5, x6, x7, x8, x9, x10, x11, x12, x13, x14, x15, x16, .fz (.str (SX.S cs)), .fz (.int (n : Int)), x19, x20, x21] _) _ fun d ⟨r, e, r0, r1⟩ => ?_
    subst e
    obtain rfl | rfl | rfl | rfl | rfl | rfl : r = 0 ∨ r = 1 ∨ r = 2 ∨ r = 3 ∨ r = 4 ∨ r = 5 := by omega
    · exact q (.str "0") ⟨[48], by simp, tx_small, by rw [s_0]⟩
    · exact q (.str " ") ⟨[32], by simp, tx_small, by rw [s_sp]⟩
    · exact q (.str "d") ⟨[100], by simp, tx_small, by rw [s_d]⟩
    · exact q (.str "s") ⟨[115], by simp, tx_small, by rw [s_s]⟩
    · exact q (.str "1") ⟨[49], by simp, tx_small, by rw [s_1]⟩
    · exact q (.str "li") ⟨[108, 105], by simp, tx_small, by rw [s_li]⟩
  have two := dm_bin (f := bAdd) (T := TxD) (dm_bin (f := bAdd) (T := fun d => ∃ a, a.length ≤ 26 ∧ Tx a ∧ d = .str (SX.S a)) (dm_ev (R := fun d => d = .str (SX.S (cs.take n))) eto rfl) sgn (by
    rintro d e rfl ⟨a, ha, ta, rfl⟩
    exact ⟨_, addS (by simp only [LIM]; omega), _, by rw [List.length_append]; omega, app (tx.take n) ta (by omega), rfl⟩)) (dm_ev (R := fun d => d = .str (SX.S (cs.drop n))) efr rfl) (by
    rintro d e ⟨a, ha, ta, rfl⟩ rfl
    exact ⟨_, addS (by simp only [LIM]; omega), _, app ta (tx.drop n) (by omega), rfl⟩)
  have three := ev_bin eto efr1 (addS (by simp only [LIM]; omega))
  have four := ev_bin e17 (ev_con (d := .str " 0d")) (by rw [s_w0d]; exact addS (by simp only [LIM, List.length_cons, List.length_nil]; omega))
  refine go_forD (R := TxD) (dl_ev e17 ⟨cs, tx, rfl⟩ (dl_cons two (dl_ev three ⟨_, app (tx.take n) (tx.drop (n + 1)) (by omega), rfl⟩ (dl_ev four ⟨_, app tx (tx_small (cs := [32, 48, 100])) (by simp only [List.length_cons, List.length_nil]; omega), rfl⟩ (dl_ev (ev_con (d := .str "3d 2s")) ⟨[51, 100, 32, 50, 115], tx_small, by rw [s_3d]⟩ (dl_ev (ev_con (d := .str "")) ⟨[], tx_small, by rw [s_nil]⟩ dl_nil)))))) (by simp [LIM]) fun ds hd => ?_
  refine loop_mem TxD (fun ρ => ∃ x2 x3 x4 x5 x6 x7 x8 x9 x10 x11 x12 x13 x14 x15 x16 x17 x18 x19 x20 x21, ρ = [x0, .w, x2, x3, x4, x5, x6, x7, x8, x9, x10, x11, x12, x13, x14, x15, x16, x17, x18, x19, x20, x21]) (fun d ρ hd hI J hJ => ?_) (fun ρ hI => ?_) ds _ hd ⟨_, _, _, _, _, _, _, _, _, _, _, _, _, _, _, _, _, _, _, _, rfl⟩
  · obtain ⟨x2, x3, x4, x5, x6, x7, x8, x9, x10, x11, x12, x13, x14, x15, x16, x17, x18, x19, x20, x21, rfl⟩ := hI
    obtain ⟨a, ta, rfl⟩ := hd
    refine f2_ok ta ?_
    intros
    exact hJ _ ⟨_, _, _, _, _, _, _, _, _, _, _, _, _, _, _, _, _, _, _, _, rfl⟩
  · obtain ⟨x2, x3, x4, x5, x6, x7, x8, x9, x10, x11, x12, x13, x14, x15, x16, x17, x18, x19, x20, x21, rfl⟩ := hI
    exact h _ _ _ _ _ _ _ _ _ _ _ _ _ _ _ _ _ _ _ _
def nat3 (x : Nat × Nat × Nat) : Int × Int × Int := ((x.1 : Int), (x.2.1 : Int), (x.2.2 : Int))
theorem s2_ok {y : Nat × Nat × Nat} (hy : Sm y) (h1 : y.2.1 < 20) (h2 : y.2.2 < 12) (h : ∀ x2 x3 x4 x5 x6 x7 x8 x9 x10 x11 x12 x13 x14 x15 x16 x17 x18 x19 x20 x21, P.nx [x0, .w, x2, x3, x4, x5, x6, x7, x8, x9, x10, x11, x12, x13, x14, x15, x16, x17, x18, x19, x20, x21]) : t_law_s2 spNext spText spText spParse spRead P [x0, .w, x2, x3, x4, x5, x6, .fz (nc3 y), x8, x9, x10, x11, x12, x13, x14, x15, x16, x17, x18, x19, x20, x21] := by
  unfold t_law_s2
  have e7 : Ev (wVar 7) [x0, .w, x2, x3, x4, x5, x6, .fz (nc3 y), x8, x9, x10, x11, x12, x13, x14, x15, x16, x17, x18, x19, x20, x21] (nc3 y) .fz := ev_var rfl
  have dn : ∀ m : Int, 0 < m → Dm (wCall spNext (xW 1 (xCons (wCon (.int m)) xNil))) [x0, .w, x2, x3, x4, x5, x6, .fz (nc3 y), x8, x9, x10, x11, x12, x13, x14, x15, x16, x17, x18, x19, x20, x21] (fun d => ∃ r, d = .int r ∧ 0 ≤ r ∧ r < m) := fun m hm => dm_next rfl ev_con hm
  have sm : Dm (wIfE (wTest (wBin bEq (wCall spNext (xW 1 (xCons (wCon (.int 2)) xNil))) (wCon (.int 0)))) (wVar 7) (wTup (wConsF (wCon (.int 0)) (wConsF (wBin bMul (wBin bSubs (wVar 7) (wCon (.int 1))) (wCall spNext (xW 1 (xCons (wCon (.int 2)) xNil)))) (wConsF (wBin bMul (wBin bSubs (wVar 7) (wCon (.int 2))) (wCall spNext (xW 1 (xCons (wCon (.int 2)) xNil)))) wNil))))) [x0, .w, x2, x3, x4, x5, x6, .fz (nc3 y), x8, x9, x10, x11, x12, x13, x14, x15, x16, x17, x18, x19, x20, x21] (fun d => ∃ z, Sm z ∧ z.2.1 < 20 ∧ z.2.2 < 12 ∧ d = nc3 z) := by
    refine dm_if (dt_eq (V := fun r => 0 ≤ r ∧ r < 2) (dn 2 (by decide)) ev_con) (dm_ev e7 ⟨y, hy, h1, h2, rfl⟩) ?_
    refine dm_mono (dm_tup3 (dm_ev (R := fun d => d = .int 0) ev_con rfl) (dm_bin (f := bMul) (T := fun d => ∃ b : Nat, b ≤ y.2.1 ∧ d = .int (b : Int)) (dm_ev (R := fun d => d = .int (y.2.1 : Int)) (ev_bin e7 ev_con rfl) rfl) (dn 2 (by decide)) ?_) (dm_bin (f := bMul) (T := fun d => ∃ b : Nat, b ≤ y.2.2 ∧ d = .int (b : Int)) (dm_ev (R := fun d => d = .int (y.2.2 : Int)) (ev_bin e7 ev_con rfl) rfl) (dn 2 (by decide)) ?_)) ?_
    · rintro d e rfl ⟨r, rfl, r0, r1⟩
      refine ⟨_, mul_r (by omega), y.2.1 * r.toNat, ?_, ?_⟩
      · obtain rfl | rfl : r = 0 ∨ r = 1 := by omega
        · simp
        · simp
      · rw [Int.natCast_mul, Int.toNat_of_nonneg r0]
    · rintro d e rfl ⟨r, rfl, r0, r1⟩
      refine ⟨_, mul_r (by omega), y.2.2 * r.toNat, ?_, ?_⟩
      · obtain rfl | rfl : r = 0 ∨ r = 1 := by omega
        · simp
        · simp
      · rw [Int.natCast_mul, Int.toNat_of_nonneg r0]
    · rintro d ⟨_, _, _, rfl, rfl, ⟨a, ha, rfl⟩, ⟨b, hb, rfl⟩⟩
      exact ⟨(0, a, b), ⟨by simp, by show a < 100000; omega, by show b < 100000; omega⟩, by show a < 20; omega, by show b < 12; omega, rfl⟩
  refine sq_asgD sm fun d ⟨z, hz, z1, z2, e⟩ => ?_
  subst e
  refine sq_asg (d := .str (SX.S (txt z))) (ev_call (k := .fz) (ex_cons (ev_var rfl) ex_nil) fun q hq => ⟨z, hz, rfl, hq⟩) ?_
  refine (show wSeq _ _ _ [x0, .w, x2, x3, x4, x5, x6, .fz (nc3 y), x8, x9, x10, x11, x12, x13, x14, x15, .fz (nc3 z), .fz (.str (SX.S (txt z))), x18, x19, x20, x21] from ?_)
  obtain ⟨l1, l2⟩ := txt_tx hz
  have tx : Tx (txt z) := ⟨by omega, l2⟩
  have t1 := et_test (ev_bin (ev_call (k := .fz) (ex_cons (ev_var (ρ := [x0, .w, x2, x3, x4, x5, x6, .fz (nc3 y), x8, x9, x10, x11, x12, x13, x14, x15, .fz (nc3 z), .fz (.str (SX.S (txt z))), x18, x19, x20, x21]) (i := 16) rfl) ex_nil) (sp := spText) fun q hq => ⟨z, hz, rfl, hq⟩) (ev_txt (i := 17) rfl) (neS tx tx))
  rw [decide_eq_true (rfl : txt z = txt z)] at t1
  have t2 : Et (wTest (wBin bNe (wCallX spParse (xCons (wVar 17) xNil) fun _ _ => False) (wVar 16))) [x0, .w, x2, x3, x4, x5, x6, .fz (nc3 y), x8, x9, x10, x11, x12, x13, x14, x15, .fz (nc3 z), .fz (.str (SX.S (txt z))), x18, x19, x20, x21] false := et_test (ev_bin (d := nc3 z) (k := .fz) (fun Q q => by
    refine (ex_cons (ρ := [x0, .w, x2, x3, x4, x5, x6, .fz (nc3 y), x8, x9, x10, x11, x12, x13, x14, x15, .fz (nc3 z), .fz (.str (SX.S (txt z))), x18, x19, x20, x21]) (ev_txt (cs := txt z) (i := 17) rfl) ex_nil) _ ?_
    refine ⟨txt z, tx, rfl, ?_⟩
    rw [rd_txt hz z1 z2]
    exact q) (ev_var rfl) (bNe_self (gd_c3 (nat3 z))))
  refine sq_skip (et_or t1 (fun _ => t2)) ?_
  exact s1_ok l1 l2 h
def PairD (d : D) : Prop := ∃ a b, isSumD a b ∧ d = .tup [a, .bl b]
theorem s3_ok {y : Nat × Nat × Nat} {a b c : Int} (hy : Sm y) (h1 : y.2.1 < 20) (h2 : y.2.2 < 12) (ha : 0 ≤ a) (hb : 0 ≤ b) (hc : 0 ≤ c) (h : ∀ x2 x3 x4 x5 x6 x7 x8 x9 x10 x11 x12 x13 x14 x15 x16 x17 x18 x19 x20 x21, P.nx [x0, .w, x2, x3, x4, x5, x6, x7, x8, x9, x10, x11, x12, x13, x14, x15, x16, x17, x18, x19, x20, x21]) : t_law_s3 spIsSum spNext spText spText spParse spRead P [x0, .w, x2, x3, x4, .fz (c3 (a, b, c)), x6, .fz (nc3 y), x8, x9, x10, x11, x12, x13, x14, x15, x16, x17, x18, x19, x20, x21] := by
  unfold t_law_s3
  have e5 : Ev (wVar 5) [x0, .w, x2, x3, x4, .fz (c3 (a, b, c)), x6, .fz (nc3 y), x8, x9, x10, x11, x12, x13, x14, x15, x16, x17, x18, x19, x20, x21] (.tup [.int a, .int b, .int c]) .fz := ev_var rfl
  refine sq_asg (ev_andB (ev_bin (ev_bin (z := .int b) (kz := .fz) e5 ev_con rfl) ev_con i_lt) fun _ => ev_bin (ev_bin (z := .int c) (kz := .fz) e5 ev_con rfl) ev_con i_lt) ?_
  refine (show wSeq _ _ _ [x0, .w, x2, x3, x4, .fz (c3 (a, b, c)), x6, .fz (nc3 y), x8, x9, x10, x11, x12, .fz (.bl (decide (b < 20) && decide (c < 12))), x14, x15, x16, x17, x18, x19, x20, x21] from ?_)
  obtain ⟨y0, y1, y2⟩ := y
  have e7 : Ev (wVar 7) [x0, .w, x2, x3, x4, .fz (c3 (a, b, c)), x6, .fz (nc3 (y0, y1, y2)), x8, x9, x10, x11, x12, .fz (.bl (decide (b < 20) && decide (c < 12))), x14, x15, x16, x17, x18, x19, x20, x21] (.tup [.int (y0 : Int), .int (y1 : Int), .int (y2 : Int)]) .fz := ev_var rfl
  have e5 : Ev (wVar 5) [x0, .w, x2, x3, x4, .fz (c3 (a, b, c)), x6, .fz (nc3 (y0, y1, y2)), x8, x9, x10, x11, x12, .fz (.bl (decide (b < 20) && decide (c < 12))), x14, x15, x16, x17, x18, x19, x20, x21] (.tup [.int a, .int b, .int c]) .fz := ev_var rfl
  have e13 : Ev (wVar 13) [x0, .w, x2, x3, x4, .fz (c3 (a, b, c)), x6, .fz (nc3 (y0, y1, y2)), x8, x9, x10, x11, x12, .fz (.bl (decide (b < 20) && decide (c < 12))), x14, x15, x16, x17, x18, x19, x20, x21] (.bl (decide (b < 20) && decide (c < 12))) .fz := ev_var rfl
  have pr : ∀ {t u : WE} {ρ : Rho} {d : D} {b : Bool} {k : Kd}, k.ok = true → Ev t ρ d k → Ev u ρ (.bl b) .fz → Ev (wTup (wConsF t (wConsF u wNil))) ρ (.tup [d, .bl b]) .fz := fun hk h h' => ev_tup (ea_consF h (ea_consF h' ea_nil) hk)
  refine sq (go_forD (R := PairD) (dl_ev (pr rfl e7 ev_con) ⟨_, _, .inr (.inr ⟨[(y0 : Int), (y1 : Int), (y2 : Int)], rfl, by simp, ?_⟩), rfl⟩
    (dl_ev (pr rfl e5 e13) ⟨_, _, .inr (.inr ⟨[a, b, c], rfl, by simp, ?_⟩), rfl⟩
    (dl_ev (pr rfl (ev_cl (ea_cons e7 ea_nil) cLst_t) ev_con) ⟨_, _, .inr (.inl ⟨_, rfl, rfl⟩), rfl⟩
    (dl_ev (pr rfl (ev_slh e7 (slT_to (k := 2))) ev_con) ⟨_, _, .inr (.inr ⟨[(y0 : Int), (y1 : Int)], rfl, by simp, ?_⟩), rfl⟩
    (dl_ev (pr (k := .fz) rfl (ev_bin (ev_tup (ea_consF (ev_bin (ev_con (d := .int 0)) (ev_con (d := .int 1)) bSub_i) ea_nil)) (ev_sl1 (lo := none) (m := 0) e7 (slT_from (k := 1))) (by rw [bAdd_t, if_pos (by simp [LIM])]; rfl)) ev_con) ⟨_, _, .inr (.inr ⟨[-1, (y1 : Int), (y2 : Int)], rfl, by simp, ?_⟩), rfl⟩
    (dl_ev (pr rfl ev_con ev_con) ⟨.non, false, .inl ⟨rfl, rfl⟩, rfl⟩ dl_nil)))))) (by simp [LIM]) fun ds hd => ?_)
  · unfold isSumI
    have h1 : y1 < 20 := h1
    have h2 : y2 < 12 := h2
    simp; omega
  · unfold isSumI
    simp [ha, hb, hc]
  · unfold isSumI
    simp
  · unfold isSumI
    simp
  · refine loop_mem PairD (fun ρ => ∃ x14 x15, ρ = [x0, .w, x2, x3, x4, .fz (c3 (a, b, c)), x6, .fz (nc3 (y0, y1, y2)), x8, x9, x10, x11, x12, .fz (.bl (decide (b < 20) && decide (c < 12))), x14, x15, x16, x17, x18, x19, x20, x21]) (fun d ρ hd hI J hJ => ?_) (fun ρ hI => ?_) ds _ hd ⟨_, _, rfl⟩
    · obtain ⟨x14, x15, rfl⟩ := hI
      obtain ⟨e, f, he, rfl⟩ := hd
      refine ⟨rfl, ?_⟩
      refine (show t_law_f1 spIsSum _ [x0, .w, x2, x3, x4, .fz (c3 (a, b, c)), x6, .fz (nc3 (y0, y1, y2)), x8, x9, x10, x11, x12, .fz (.bl (decide (b < 20) && decide (c < 12))), .fz e, .fz (.bl f), x16, x17, x18, x19, x20, x21] from ?_)
      unfold t_law_f1
      refine go_skip (et_test (b := false) (ev_bin (ev_call (d := .bl f) (k := .fz) (ex_cons (ev_var rfl) ex_nil) fun q hq => ⟨e, f, he, rfl, hq⟩) (ev_var rfl) (by rw [bNe_b, bne_self_eq_false]))) ?_
      exact hJ _ ⟨_, _, rfl⟩
    · obtain ⟨x14, x15, rfl⟩ := hI
      exact s2_ok hy h1 h2 h
theorem pl_nat {p : Int} (h0 : 0 ≤ p) (h1 : p < 10000) : ∃ y : Nat × Nat × Nat, Sm y ∧ y.2.1 < 20 ∧ y.2.2 < 12 ∧ c3 (pl3 p) = nc3 y := by
  refine ⟨((p / 240).toNat, (p / 12 % 20).toNat, (p % 12).toNat), ⟨?_, ?_, ?_⟩, ?_, ?_, ?_⟩
  · show (p / 240).toNat < 100000; omega
  · show (p / 12 % 20).toNat < 100000; omega
  · show (p % 12).toNat < 100000; omega
  · show (p / 12 % 20).toNat < 20; omega
  · show (p % 12).toNat < 12; omega
  · show D.tup [.int (p / 240), .int (p / 12 % 20), .int (p % 12)] = .tup [.int ((p / 240).toNat : Int), .int ((p / 12 % 20).toNat : Int), .int ((p % 12).toNat : Int)]
    rw [Int.toNat_of_nonneg (by omega), Int.toNat_of_nonneg (by omega), Int.toNat_of_nonneg (by omega)]
theorem s5_ok {a b c m : Int} (ha : 0 ≤ a) (hb : 0 ≤ b) (hc : 0 ≤ c) (hp : pen (a, b, c) < 10000) (hm : 0 ≤ m) (hm1 : m < 5) (h : ∀ x2 x3 x4 x5 x6 x7 x8 x9 x10 x11 x12 x13 x14 x15 x16 x17 x18 x19 x20 x21, P.nx [x0, .w, x2, x3, x4, x5, x6, x7, x8, x9, x10, x11, x12, x13, x14, x15, x16, x17, x18, x19, x20, x21]) :
    t_law_s5 spParted spPlain spPence spIsSum spNext spText spText spParse spRead P [x0, .w, x2, x3, x4, .fz (c3 (a, b, c)), .fz (.int (pen (a, b, c))), .fz (c3 (pl3 (pen (a, b, c)))), .fz (.int m), x9, x10, x11, x12, x13, x14, x15, x16, x17, x18, x19, x20, x21] := by
  have hp0 : 0 ≤ pen (a, b, c) := by unfold pen; show 0 ≤ (a * 20 + b) * 12 + c; omega
  unfold t_law_s5
  refine sq_asgT2 (l := 0) (a := c3 (pl3 (pen (a, b, c) / (m + 1)))) (b := c3 (pl3 (pen (a, b, c) % (m + 1)))) (ev_call (k := .fz) (ex_cons (ev_var rfl) (ex_cons (ev_bin (ev_var rfl) ev_con bAdd_i) ex_nil)) fun q hq => ⟨(a, b, c), m + 1, by omega, by omega, rfl, hq⟩) ?_
  generalize hpp : pen (a, b, c) = p at *
  have hr0 : 0 ≤ p % (m + 1) := Int.emod_nonneg _ (by omega)
  have hr1 : p % (m + 1) < m + 1 := Int.emod_lt_of_pos _ (by omega)
  have hd0 : 0 ≤ p / (m + 1) := Int.ediv_nonneg hp0 (by omega)
  refine (show wSeq _ _ _ [x0, .w, x2, x3, x4, .fz (c3 (a, b, c)), .fz (.int p), .fz (c3 (pl3 p)), .fz (.int m), x9, x10, .fz (c3 (pl3 (p / (m + 1)))), .fz (c3 (pl3 (p % (m + 1)))), x13, x14, x15, x16, x17, x18, x19, x20, x21] from ?_)
  have e6 : Ev (wVar 6) [x0, .w, x2, x3, x4, .fz (c3 (a, b, c)), .fz (.int p), .fz (c3 (pl3 p)), .fz (.int m), x9, x10, .fz (c3 (pl3 (p / (m + 1)))), .fz (c3 (pl3 (p % (m + 1)))), x13, x14, x15, x16, x17, x18, x19, x20, x21] (.int p) .fz := ev_var rfl
  have e8 : Ev (wVar 8) [x0, .w, x2, x3, x4, .fz (c3 (a, b, c)), .fz (.int p), .fz (c3 (pl3 p)), .fz (.int m), x9, x10, .fz (c3 (pl3 (p / (m + 1)))), .fz (c3 (pl3 (p % (m + 1)))), x13, x14, x15, x16, x17, x18, x19, x20, x21] (.int m) .fz := ev_var rfl
  have m1 := ev_bin e8 (ev_con (d := .int 1)) bAdd_i
  have e11 : Ev (wCall spPence (xCons (wVar 11) xNil)) [x0, .w, x2, x3, x4, .fz (c3 (a, b, c)), .fz (.int p), .fz (c3 (pl3 p)), .fz (.int m), x9, x10, .fz (c3 (pl3 (p / (m + 1)))), .fz (c3 (pl3 (p % (m + 1)))), x13, x14, x15, x16, x17, x18, x19, x20, x21] (.int (p / (m + 1))) .fz := ev_call (ex_cons (ev_var rfl) ex_nil) fun q hq => ⟨_, rfl, by rw [pen_pl]; exact hq⟩
  have e12 : Ev (wCall spPence (xCons (wVar 12) xNil)) [x0, .w, x2, x3, x4, .fz (c3 (a, b, c)), .fz (.int p), .fz (c3 (pl3 p)), .fz (.int m), x9, x10, .fz (c3 (pl3 (p / (m + 1)))), .fz (c3 (pl3 (p % (m + 1)))), x13, x14, x15, x16, x17, x18, x19, x20, x21] (.int (p % (m + 1))) .fz := ev_call (ex_cons (ev_var rfl) ex_nil) fun q hq => ⟨_, rfl, by rw [pen_pl]; exact hq⟩
  refine sq_skip (et_or (b := false) (b' := false) (et_test (ev_bin (ev_var rfl) (ev_call (k := .fz) (ex_cons (ev_bin e6 m1 (bDiv_p ⟨by omega, by omega⟩)) ex_nil) fun q hq => ⟨_, hd0, rfl, hq⟩) (bNe_self (gd_c3 _)))) (fun _ => et_test (ev_bin (ev_bin (ev_bin e11 m1 (mul_r (by omega))) e12 bAdd_i) e6 (by
    rw [bNe_i, decide_eq_true (show p / (m + 1) * (m + 1) + p % (m + 1) = p by rw [Int.mul_comm]; exact Int.mul_ediv_add_emod _ _)]; rfl)))) ?_
  unfold t_law_s4
  refine sq_skip (et_or (b := false) (b' := false) (et_not (b := true) (et_test (ev_chain (b := true) (b' := true) (ev_con (d := .int 0)) e12 (by rw [i_le, decide_eq_true hr0]) (fun _ => e8) (fun _ => by rw [i_le, decide_eq_true (by omega)])))) (fun _ => et_test (ev_bin (ev_var rfl) (ev_call (k := .fz) (ex_cons e12 ex_nil) fun q hq => ⟨_, hr0, rfl, hq⟩) (bNe_self (gd_c3 _))))) ?_
  obtain ⟨y, hy, h1, h2, e⟩ := pl_nat hp0 hp
  rw [e]
  exact s3_ok hy h1 h2 ha hb hc h
def Row3 (d : D) : Prop := ∃ x : Int × Int × Int, 0 ≤ pen x ∧ d = c3 x
theorem rows3 : ∀ {ds : List D}, (∀ d ∈ ds, Row3 d) → ∃ l : List (Int × Int × Int), ds = l.map c3 ∧ ∀ x ∈ l, 0 ≤ pen x
  | [], _ => ⟨[], rfl, by simp⟩
  | d :: ds, h => by
    obtain ⟨x, h1, rfl⟩ := h d (List.mem_cons_self ..)
    obtain ⟨l, rfl, h2⟩ := rows3 fun e he => h e (List.mem_cons_of_mem _ he)
    exact ⟨x :: l, rfl, fun y hy => by
      rcases List.mem_cons.mp hy with rfl | hy
      · exact h1
      · exact h2 y hy⟩
theorem sum_nn : ∀ {l : List (Int × Int × Int)}, (∀ x ∈ l, 0 ≤ pen x) → 0 ≤ (l.map pen).sum
  | [], _ => by simp
  | x :: l, h => by
    have h1 := h x (List.mem_cons_self ..)
    have h2 := sum_nn fun y hy => h y (List.mem_cons_of_mem _ hy)
    rw [List.map_cons, List.sum_cons]; omega
theorem draw3 {ρ : Rho} (hw : ρ[1]? = some .w) (A B C : Int) (hA : 0 < A) (hB : 0 < B) (hC : 0 < C) : Dm (wTup (wConsF (wCall spNext (xW 1 (xCons (wCon (.int A)) xNil))) (wConsF (wCall spNext (xW 1 (xCons (wCon (.int B)) xNil))) (wConsF (wCall spNext (xW 1 (xCons (wCon (.int C)) xNil))) wNil)))) ρ (fun d => ∃ a b c : Int, d = c3 (a, b, c) ∧ 0 ≤ a ∧ a < A ∧ 0 ≤ b ∧ b < B ∧ 0 ≤ c ∧ c < C) :=
  dm_mono (dm_tup3 (dm_next hw ev_con hA) (dm_next hw ev_con hB) (dm_next hw ev_con hC)) fun d ⟨_, _, _, e, ⟨a, ea, a0, a1⟩, ⟨b, eb, b0, b1⟩, ⟨c, ec, c0, c1⟩⟩ => ⟨a, b, c, by rw [e, ea, eb, ec]; rfl, a0, a1, b0, b1, c0, c1⟩
theorem f3_ok (h : ∀ x2 x3 x4 x5 x6 x7 x8 x9 x10 x11 x12 x13 x14 x15 x16 x17 x18 x19 x20 x21, P.nx [x0, .w, x2, x3, x4, x5, x6, x7, x8, x9, x10, x11, x12, x13, x14, x15, x16, x17, x18, x19, x20, x21]) : t_law_f3 spNext spPlain spPence spSumOf spAdded spTimes spParted spIsSum spText spText spParse spRead P [x0, .w, x2, x3, x4, x5, x6, x7, x8, x9, x10, x11, x12, x13, x14, x15, x16, x17, x18, x19, x20, x21] := by
  unfold t_law_f3
  refine sq_asgDN (R := fun d => ∃ l : List (Int × Int × Int), d = .lst (l.map c3) ∧ l.length ≤ 3 ∧ ∀ x ∈ l, 0 ≤ pen x) (fun Q q => ?_) fun d ⟨l, e, hl, hn⟩ => ?_
  · refine dmN_comp (i := 4) (R := Row3) (B := 3) (by simp [LIM]) (fun Q q => ?_) (fun x => ?_) rfl (fun _ => rfl) Q fun ds h1 h2 => ?_
    · rw [wiR1_e]
      simp only [wCons, wNil]
      refine (dm_next rfl ev_con (by decide) : Dm (wCall spNext (xW 1 (xCons (wCon (.int 4)) xNil))) [x0, .w, x2, x3, x4, x5, x6, x7, x8, x9, x10, x11, x12, x13, x14, x15, x16, x17, x18, x19, x20, x21] _) _ fun d ⟨r, e, r0, r1⟩ => ?_
      subst e
      refine ⟨by unfold i62; omega, q _ ?_⟩
      rw [rng_ir, List.length_map, ir_len]
      omega
    · unfold t_law_c1
      exact dm_mono (draw3 rfl 4 30 20 (by decide) (by decide) (by decide)) fun d ⟨a, b, c, e, h⟩ => ⟨(a, b, c), by unfold pen; show 0 ≤ (a * 20 + b) * 12 + c; omega, e⟩
    · obtain ⟨l, rfl, h3⟩ := rows3 h2
      exact q _ ⟨l, rfl, by rw [List.length_map] at h1; exact h1, h3⟩
  · subst e
    refine (show wSeq _ _ _ [x0, .w, x2, .ow (.lst (l.map c3)), x4, x5, x6, x7, x8, x9, x10, x11, x12, x13, x14, x15, x16, x17, x18, x19, x20, x21] from ?_)
    refine sq_asgD (draw3 rfl 12 30 30 (by decide) (by decide) (by decide)) fun d ⟨a, b, c, e, a0, a1, b0, b1, c0, c1⟩ => ?_
    subst e
    refine (show wSeq _ _ _ [x0, .w, x2, .ow (.lst (l.map c3)), x4, .fz (c3 (a, b, c)), x6, x7, x8, x9, x10, x11, x12, x13, x14, x15, x16, x17, x18, x19, x20, x21] from ?_)
    have e5 : Ev (wVar 5) [x0, .w, x2, .ow (.lst (l.map c3)), x4, .fz (c3 (a, b, c)), x6, x7, x8, x9, x10, x11, x12, x13, x14, x15, x16, x17, x18, x19, x20, x21] (.tup [.int a, .int b, .int c]) .fz := ev_var rfl
    refine sq_asg (ev_bin (ev_bin (ev_bin (ev_bin (z := .int a) (kz := .fz) e5 ev_con rfl) ev_con (mul_r (by decide))) (ev_bin (ev_bin (z := .int b) (kz := .fz) e5 ev_con rfl) ev_con (mul_r (by decide))) bAdd_i) (ev_bin (z := .int c) (kz := .fz) e5 ev_con rfl) bAdd_i) ?_
    have ep : a * 240 + b * 12 + c = pen (a, b, c) := by unfold pen; show _ = (a * 20 + b) * 12 + c; omega
    rw [ep]
    have hp0 : 0 ≤ pen (a, b, c) := by rw [← ep]; omega
    have hp1 : pen (a, b, c) < 10000 := by rw [← ep]; omega
    refine sq_par2D (R := fun d => d = c3 (pl3 (pen (a, b, c)))) (dm_ev (ev_call (k := .fz) (ex_cons (ev_var rfl) ex_nil) fun q hq => ⟨_, hp0, rfl, hq⟩) rfl) (dm_next rfl ev_con (by decide)) fun d e hd ⟨m, he, m0, m1⟩ => ?_
    subst hd
    subst he
    refine (show wSeq _ _ _ [x0, .w, x2, .ow (.lst (l.map c3)), x4, .fz (c3 (a, b, c)), .fz (.int (pen (a, b, c))), .fz (c3 (pl3 (pen (a, b, c)))), .fz (.int m), x9, x10, x11, x12, x13, x14, x15, x16, x17, x18, x19, x20, x21] from ?_)
    have es := ev_comp1 (ρ := [x0, .w, x2, .ow (.lst (l.map c3)), x4, .fz (c3 (a, b, c)), .fz (.int (pen (a, b, c))), .fz (c3 (pl3 (pen (a, b, c)))), .fz (.int m), x9, x10, x11, x12, x13, x14, x15, x16, x17, x18, x19, x20, x21]) (wi := wiO (wVar 3)) (i := 10) (tt := wYes) (t := t_law_c2) (k := .fz) c3 (fun _ => true) (fun x => .int (pen x)) l (ei_lst (ev_own rfl)) (by simp only [LIM]; omega) (fun _ _ => et_yes) (fun x _ _ => by
      unfold t_law_c2
      obtain ⟨u, v, w⟩ := x
      have ex : Ev (wVar 10) ((wipeR [x0, .w, x2, .ow (.lst (l.map c3)), x4, .fz (c3 (a, b, c)), .fz (.int (pen (a, b, c))), .fz (c3 (pl3 (pen (a, b, c)))), .fz (.int m), x9, x10, x11, x12, x13, x14, x15, x16, x17, x18, x19, x20, x21] [10]).set 10 (.fz (c3 (u, v, w)))) (.tup [.int u, .int v, .int w]) .fz := ev_var rfl
      have ep : u * 240 + v * 12 + w = pen (u, v, w) := by unfold pen; show _ = (u * 20 + v) * 12 + w; omega
      rw [← ep]
      exact ev_bin (ev_bin (ev_bin (ev_bin (z := .int u) (kz := .fz) ex ev_con rfl) ev_con (mul_r (by decide))) (ev_bin (ev_bin (z := .int v) (kz := .fz) ex ev_con rfl) ev_con (mul_r (by decide))) bAdd_i) (ev_bin (z := .int w) (kz := .fz) ex ev_con rfl) bAdd_i)
    rw [List.filter_eq_self.mpr (by simp)] at es
    refine sq_asg (ev_cl (z := .int (l.map pen).sum) (kz := .fz) (ea_cons es ea_nil) (by
      have : (l.map fun x => D.int (pen x)) = (l.map pen).map .int := by rw [List.map_map]; rfl
      rw [this]
      exact cSum_ints _)) ?_
    refine (show wSeq _ _ _ [x0, .w, x2, .ow (.lst (l.map c3)), x4, .fz (c3 (a, b, c)), .fz (.int (pen (a, b, c))), .fz (c3 (pl3 (pen (a, b, c)))), .fz (.int m), .fz (.int (l.map pen).sum), x10, x11, x12, x13, x14, x15, x16, x17, x18, x19, x20, x21] from ?_)
    have hsn := sum_nn hn
    refine sq_skip (et_or (b := false) (b' := false) (et_test (ev_bin (ev_call (d := .int (pen (a, b, c))) (k := .fz) (ex_cons (ev_var rfl) ex_nil) fun q hq => ⟨_, rfl, hq⟩) (ev_var rfl) (by rw [bNe_i, decide_eq_true rfl]; rfl)))
      fun _ => et_or (b := false) (b' := false) (et_test (ev_bin (ev_call (k := .fz) (ex_cons (ev_var rfl) ex_nil) fun q hq => ⟨pen (a, b, c), rfl, hq⟩) (ev_var rfl) (bNe_self (gd_c3 _))))
      fun _ => et_or (b := false) (b' := false) (et_test (ev_bin (ev_call (k := .fz) (ex_cons (ev_cl (ea_cons (ev_own rfl) ea_nil) cTup_l) ex_nil) fun q hq => ⟨l, by omega, rfl, hq⟩) (ev_call (k := .fz) (ex_cons (ev_var rfl) ex_nil) fun q hq => ⟨(l.map pen).sum, hsn, rfl, hq⟩) (bNe_self (gd_c3 _))))
      fun _ => et_test (ev_bin (ev_call (k := .fz) (ex_cons (ev_var rfl) (ex_cons (ev_var rfl) ex_nil)) fun q hq => ⟨(a, b, c), m, by omega, rfl, hq⟩) (ev_call (k := .fz) (ex_cons (ev_bin (ev_var rfl) (ev_var rfl) (mul_r (by omega))) ex_nil) fun q hq => ⟨pen (a, b, c) * m, Int.mul_nonneg hp0 m0, rfl, hq⟩) (bNe_self (gd_c3 _)))) ?_
    exact s5_ok a0 b0 c0 hp1 m0 m1 h
end
theorem p_law (ns : List Int) (hn : ns.length ≤ 63) : t_law spNext spPlain spTimes spAdded spSumOf spPence spParted spIsSum spText spParse spText spRead ⟨fun _ => False, fun d _ => d = .bl true, fun _ => False, fun _ => False⟩ (.fz (.fl (ns.map .int)) :: .w :: List.replicate 20 .un) := by
  unfold t_law
  refine sq (go_for (ei_r1 (n := 5) (ea_cons ev_con ea_nil) (by decide)) ?_)
  generalize (List.range 5).map (fun k : Nat => D.int (k : Int)) = xs
  refine loop_inv (fun _ ρ => ∃ x2 x3 x4 x5 x6 x7 x8 x9 x10 x11 x12 x13 x14 x15 x16 x17 x18 x19 x20 x21 : Slot, ρ = [.fz (.fl (ns.map .int)), .w, x2, x3, x4, x5, x6, x7, x8, x9, x10, x11, x12, x13, x14, x15, x16, x17, x18, x19, x20, x21]) (fun x r ρ hI J hJ => ?_) (fun ρ hI => ?_) _ _ ⟨_, _, _, _, _, _, _, _, _, _, _, _, _, _, _, _, _, _, _, _, rfl⟩
  · obtain ⟨x2, x3, x4, x5, x6, x7, x8, x9, x10, x11, x12, x13, x14, x15, x16, x17, x18, x19, x20, x21, rfl⟩ := hI
    refine (show t_law_f3 spNext spPlain spPence spSumOf spAdded spTimes spParted spIsSum spText spText spParse spRead _ [.fz (.fl (ns.map .int)), .w, .fz x, x3, x4, x5, x6, x7, x8, x9, x10, x11, x12, x13, x14, x15, x16, x17, x18, x19, x20, x21] from ?_)
    refine f3_ok ?_
    intros
    exact hJ _ ⟨_, _, _, _, _, _, _, _, _, _, _, _, _, _, _, _, _, _, _, _, rfl⟩
  · obtain ⟨x2, x3, x4, x5, x6, x7, x8, x9, x10, x11, x12, x13, x14, x15, x16, x17, x18, x19, x20, x21, rfl⟩ := hI
    rfl
end K22

namespace K22
open PySem PySem.Spec PyProof.Rows L2 VL
/-! ### what the top has written; the law's own head -/
theorem all_mk {l : PySem.W.OpenLaw} {w : World} {K : PySem.W.Frag} {h : Heap} {mg : Str → Option Value} {fa f1 f2 f3 f4 f5 f6 f7 f8 f9 f10 f11 f12 f13 f14 f15 f16 f17 : Addr} (X : K.In h) (G : h.Ns mainGlobals mg) (hfa : mg "law" = some (.ref fa)) {od1 an1 : Option Addr} {sl1 : Array (Option Value)} {oc1 kV1 dc1 pm1 cd1 ct1 : Value} {od2 an2 : Option Addr} {sl2 : Array (Option Value)} {oc2 kV2 dc2 pm2 cd2 ct2 : Value} {od3 an3 : Option Addr} {sl3 : Array (Option Value)} {oc3 kV3 dc3 pm3 cd3 ct3 : Value} {od4 an4 : Option Addr} {sl4 : Array (Option Value)} {oc4 kV4 dc4 pm4 cd4 ct4 : Value} {od5 an5 : Option Addr} {sl5 : Array (Option Value)} {oc5 kV5 dc5 pm5 cd5 ct5 : Value} {od6 an6 : Option Addr} {sl6 : Array (Option Value)} {oc6 kV6 dc6 pm6 cd6 ct6 : Value} {od7 an7 : Option Addr} {sl7 : Array (Option Value)} {oc7 kV7 dc7 pm7 cd7 ct7 : Value} {od8 an8 : Option Addr} {sl8 : Array (Option Value)} {oc8 kV8 dc8 pm8 cd8 ct8 : Value} {od9 an9 : Option Addr} {sl9 : Array (Option Value)} {oc9 kV9 dc9 pm9 cd9 ct9 : Value} {od10 an10 : Option Addr} {sl10 : Array (Option Value)} {oc10 kV10 dc10 pm10 cd10 ct10 : Value} {od11 an11 : Option Addr} {sl11 : Array (Option Value)} {oc11 kV11 dc11 pm11 cd11 ct11 : Value} {od12 an12 : Option Addr} {sl12 : Array (Option Value)} {oc12 kV12 dc12 pm12 cd12 ct12 : Value} {od13 an13 : Option Addr} {sl13 : Array (Option Value)} {oc13 kV13 dc13 pm13 cd13 ct13 : Value} {od14 an14 : Option Addr} {sl14 : Array (Option Value)} {oc14 kV14 dc14 pm14 cd14 ct14 : Value} {od15 an15 : Option Addr} {sl15 : Array (Option Value)} {oc15 kV15 dc15 pm15 cd15 ct15 : Value} {od16 an16 : Option Addr} {sl16 : Array (Option Value)} {oc16 kV16 dc16 pm16 cd16 ct16 : Value} {od17 an17 : Option Addr} {sl17 : Array (Option Value)} {oc17 kV17 dc17 pm17 cd17 ct17 : Value}
    (a1 : PySem.W.nsIn K mainGlobals "is_number" = some (some (.ref f1))) (l1 : K.lookup f1 = some ⟨oc1, od1, .func (PySem.W.fnOf "is_number" "is_number" (defArgs s_is_number) (defBody s_is_number) (defScope s_is_number) .none kV1 dc1 pm1 an1 cd1 ct1), sl1⟩) (c1 : PySem.W.codeIn K cd1 "is_number" = true) (k1 : PySem.W.keepIn K (.ref f1) = true)
    (a2 : PySem.W.nsIn K mainGlobals "is_tuple_of" = some (some (.ref f2))) (l2 : K.lookup f2 = some ⟨oc2, od2, .func (PySem.W.fnOf "is_tuple_of" "is_tuple_of" (defArgs s_is_tuple_of) (defBody s_is_tuple_of) (defScope s_is_tuple_of) .none kV2 dc2 pm2 an2 cd2 ct2), sl2⟩) (c2 : PySem.W.codeIn K cd2 "is_tuple_of" = true) (k2 : PySem.W.keepIn K (.ref f2) = true)
    (a3 : PySem.W.nsIn K mainGlobals "is_sum" = some (some (.ref f3))) (l3 : K.lookup f3 = some ⟨oc3, od3, .func (PySem.W.fnOf "is_sum" "is_sum" (defArgs s_is_sum) (defBody s_is_sum) (defScope s_is_sum) .none kV3 dc3 pm3 an3 cd3 ct3), sl3⟩) (c3 : PySem.W.codeIn K cd3 "is_sum" = true) (k3 : PySem.W.keepIn K (.ref f3) = true)
    (a4 : PySem.W.nsIn K mainGlobals "pence_of" = some (some (.ref f4))) (l4 : K.lookup f4 = some ⟨oc4, od4, .func (PySem.W.fnOf "pence_of" "pence_of" (defArgs s_pence_of) (defBody s_pence_of) (defScope s_pence_of) .none kV4 dc4 pm4 an4 cd4 ct4), sl4⟩) (c4 : PySem.W.codeIn K cd4 "pence_of" = true) (k4 : PySem.W.keepIn K (.ref f4) = true)
    (a5 : PySem.W.nsIn K mainGlobals "sum_of" = some (some (.ref f5))) (l5 : K.lookup f5 = some ⟨oc5, od5, .func (PySem.W.fnOf "sum_of" "sum_of" (defArgs s_sum_of) (defBody s_sum_of) (defScope s_sum_of) .none kV5 dc5 pm5 an5 cd5 ct5), sl5⟩) (c5 : PySem.W.codeIn K cd5 "sum_of" = true) (k5 : PySem.W.keepIn K (.ref f5) = true)
    (a6 : PySem.W.nsIn K mainGlobals "added" = some (some (.ref f6))) (l6 : K.lookup f6 = some ⟨oc6, od6, .func (PySem.W.fnOf "added" "added" (defArgs s_added) (defBody s_added) (defScope s_added) .none kV6 dc6 pm6 an6 cd6 ct6), sl6⟩) (c6 : PySem.W.codeIn K cd6 "added" = true) (k6 : PySem.W.keepIn K (.ref f6) = true)
    (a7 : PySem.W.nsIn K mainGlobals "times_sum" = some (some (.ref f7))) (l7 : K.lookup f7 = some ⟨oc7, od7, .func (PySem.W.fnOf "times_sum" "times_sum" (defArgs s_times_sum) (defBody s_times_sum) (defScope s_times_sum) .none kV7 dc7 pm7 an7 cd7 ct7), sl7⟩) (c7 : PySem.W.codeIn K cd7 "times_sum" = true) (k7 : PySem.W.keepIn K (.ref f7) = true)
    (a8 : PySem.W.nsIn K mainGlobals "parted" = some (some (.ref f8))) (l8 : K.lookup f8 = some ⟨oc8, od8, .func (PySem.W.fnOf "parted" "parted" (defArgs s_parted) (defBody s_parted) (defScope s_parted) .none kV8 dc8 pm8 an8 cd8 ct8), sl8⟩) (c8 : PySem.W.codeIn K cd8 "parted" = true) (k8 : PySem.W.keepIn K (.ref f8) = true)
    (a9 : PySem.W.nsIn K mainGlobals "print_sum" = some (some (.ref f9))) (l9 : K.lookup f9 = some ⟨oc9, od9, .func (PySem.W.fnOf "print_sum" "print_sum" (defArgs s_print_sum) (defBody s_print_sum) (defScope s_print_sum) .none kV9 dc9 pm9 an9 cd9 ct9), sl9⟩) (c9 : PySem.W.codeIn K cd9 "print_sum" = true) (k9 : PySem.W.keepIn K (.ref f9) = true)
    (a10 : PySem.W.nsIn K mainGlobals "part_of" = some (some (.ref f10))) (l10 : K.lookup f10 = some ⟨oc10, od10, .func (PySem.W.fnOf "part_of" "part_of" (defArgs s_part_of) (defBody s_part_of) (defScope s_part_of) .none kV10 dc10 pm10 an10 cd10 ct10), sl10⟩) (c10 : PySem.W.codeIn K cd10 "part_of" = true) (k10 : PySem.W.keepIn K (.ref f10) = true)
    (a11 : PySem.W.nsIn K mainGlobals "parse_sum" = some (some (.ref f11))) (l11 : K.lookup f11 = some ⟨oc11, od11, .func (PySem.W.fnOf "parse_sum" "parse_sum" (defArgs s_parse_sum) (defBody s_parse_sum) (defScope s_parse_sum) .none kV11 dc11 pm11 an11 cd11 ct11), sl11⟩) (c11 : PySem.W.codeIn K cd11 "parse_sum" = true) (k11 : PySem.W.keepIn K (.ref f11) = true)
    (a12 : PySem.W.nsIn K mainGlobals "_law_draws" = some (some (.ref f12))) (l12 : K.lookup f12 = some ⟨oc12, od12, .func (PySem.W.fnOf "_law_draws" "_law_draws" (defArgs s__law_draws) (defBody s__law_draws) (defScope s__law_draws) .none kV12 dc12 pm12 an12 cd12 ct12), sl12⟩) (c12 : PySem.W.codeIn K cd12 "_law_draws" = true) (k12 : PySem.W.keepIn K (.ref f12) = true)
    (a13 : PySem.W.nsIn K mainGlobals "_law_next" = some (some (.ref f13))) (l13 : K.lookup f13 = some ⟨oc13, od13, .func (PySem.W.fnOf "_law_next" "_law_next" (defArgs s__law_next) (defBody s__law_next) (defScope s__law_next) .none kV13 dc13 pm13 an13 cd13 ct13), sl13⟩) (c13 : PySem.W.codeIn K cd13 "_law_next" = true) (k13 : PySem.W.keepIn K (.ref f13) = true)
    (a14 : PySem.W.nsIn K mainGlobals "_law_plain" = some (some (.ref f14))) (l14 : K.lookup f14 = some ⟨oc14, od14, .func (PySem.W.fnOf "_law_plain" "_law_plain" (defArgs s__law_plain) (defBody s__law_plain) (defScope s__law_plain) .none kV14 dc14 pm14 an14 cd14 ct14), sl14⟩) (c14 : PySem.W.codeIn K cd14 "_law_plain" = true) (k14 : PySem.W.keepIn K (.ref f14) = true)
    (a15 : PySem.W.nsIn K mainGlobals "_law_text" = some (some (.ref f15))) (l15 : K.lookup f15 = some ⟨oc15, od15, .func (PySem.W.fnOf "_law_text" "_law_text" (defArgs s__law_text) (defBody s__law_text) (defScope s__law_text) .none kV15 dc15 pm15 an15 cd15 ct15), sl15⟩) (c15 : PySem.W.codeIn K cd15 "_law_text" = true) (k15 : PySem.W.keepIn K (.ref f15) = true)
    (a16 : PySem.W.nsIn K mainGlobals "_law_read" = some (some (.ref f16))) (l16 : K.lookup f16 = some ⟨oc16, od16, .func (PySem.W.fnOf "_law_read" "_law_read" (defArgs s__law_read) (defBody s__law_read) (defScope s__law_read) .none kV16 dc16 pm16 an16 cd16 ct16), sl16⟩) (c16 : PySem.W.codeIn K cd16 "_law_read" = true) (k16 : PySem.W.keepIn K (.ref f16) = true)
    (a17 : PySem.W.nsIn K mainGlobals "law" = some (some (.ref f17))) (l17 : K.lookup f17 = some ⟨oc17, od17, .func (PySem.W.fnOf "law" "law" (defArgs s_law) (defBody s_law) (defScope s_law) .none kV17 dc17 pm17 an17 cd17 ct17), sl17⟩) (c17 : PySem.W.codeIn K cd17 "law" = true) (k17 : PySem.W.keepIn K (.ref f17) = true)
    {nmE qE : Str} {NE C B fI : Addr} {bsE : List Value} {snE : List Str} {sbE : List Value} {abE : Bool} {clE : Option Bool} {ddE : Option Addr} {mE0 mE1 mE2 mE3 mE5 : Option Value} {odI anI : Option Addr} {slI : Array (Option Value)} {ocI kVI dcI pmI cdI ctI : Value}
    (aC : PySem.W.nsIn K mainGlobals "BadText" = some (some (.ref C))) (aB : PySem.W.nsIn K mainGlobals "CharterError" = some (some (.ref B)))
    (xC : K.lookup C = some (excClassObj nmE qE C NE bsE [.ref B, .type "ValueError", .type "Exception", .type "BaseException", .type "object"] true snE sbE abE clE ddE mE0 mE1 mE2 mE3 mE5 "ValueError.__new__"))
    (sC : PySem.W.findIn K (.ref C) "__setattr__" = some (some (.builtin "object.__setattr__"))) (gaC : PySem.W.findIn K (.ref C) "__getattribute__" = some (some (.builtin "BaseException.__getattribute__"))) (ggC : PySem.W.findIn K (.ref C) "__getattr__" = some none) (nbC : PySem.W.findIn K (.ref C) "place" = some none)
    (iC : PySem.W.findIn K (.ref C) "__init__" = some (some (.ref fI))) (tI : PySem.W.typeIn K (.ref fI) = some (.type "function")) (kC : PySem.W.keepIn K (.ref C) = true) (eC : PySem.W.subIn K (.ref C) (.type "BaseException") = some true) (tC : PySem.W.typeIn K (.ref C) = some (.type "type")) (hC : PySem.W.hasDictIn K C = true)
    (clC : PySem.W.findIn K (.ref C) "__class__" = some (some (.builtin "object.__class__"))) (gsC : PySem.W.specialIn K (.builtin "object.__class__") "__get__" = some (some (.builtin "getset_descriptor.__get__"))) (tkC : PySem.W.takesIn K (.builtin "object.__class__") = some true) (mC : PySem.W.mroIn K C (.type "object") = some true) (suC : PySem.W.subIn K (.ref C) (.ref C) = some true)
    (lI : K.lookup fI = some ⟨ocI, odI, .func (PySem.W.fnOf "__init__" "BadText.__init__" (defArgs s_init) (defBody s_init) (defScope s_init) .none kVI dcI pmI anI cdI ctI), slI⟩) (cI : PySem.W.codeIn K cdI "BadText.__init__" = true) (kI : PySem.W.keepIn K (.ref fI) = true)
    (tyB : PySem.W.typeIn K (.ref B) = some (.type "type")) (rdB : PySem.W.readsIn K B (.type "type") = true) (gaB : PySem.W.specialIn K (.ref B) "__getattribute__" = some (some (.builtin "type.__getattribute__"))) (vVB : PySem.W.findCls K (.ref B) (.type "type") "__init__" = some (.val (.builtin "ValueError.__init__")))
    (z_isinstance : PySem.W.nsIn K mainGlobals "isinstance" = some none)
    (z_bool : PySem.W.nsIn K mainGlobals "bool" = some none)
    (z_int : PySem.W.nsIn K mainGlobals "int" = some none)
    (z_len : PySem.W.nsIn K mainGlobals "len" = some none)
    (z_tuple : PySem.W.nsIn K mainGlobals "tuple" = some none)
    (z_all : PySem.W.nsIn K mainGlobals "all" = some none)
    (z_sum : PySem.W.nsIn K mainGlobals "sum" = some none)
    (z_range : PySem.W.nsIn K mainGlobals "range" = some none)
    (z_str : PySem.W.nsIn K mainGlobals "str" = some none)
    (z_abs : PySem.W.nsIn K mainGlobals "abs" = some none)
    (z_list : PySem.W.nsIn K mainGlobals "list" = some none)
    {p_WORDS : Addr} {its_WORDS : Array Value} {n_WORDS : Nat} {sl_WORDS : Array (Option Value)} (g_WORDS : PySem.W.nsIn K mainGlobals "WORDS" = some (some (.ref p_WORDS))) (gl_WORDS : K.lookup p_WORDS = some ⟨.type "tuple", none, .seq its_WORDS n_WORDS, sl_WORDS⟩) (gz_WORDS : its_WORDS.size ≤ sizeLine) (gv_WORDS : Vals [V.str "li", V.str "s", V.str "d"] its_WORDS.toList)
    {t_DIGITS : Tok} (g_DIGITS : PySem.W.nsIn K mainGlobals "DIGITS" = some (some (.str "0123456789" t_DIGITS)))
    : ∃ fd : FuncData, (∀ (s : Shared) (v : Value), BindsTo s fd ⟨[v], []⟩ [("script", v)]) ∧ ∀ base : Heap, K.In base → base.Ns mainGlobals mg → FnOk l.prog w K mg base CX0 4 fa fd ["script"] (spLaw K) := by
  have e := hfa.symm.trans (PySem.W.mg_of X G a17)
  cases e
  have F1 := fun_mk (st := s_is_number) l1 c1 k1
  have b1 := F1.binds (ps := ["thing"]) fun _ _ _ _ _ _ us hl => match us, hl with | [_], _ => rfl
  let D1 : Df K mg "is_number" ["thing"] s_is_number := ⟨f1, _, F1, PySem.W.mg_of X G a1, b1⟩
  have F2 := fun_mk (st := s_is_tuple_of) l2 c2 k2
  have b2 := F2.binds (ps := ["thing", "many"]) fun _ _ _ _ _ _ us hl => match us, hl with | [_, _], _ => rfl
  let D2 : Df K mg "is_tuple_of" ["thing", "many"] s_is_tuple_of := ⟨f2, _, F2, PySem.W.mg_of X G a2, b2⟩
  have F3 := fun_mk (st := s_is_sum) l3 c3 k3
  have b3 := F3.binds (ps := ["thing"]) fun _ _ _ _ _ _ us hl => match us, hl with | [_], _ => rfl
  let D3 : Df K mg "is_sum" ["thing"] s_is_sum := ⟨f3, _, F3, PySem.W.mg_of X G a3, b3⟩
  have F4 := fun_mk (st := s_pence_of) l4 c4 k4
  have b4 := F4.binds (ps := ["coins"]) fun _ _ _ _ _ _ us hl => match us, hl with | [_], _ => rfl
  let D4 : Df K mg "pence_of" ["coins"] s_pence_of := ⟨f4, _, F4, PySem.W.mg_of X G a4, b4⟩
  have F5 := fun_mk (st := s_sum_of) l5 c5 k5
  have b5 := F5.binds (ps := ["pence"]) fun _ _ _ _ _ _ us hl => match us, hl with | [_], _ => rfl
  let D5 : Df K mg "sum_of" ["pence"] s_sum_of := ⟨f5, _, F5, PySem.W.mg_of X G a5, b5⟩
  have F6 := fun_mk (st := s_added) l6 c6 k6
  have b6 := F6.binds (ps := ["sums"]) fun _ _ _ _ _ _ us hl => match us, hl with | [_], _ => rfl
  let D6 : Df K mg "added" ["sums"] s_added := ⟨f6, _, F6, PySem.W.mg_of X G a6, b6⟩
  have F7 := fun_mk (st := s_times_sum) l7 c7 k7
  have b7 := F7.binds (ps := ["coins", "many"]) fun _ _ _ _ _ _ us hl => match us, hl with | [_, _], _ => rfl
  let D7 : Df K mg "times_sum" ["coins", "many"] s_times_sum := ⟨f7, _, F7, PySem.W.mg_of X G a7, b7⟩
  have F8 := fun_mk (st := s_parted) l8 c8 k8
  have b8 := F8.binds (ps := ["coins", "many"]) fun _ _ _ _ _ _ us hl => match us, hl with | [_, _], _ => rfl
  let D8 : Df K mg "parted" ["coins", "many"] s_parted := ⟨f8, _, F8, PySem.W.mg_of X G a8, b8⟩
  have F9 := fun_mk (st := s_print_sum) l9 c9 k9
  have b9 := F9.binds (ps := ["coins"]) fun _ _ _ _ _ _ us hl => match us, hl with | [_], _ => rfl
  let D9 : Df K mg "print_sum" ["coins"] s_print_sum := ⟨f9, _, F9, PySem.W.mg_of X G a9, b9⟩
  have F10 := fun_mk (st := s_part_of) l10 c10 k10
  have b10 := F10.binds (ps := ["text"]) fun _ _ _ _ _ _ us hl => match us, hl with | [_], _ => rfl
  let D10 : Df K mg "part_of" ["text"] s_part_of := ⟨f10, _, F10, PySem.W.mg_of X G a10, b10⟩
  have F11 := fun_mk (st := s_parse_sum) l11 c11 k11
  have b11 := F11.binds (ps := ["text"]) fun _ _ _ _ _ _ us hl => match us, hl with | [_], _ => rfl
  let D11 : Df K mg "parse_sum" ["text"] s_parse_sum := ⟨f11, _, F11, PySem.W.mg_of X G a11, b11⟩
  have F12 := fun_mk (st := s__law_draws) l12 c12 k12
  have b12 := F12.binds (ps := ["script", "many"]) fun _ _ _ _ _ _ us hl => match us, hl with | [_, _], _ => rfl
  let D12 : Df K mg "_law_draws" ["script", "many"] s__law_draws := ⟨f12, _, F12, PySem.W.mg_of X G a12, b12⟩
  have F13 := fun_mk (st := s__law_next) l13 c13 k13
  have b13 := F13.binds (ps := ["w", "many"]) fun _ _ _ _ _ _ us hl => match us, hl with | [_, _], _ => rfl
  let D13 : Df K mg "_law_next" ["w", "many"] s__law_next := ⟨f13, _, F13, PySem.W.mg_of X G a13, b13⟩
  have F14 := fun_mk (st := s__law_plain) l14 c14 k14
  have b14 := F14.binds (ps := ["pence"]) fun _ _ _ _ _ _ us hl => match us, hl with | [_], _ => rfl
  let D14 : Df K mg "_law_plain" ["pence"] s__law_plain := ⟨f14, _, F14, PySem.W.mg_of X G a14, b14⟩
  have F15 := fun_mk (st := s__law_text) l15 c15 k15
  have b15 := F15.binds (ps := ["coins"]) fun _ _ _ _ _ _ us hl => match us, hl with | [_], _ => rfl
  let D15 : Df K mg "_law_text" ["coins"] s__law_text := ⟨f15, _, F15, PySem.W.mg_of X G a15, b15⟩
  have F16 := fun_mk (st := s__law_read) l16 c16 k16
  have b16 := F16.binds (ps := ["text"]) fun _ _ _ _ _ _ us hl => match us, hl with | [_], _ => rfl
  let D16 : Df K mg "_law_read" ["text"] s__law_read := ⟨f16, _, F16, PySem.W.mg_of X G a16, b16⟩
  have F17 := fun_mk (st := s_law) l17 c17 k17
  have k_WORDS : GlobOk K mg "WORDS" d_WORDS := glob_ft X G g_WORDS gl_WORDS gz_WORDS gv_WORDS (fun G => by repeat (first | exact .nil | refine .cons (by first | exact .int _ | exact .str _) ?_))
  have k_DIGITS : GlobOk K mg "DIGITS" d_DIGITS := glob_str X G g_DIGITS
  have kt_WORDS : GlobTx K mg "WORDS" ["li", "s", "d"] := glob_tx X G g_WORDS gl_WORDS gz_WORDS gv_WORDS
  have m_isinstance := PySem.W.mg_none_of X G z_isinstance
  have m_bool := PySem.W.mg_none_of X G z_bool
  have m_int := PySem.W.mg_none_of X G z_int
  have m_len := PySem.W.mg_none_of X G z_len
  have m_tuple := PySem.W.mg_none_of X G z_tuple
  have m_all := PySem.W.mg_none_of X G z_all
  have m_sum := PySem.W.mg_none_of X G z_sum
  have m_range := PySem.W.mg_none_of X G z_range
  have m_str := PySem.W.mg_none_of X G z_str
  have m_abs := PySem.W.mg_none_of X G z_abs
  have m_list := PySem.W.mg_none_of X G z_list
  refine ⟨PySem.W.fnOf "law" "law" (defArgs s_law) (defBody s_law) (defScope s_law) .none kV17 dc17 pm17 an17 cd17 ct17, fun s v => .of_eq rfl, fun base _ _ => ?_⟩
  have OT : OexC K C := ⟨⟨nmE, qE, NE, bsE, _, snE, sbE, abE, clE, ddE, mE0, mE1, mE2, mE3, mE5, xC, rfl⟩, sC, eC, tC, kC⟩
  have O : OwnE K mg "BadText" "place" C fI := ⟨OT, ⟨gaC, ggC, eC, hC, clC, gsC, tkC, mC⟩, PySem.W.mg_of X G aC, nbC, PySem.W.exm_ref eC hC tC suC, iC, tI⟩
  have BE : BaseE K mg "CharterError" B := ⟨PySem.W.mg_of X G aB, tyB, rdB, gaB, vVB⟩
  have gB := BE.g
  have FIf := fun_mk (st := s_init) lI cI kI
  have bI := FIf.binds (ps := ["self", "place"]) fun _ _ _ _ _ _ us hl => match us, hl with | [_, _], _ => rfl
  have FI : FnOk l.prog w K mg base CX0 1 fI _ ["self", "place"] (spInit false C "place") := ok_init FIf OT nbC BE
  have O1 : OkF l.prog w base D1 1 spIsNum := ok_is_number m_isinstance m_bool m_int p_is_number
  have O2 : OkF l.prog w base D2 1 spIsTup := ok_is_tuple_of m_len m_isinstance m_tuple p_is_tuple_of
  have O3 : OkF l.prog w base D3 2 spIsSum := ok_is_sum O1 O2 m_all p_is_sum
  have O4 : OkF l.prog w base D4 1 spPence := ok_pence_of p_pence_of
  have O5 : OkF l.prog w base D5 1 spSumOf := ok_sum_of p_sum_of
  have O6 : OkF l.prog w base D6 2 spAdded := ok_added O5 O4 m_sum p_added
  have O7 : OkF l.prog w base D7 2 spTimes := ok_times_sum O5 O4 p_times_sum
  have O8 : OkF l.prog w base D8 2 spParted := ok_parted O4 O5 p_parted
  have O9 : OkF l.prog w base D9 1 spText := ok_print_sum m_range m_str k_WORDS p_print_sum
  have O10 : OkF l.prog w base D10 1 spPart := ok_part_of m_len m_int k_DIGITS k_WORDS kt_WORDS p_part_of
  have O11 : OkX l.prog w base D11 3 C "place" spParse := ok_parse_sum O FI bI O10 m_len m_tuple p_parse_sum
  have O12 : OkF l.prog w base D12 1 spDraws := ok__law_draws m_range m_len m_abs m_int draws_pure
  have O13 : OkF l.prog w base D13 1 spNext := ok__law_next m_len m_int
  have O14 : OkF l.prog w base D14 1 spPlain := ok__law_plain p__law_plain
  have O15 : OkF l.prog w base D15 1 spText := ok__law_text m_range m_str p__law_text
  have O16 : OkF l.prog w base D16 1 spRead := ok__law_read m_len m_int m_list m_tuple p__law_read
  exact ok_law F17 O O12 O13 O14 O7 O6 O5 O4 O8 O3 O15 O11 O9 O16 m_range m_sum m_tuple m_list m_len p_law
end K22
open PySem PySem.W PyProof.Rows
set_option maxHeartbeats 0 in
theorem PySem.Challenge.cw_chartertold_k22_sums_of_three_coins_holds : PySem.Challenge.rw_chartertold_k22_sums_of_three_coins.Holds := by
  w_on; o_law; k_head; (case hw => w_witness2)
  k_fill
  refine L2.walk_of (l := PySem.Challenge.rw_chartertold_k22_sums_of_three_coins) (n := 63) (k := 4) (x := "script") (CX := fun _ => L2.CX0) (sp := fun w => VL.spLaw _) rfl (by decide) rfl ⟨rfl, by decide, by decide⟩ (fun w h Y => PySem.W.kIn_of Y) ?F (fun _ _ a ns hl _ hS => ⟨a, ns, rfl, hS, hl, fun _ => rfl⟩) (fun _ _ _ _ _ h => h)
  case F =>
    intro w mg fa h KX G hmg
    refine' K22.all_mk KX G hmg ?a1 ?l1 ?c1 ?k1 ?a2 ?l2 ?c2 ?k2 ?a3 ?l3 ?c3 ?k3 ?a4 ?l4 ?c4 ?k4 ?a5 ?l5 ?c5 ?k5 ?a6 ?l6 ?c6 ?k6 ?a7 ?l7 ?c7 ?k7 ?a8 ?l8 ?c8 ?k8 ?a9 ?l9 ?c9 ?k9 ?a10 ?l10 ?c10 ?k10 ?a11 ?l11 ?c11 ?k11 ?a12 ?l12 ?c12 ?k12 ?a13 ?l13 ?c13 ?k13 ?a14 ?l14 ?c14 ?k14 ?a15 ?l15 ?c15 ?k15 ?a16 ?l16 ?c16 ?k16 ?a17 ?l17 ?c17 ?k17 ?aC ?aB ?xC ?sC ?gaC ?ggC ?nbC ?iC ?tI ?kC ?eC ?tC ?hC ?clC ?gsC ?tkC ?mC ?suC ?lI ?cI ?kI ?tyB ?rdB ?gaB ?vVB ?z_isinstance ?z_bool ?z_int ?z_len ?z_tuple ?z_all ?z_sum ?z_range ?z_str ?z_abs ?z_list ?g_WORDS ?gl_WORDS ?gz_WORDS ?gv_WORDS ?g_DIGITS
    (case a1 => k_is)
    (case l1 => k_is)
    (case c1 => k_is)
    (case k1 => k_is)
    (case a2 => k_is)
    (case l2 => k_is)
    (case c2 => k_is)
    (case k2 => k_is)
    (case a3 => k_is)
    (case l3 => k_is)
    (case c3 => k_is)
    (case k3 => k_is)
    (case a4 => k_is)
    (case l4 => k_is)
    (case c4 => k_is)
    (case k4 => k_is)
    (case a5 => k_is)
    (case l5 => k_is)
    (case c5 => k_is)
    (case k5 => k_is)
    (case a6 => k_is)
    (case l6 => k_is)
    (case c6 => k_is)
    (case k6 => k_is)
    (case a7 => k_is)
    (case l7 => k_is)
    (case c7 => k_is)
    (case k7 => k_is)
    (case a8 => k_is)
    (case l8 => k_is)
    (case c8 => k_is)
    (case k8 => k_is)
    (case a9 => k_is)
    (case l9 => k_is)
    (case c9 => k_is)
    (case k9 => k_is)
    (case a10 => k_is)
    (case l10 => k_is)
    (case c10 => k_is)
    (case k10 => k_is)
    (case a11 => k_is)
    (case l11 => k_is)
    (case c11 => k_is)
    (case k11 => k_is)
    (case a12 => k_is)
    (case l12 => k_is)
    (case c12 => k_is)
    (case k12 => k_is)
    (case a13 => k_is)
    (case l13 => k_is)
    (case c13 => k_is)
    (case k13 => k_is)
    (case a14 => k_is)
    (case l14 => k_is)
    (case c14 => k_is)
    (case k14 => k_is)
    (case a15 => k_is)
    (case l15 => k_is)
    (case c15 => k_is)
    (case k15 => k_is)
    (case a16 => k_is)
    (case l16 => k_is)
    (case c16 => k_is)
    (case k16 => k_is)
    (case a17 => k_is)
    (case l17 => k_is)
    (case c17 => k_is)
    (case k17 => k_is)
    (case aC => k_is)
    (case aB => k_is)
    (case xC => k_is)
    (case sC => k_is)
    (case gaC => k_is)
    (case ggC => k_is)
    (case nbC => k_is)
    (case iC => k_is)
    (case tI => k_is)
    (case kC => k_is)
    (case eC => k_is)
    (case tC => k_is)
    (case hC => k_is)
    (case clC => first | k_is | rfl)
    (case gsC => first | k_is | rfl)
    (case tkC => first | k_is | rfl)
    (case mC => first | k_is | rfl)
    (case suC => first | k_is | rfl)
    (case lI => k_is)
    (case cI => k_is)
    (case kI => k_is)
    (case tyB => k_is)
    (case rdB => first | k_is | rfl)
    (case gaB => first | k_is | rfl)
    (case vVB => first | k_is | rfl)
    (case z_isinstance => k_is)
    (case z_bool => k_is)
    (case z_int => k_is)
    (case z_len => k_is)
    (case z_tuple => k_is)
    (case z_all => k_is)
    (case z_sum => k_is)
    (case z_range => k_is)
    (case z_str => k_is)
    (case z_abs => k_is)
    (case z_list => k_is)
    (case g_WORDS => k_is)
    (case gl_WORDS => k_is)
    (case gz_WORDS => first | (rw [PySem.sizeLine_eq]; decide) | (rw [PySem.Spec.sizeLine_eq]; decide) | (rw [PyProof.Rows.sizeLine_eq]; decide) | (rw [sizeLine_eq]; decide))
    (case gv_WORDS => repeat (first | exact .nil | refine .cons ⟨_, rfl⟩ ?_))
    (case g_DIGITS => k_is)

