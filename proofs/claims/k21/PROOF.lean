import PyProof.Rows.All
import Wide.All
import OpenK.AllK
import Wide.FinOn
import HandS.ForMost
import HandS.IsInst
import HandS.TupLe
import HandS.TupAny
import HandS.Deep
import HandS.Wide
import HandS.Style
import PyProof.ReprBulk
import PyProof.FitsInt
import PyProof.Rows.StrReprJoin
import HandS.Star
import HandS.Iter
import KE.SortData
import KE.GoesMore
import KE.GoesEnum
import PyProof.EnumMake
import PyProof.Draws
import PyProof.RulesMatch
import HandS.More
import HandS.Set
import HandS.SetTxt0
import HandS.SetBool
import PySem.Challenge.RW_failsalike_k21_places_and_main_parts
set_option Elab.async false
set_option linter.all false
set_option maxRecDepth 100000
set_option maxHeartbeats 4000000
/-! Dz1: values as plain data, the objects that may change beside them, and what a reading over data says. -/
namespace Dz
open PySem L2

/-- plain data; obj: an object that may change, by its address -/
inductive DV where
  | none | bool (b : Bool) | int (i : Int) | str (x : Str)
  | tup (ds : List DV) | lst (ds : List DV) | dct (kvs : List (Key × DV)) | obj (a : Addr)
  /-- a list that is read alone (the script) -/
  | fix (ds : List DV)

mutual
/-- the value v is the data d, as the heap stands -/
inductive Is (K : PySem.W.Frag) (H : Hp) : V → DV → Prop
  | none : Is K H .non .none
  | bool (b : Bool) : Is K H (.bl b) (.bool b)
  | int (i : Int) : Is K H (.int i) (.int i)
  | str (x : Str) : Is K H (.str x) (.str x)
  | tup {a : Addr} {xs : List V} {ds : List DV} : SqT K H a xs → Iss K H xs ds → Is K H (.ref a) (.tup ds)
  | lst {a : Addr} {xs : List V} {ds : List DV} : H a = some (.lst xs) → Iss K H xs ds → Is K H (.ref a) (.lst ds)
  | dct {a : Addr} {kvs : List (Key × V)} {ds : List (Key × DV)} : H a = some (.dK kvs) → kvs.map (·.1) = ds.map (·.1) → Iss K H (kvs.map (·.2)) (ds.map (·.2)) → Is K H (.ref a) (.dct ds)
  | obj (a : Addr) : Is K H (.ref a) (.obj a)
  | fix {a : Addr} {xs : List V} {ds : List DV} : SqL K H a xs → Iss K H xs ds → Is K H (.ref a) (.fix ds)
inductive Iss (K : PySem.W.Frag) (H : Hp) : List V → List DV → Prop
  | nil : Iss K H [] []
  | cons {v : V} {vs : List V} {d : DV} {ds : List DV} : Is K H v d → Iss K H vs ds → Iss K H (v :: vs) (d :: ds)
end

theorem Same.seqT {K : PySem.W.Frag} {H H' : Hp} {a : Addr} {xs : List V} (e : Same H H') (h : SqT K H a xs) : SqT K H' a xs := by
  rcases h with (h | ⟨o, h⟩) | h
  · exact .inl (.inl (e _ _ h))
  · exact .inl (.inr ⟨o, e _ _ h⟩)
  · exact .inr h

mutual
theorem Is.mono {K : PySem.W.Frag} {H H' : Hp} (e : Same H H') : ∀ {v : V} {d : DV}, Is K H v d → Is K H' v d
  | _, _, .none => .none
  | _, _, .bool b => .bool b
  | _, _, .int i => .int i
  | _, _, .str x => .str x
  | _, _, .tup h r => .tup (Same.seqT e h) (Iss.mono e r)
  | _, _, .lst h r => .lst (e _ _ h) (Iss.mono e r)
  | _, _, .dct h k r => .dct (e _ _ h) k (Iss.mono e r)
  | _, _, .obj a => .obj a
  | _, _, .fix h r => .fix (e.seq h) (Iss.mono e r)
theorem Iss.mono {K : PySem.W.Frag} {H H' : Hp} (e : Same H H') : ∀ {vs : List V} {ds : List DV}, Iss K H vs ds → Iss K H' vs ds
  | _, _, .nil => .nil
  | _, _, .cons h r => .cons (Is.mono e h) (Iss.mono e r)
end
theorem Iss.length {K : PySem.W.Frag} {H : Hp} : ∀ {vs : List V} {ds : List DV}, Iss K H vs ds → vs.length = ds.length
  | _, _, .nil => rfl
  | _, _, .cons _ r => congrArg (· + 1) (Iss.length r)
theorem Iss.append {K : PySem.W.Frag} {H : Hp} : ∀ {vs us : List V} {ds es : List DV}, Iss K H vs ds → Iss K H us es → Iss K H (vs ++ us) (ds ++ es)
  | _, _, _, _, .nil, s => s
  | _, _, _, _, .cons h r, s => .cons h (Iss.append r s)
theorem Iss.take {K : PySem.W.Frag} {H : Hp} : ∀ {vs : List V} {ds : List DV} (n : Nat), Iss K H vs ds → Iss K H (vs.take n) (ds.take n)
  | _, _, 0, _ => .nil
  | _, _, _ + 1, .nil => .nil
  | _, _, n + 1, .cons h r => .cons h (Iss.take n r)
theorem Iss.drop {K : PySem.W.Frag} {H : Hp} : ∀ {vs : List V} {ds : List DV} (n : Nat), Iss K H vs ds → Iss K H (vs.drop n) (ds.drop n)
  | _, _, 0, r => r
  | _, _, _ + 1, .nil => .nil
  | _, _, n + 1, .cons _ r => Iss.drop n r
theorem Iss.get {K : PySem.W.Frag} {H : Hp} : ∀ {vs : List V} {ds : List DV} {i : Nat} {d : DV}, Iss K H vs ds → ds[i]? = some d → ∃ v, vs[i]? = some v ∧ Is K H v d
  | _, _, _, _, .nil, e => by simp at e
  | _, _, 0, d, .cons h _, e => by simp at e; subst e; exact ⟨_, rfl, h⟩
  | _, _, i + 1, d, .cons _ r, e => by
    obtain ⟨v, h1, h2⟩ := Iss.get (i := i) (d := d) r (by simpa using e)
    exact ⟨v, by simpa using h1, h2⟩
theorem Iss.getV {K : PySem.W.Frag} {H : Hp} : ∀ {vs : List V} {ds : List DV} {i : Nat} {v : V}, Iss K H vs ds → vs[i]? = some v → ∃ d, ds[i]? = some d ∧ Is K H v d
  | _, _, _, _, .nil, e => by simp at e
  | _, _, 0, v, .cons h _, e => by simp at e; subst e; exact ⟨_, rfl, h⟩
  | _, _, i + 1, v, .cons _ r, e => by
    obtain ⟨d, h1, h2⟩ := Iss.getV (i := i) (v := v) r (by simpa using e)
    exact ⟨d, by simpa using h1, h2⟩
theorem Iss.set {K : PySem.W.Frag} {H : Hp} {v : V} {d : DV} (h : Is K H v d) : ∀ {vs : List V} {ds : List DV} (i : Nat), Iss K H vs ds → Iss K H (vs.set i v) (ds.set i d)
  | _, _, _, .nil => .nil
  | _, _, 0, .cons _ r => .cons h r
  | _, _, i + 1, .cons q r => .cons q (Iss.set h i r)
theorem Iss.replicate {K : PySem.W.Frag} {H : Hp} {vs : List V} {ds : List DV} (r : Iss K H vs ds) : ∀ n : Nat, Iss K H (List.replicate n vs).flatten (List.replicate n ds).flatten
  | 0 => .nil
  | n + 1 => by
    rw [List.replicate_succ, List.replicate_succ, List.flatten_cons, List.flatten_cons]
    exact r.append (Iss.replicate r n)
theorem Iss.reverse {K : PySem.W.Frag} {H : Hp} : ∀ {vs : List V} {ds : List DV}, Iss K H vs ds → Iss K H vs.reverse ds.reverse
  | _, _, .nil => .nil
  | _, _, .cons h r => by
    rw [List.reverse_cons, List.reverse_cons]
    exact (Iss.reverse r).append (.cons h .nil)

/-! ### objects that change -/
inductive MO where
  | lst (ds : List DV) | dct (kvs : List (Key × DV)) | ins (C : Addr) (fs : List (Str × DV))
  /-- an object of which only φ is known: it stays so as long as it and the addresses near stay -/
  | ext (near : List Addr) (φ : Hp → Prop)
  /-- an object that belongs to another one -/
  | inner
abbrev Mh := Addr → Option MO
def updM (μ : Mh) (a : Addr) (o : MO) : Mh := fun b => if b = a then some o else μ b
theorem updM_same {μ : Mh} {a : Addr} {o : MO} : updM μ a o a = some o := by unfold updM; rw [if_pos rfl]
theorem updM_ne {μ : Mh} {a b : Addr} {o : MO} (h : b ≠ a) : updM μ a o b = μ b := by unfold updM; rw [if_neg h]

/-- what is neither framed nor an object -/
def hid (R : Hp) (μ : Mh) (H : Hp) : Hp := fun a => if (R a).isNone = true ∧ (μ a).isNone = true then H a else none
theorem hid_at {R : Hp} {μ : Mh} {H : Hp} {a : Addr} (h1 : R a = none) (h2 : μ a = none) : hid R μ H a = H a := by
  unfold hid
  rw [if_pos ⟨by rw [h1]; rfl, by rw [h2]; rfl⟩]
theorem hid_some {R : Hp} {μ : Mh} {H : Hp} {a : Addr} {o : HO} (h : hid R μ H a = some o) : R a = none ∧ μ a = none ∧ H a = some o := by
  unfold hid at h
  split at h
  · rename_i c
    exact ⟨by simpa using c.1, by simpa using c.2, h⟩
  · cases h
theorem hid_le {R : Hp} {μ : Mh} {H : Hp} : Same (hid R μ H) H := fun _ _ h => (hid_some h).2.2

def MOk (K : PySem.W.Frag) (Hm H : Hp) (μ : Mh) (a : Addr) : MO → Prop
  | .lst ds => ∃ xs, H a = some (.lst xs) ∧ Iss K Hm xs ds
  | .dct ks => ∃ kvs : List (Key × V), H a = some (.dK kvs) ∧ kvs.map (·.1) = ks.map (·.1) ∧ Iss K Hm (kvs.map (·.2)) (ks.map (·.2))
  | .ins C fs => ∃ dx gs, H a = some (.ins C dx gs) ∧ gs.map (·.1) = fs.map (·.1) ∧ Iss K Hm (gs.map (·.2)) (fs.map (·.2))
  | .ext near φ => φ H ∧ (∃ o, H a = some o) ∧ (∀ b ∈ near, μ b = some .inner) ∧ ∀ H1 H2 : Hp, φ H1 → (∀ b, b = a ∨ b ∈ near → H2 b = H1 b) → φ H2
  | .inner => ∃ o, H a = some o

structure Ok (K : PySem.W.Frag) (R : Hp) (μ : Mh) (H : Hp) : Prop where
  fr : ∀ a o, R a = some o → H a = some o
  dj : ∀ a o, R a = some o → μ a = none
  ob : ∀ a o, μ a = some o → MOk K (hid R μ H) H μ a o
theorem MOk.here {K : PySem.W.Frag} {Hm H : Hp} {μ : Mh} {a : Addr} : ∀ {o : MO}, MOk K Hm H μ a o → ∃ u, H a = some u
  | .lst _, h => let ⟨_, e, _⟩ := h; ⟨_, e⟩
  | .dct _, h => let ⟨_, e, _⟩ := h; ⟨_, e⟩
  | .ins _ _, h => let ⟨_, _, e, _⟩ := h; ⟨_, e⟩
  | .ext _ _, h => h.2.1
  | .inner, h => h
section
variable {K : PySem.W.Frag} {R : Hp} {μ μ' : Mh} {H H' : Hp} {p : Addr} {o : HO}
theorem Ok.freeM (k : Ok K R μ H) (h : H p = none) : μ p = none := by
  cases e : μ p with
  | none => rfl
  | some q => obtain ⟨u, z⟩ := (k.ob p q e).here; rw [h] at z; cases z
theorem Ok.freeR (k : Ok K R μ H) (h : H p = none) : R p = none := by
  cases e : R p with
  | none => rfl
  | some q => have z := k.fr p q e; rw [h] at z; cases z
theorem Ok.hidNew (k : Ok K R μ H) (h : H p = none) : hid R μ (upd H p o) = upd (hid R μ H) p o := by
  funext b
  by_cases e : b = p
  · subst e
    rw [upd_same, hid_at (k.freeR h) (k.freeM h), upd_same]
  · unfold hid
    rw [upd_ne e, upd_ne e]
theorem Ok.sameNew (k : Ok K R μ H) (h : H p = none) : Same (hid R μ H) (hid R μ (upd H p o)) := fun b u e => by
  rw [k.hidNew h, upd_ne (fun z => ?_)]
  · exact e
  · subst z
    have := hid_le b u e
    rw [h] at this
    cases this
theorem MOk.mono {Hm Hm' : Hp} {a : Addr} (s : Same Hm Hm') (e : H' a = H a) (en : ∀ b ∈ (match μ a with | some (.ext near _) => near | _ => []), H' b = H b) : ∀ {o : MO}, μ a = some o → (∀ b, μ b = some .inner → μ' b = some .inner) → MOk K Hm H μ a o → MOk K Hm' H' μ' a o
  | .lst _, _, _, ⟨xs, h, r⟩ => ⟨xs, e.trans h, r.mono s⟩
  | .dct _, _, _, ⟨xs, h, q, r⟩ => ⟨xs, e.trans h, q, r.mono s⟩
  | .ins _ _, _, _, ⟨dx, gs, h, q, r⟩ => ⟨dx, gs, e.trans h, q, r.mono s⟩
  | .ext near φ, hm, hi, ⟨h, ⟨u, hu⟩, hn, st⟩ => by
    rw [hm] at en
    refine ⟨st H H' h (fun b hb => ?_), ⟨u, e.trans hu⟩, fun b hb => hi b (hn b hb), st⟩
    rcases hb with rfl | hb
    · exact e
    · exact en b hb
  | .inner, _, _, ⟨u, h⟩ => ⟨u, e.trans h⟩
/-- a new thing, not an object that changes -/
theorem Ok.new (k : Ok K R μ H) (h : H p = none) : Ok K R μ (upd H p o) := by
  have ne : ∀ {b u}, H b = some u → b ≠ p := fun e z => by subst z; rw [h] at e; cases e
  refine ⟨fun a u e => ?_, k.dj, fun a u e => ?_⟩
  · rw [upd_ne (ne (k.fr a u e))]
    exact k.fr a u e
  · obtain ⟨w, hw⟩ := (k.ob a u e).here
    refine (k.ob a u e).mono (k.sameNew h) (upd_ne (ne hw)) (fun b hb => ?_) e (fun _ z => z)
    rw [e] at hb
    cases u with
    | ext near φ =>
      obtain ⟨_, _, hn, _⟩ := k.ob a _ e
      obtain ⟨v, hv⟩ := (k.ob b _ (hn b hb)).here
      exact upd_ne (ne hv)
    | _ => cases hb
/-- a new object that may change -/
theorem Ok.newM {m : MO} (k : Ok K R μ H) (h : H p = none) (hm : MOk K (hid R (updM μ p m) (upd H p o)) (upd H p o) (updM μ p m) p m) (hne : m ≠ .inner) : Ok K R (updM μ p m) (upd H p o) ∧ Same (hid R μ H) (hid R (updM μ p m) (upd H p o)) := by
  have ne : ∀ {b u}, H b = some u → b ≠ p := fun e z => by subst z; rw [h] at e; cases e
  have fm := k.freeM h
  have hs : Same (hid R μ H) (hid R (updM μ p m) (upd H p o)) := fun b u e => by
    obtain ⟨e1, e2, e3⟩ := hid_some e
    rw [hid_at e1 (by rw [updM_ne (ne e3)]; exact e2), upd_ne (ne e3)]
    exact e3
  refine ⟨⟨fun a u e => ?_, fun a u e => ?_, fun a u e => ?_⟩, hs⟩
  · rw [upd_ne (ne (k.fr a u e))]
    exact k.fr a u e
  · rw [updM_ne (ne (k.fr a u e))]
    exact k.dj a u e
  · by_cases z : a = p
    · subst z
      rw [updM_same] at e
      cases e
      exact hm
    · rw [updM_ne z] at e
      refine (k.ob a u e).mono hs (upd_ne z) (fun b hb => ?_) e (fun b q => ?_)
      · rw [e] at hb
        cases u with
        | ext near φ =>
          obtain ⟨_, _, hn, _⟩ := k.ob a _ e
          obtain ⟨v, hv⟩ := (k.ob b _ (hn b hb)).here
          exact upd_ne (ne hv)
        | _ => cases hb
      · rw [updM_ne (fun w => by subst w; rw [fm] at q; cases q)]
        exact q
end

/-! ### names -/
abbrev Rho := List (Option DV)
structure Sl (K : PySem.W.Frag) (H : Hp) (σ : St) (ρ : Rho) : Prop where
  len : σ.length = ρ.length
  at_ : ∀ (i : Nat) (d : DV), ρ[i]? = some (some d) → ∃ v, σ[i]? = some (some v) ∧ Is K H v d
section
variable {K : PySem.W.Frag} {H H' : Hp} {σ : St} {ρ : Rho}
theorem Sl.mono (s : Same H H') (h : Sl K H σ ρ) : Sl K H' σ ρ := ⟨h.len, fun i d e => let ⟨v, a, b⟩ := h.at_ i d e; ⟨v, a, b.mono s⟩⟩
theorem Sl.set {v : V} {d : DV} (h : Sl K H σ ρ) (i : Nat) (r : Is K H v d) : Sl K H (σ.set i (some v)) (ρ.set i (some d)) := by
  refine ⟨by rw [List.length_set, List.length_set, h.len], fun j e he => ?_⟩
  by_cases z : i = j
  · subst z
    by_cases hl : i < ρ.length
    · rw [List.getElem?_set_self hl] at he
      cases he
      exact ⟨v, by rw [List.getElem?_set_self (by rw [h.len]; exact hl)], r⟩
    · rw [List.getElem?_eq_none (by rw [List.length_set]; omega)] at he
      cases he
  · rw [List.getElem?_set_ne z] at he ⊢
    exact h.at_ j e he
theorem Sl.unset (h : Sl K H σ ρ) (i : Nat) : Sl K H (σ.set i none) (ρ.set i none) := by
  refine ⟨by rw [List.length_set, List.length_set, h.len], fun j e he => ?_⟩
  by_cases z : i = j
  · subst z
    by_cases hl : i < ρ.length
    · rw [List.getElem?_set_self hl] at he
      cases he
    · rw [List.getElem?_eq_none (by rw [List.length_set]; omega)] at he
      cases he
  · rw [List.getElem?_set_ne z] at he ⊢
    exact h.at_ j e he
/-- the slots of a block's own names forgotten -/
def wipeD (ρ : Rho) : List Nat → Rho
  | [] => ρ
  | v :: vs => (wipeD ρ vs).set v none
theorem Sl.wipe (h : Sl K H σ ρ) : ∀ vs : List Nat, Sl K H (L2.wipe σ vs) (wipeD ρ vs)
  | [] => h
  | v :: vs => (Sl.wipe h vs).unset v
theorem Sl.start {N : List Str} {vs : List V} {ds : List DV} (h : Iss K H vs ds) : Sl K H (L2.start N vs) (ds.map some ++ List.replicate (N.length - ds.length) none) := by
  have hl := h.length
  unfold L2.start
  refine ⟨by simp [hl], fun i d e => ?_⟩
  by_cases hi : i < ds.length
  · rw [List.getElem?_append_left (by simpa using hi), List.getElem?_map] at e
    cases q : ds[i]? with
    | none => rw [q] at e; cases e
    | some d' =>
      rw [q] at e
      cases e
      obtain ⟨v, h1, h2⟩ := h.get q
      refine ⟨v, ?_, h2⟩
      rw [List.getElem?_append_left (by simp; omega), List.getElem?_map, h1]
      rfl
  · rw [List.getElem?_append_right (by simpa using hi), List.getElem?_replicate] at e
    split at e <;> cases e
end

/-! ### readings over data -/
abbrev WE := Rho → Mh → (DV → Mh → Prop) → Prop
abbrev WT := Rho → Mh → (Bool → Mh → Prop) → Prop
abbrev WA := Rho → Mh → (List DV → Mh → Prop) → Prop
structure DEnds where
  nx : Rho → Mh → Prop
  rt : DV → Mh → Prop
  bk : Rho → Mh → Prop := fun _ _ => False
  ct : Rho → Mh → Prop := fun _ _ => False
abbrev WS := DEnds → Rho → Mh → Prop
/-- a def over data -/
abbrev WF := List DV → Mh → (DV → Mh → Prop) → Prop
/-- a target -/
abbrev WG := DV → Rho → (Rho → Prop) → Prop

structure At (K : PySem.W.Frag) (R : Hp) (σ : St) (ρ : Rho) (μ : Mh) (H : Hp) : Prop where
  ok : Ok K R μ H
  sl : Sl K (hid R μ H) σ ρ
def Nxt (K : PySem.W.Frag) (R : Hp) (μ : Mh) (H : Hp) (P : DV → Mh → Prop) (Q : VK) : Prop :=
  ∀ d μ' v H', P d μ' → Ok K R μ' H' → Same (hid R μ H) (hid R μ' H') → Is K (hid R μ' H') v d → Q v H'
def NxtT (K : PySem.W.Frag) (R : Hp) (μ : Mh) (H : Hp) (P : Bool → Mh → Prop) (Q : Bool → Hp → Prop) : Prop :=
  ∀ b μ' H', P b μ' → Ok K R μ' H' → Same (hid R μ H) (hid R μ' H') → Q b H'
def NxtA (K : PySem.W.Frag) (R : Hp) (μ : Mh) (H : Hp) (P : List DV → Mh → Prop) (Q : List V → Hp → Prop) : Prop :=
  ∀ ds μ' vs H', P ds μ' → Ok K R μ' H' → Same (hid R μ H) (hid R μ' H') → Iss K (hid R μ' H') vs ds → Q vs H'
def NxtS (K : PySem.W.Frag) (R : Hp) (μ : Mh) (H : Hp) (P : Rho → Mh → Prop) (Q : St → Hp → Prop) : Prop :=
  ∀ ρ' μ' σ' H', P ρ' μ' → At K R σ' ρ' μ' H' → Same (hid R μ H) (hid R μ' H') → Q σ' H'
section
variable {K : PySem.W.Frag} {R : Hp} {μ μ' : Mh} {H H' : Hp} {σ : St} {ρ : Rho}
theorem At.step (a : At K R σ ρ μ H) (k : Ok K R μ' H') (s : Same (hid R μ H) (hid R μ' H')) : At K R σ ρ μ' H' := ⟨k, a.sl.mono s⟩
theorem Nxt.step {P : DV → Mh → Prop} {Q : VK} (k : Nxt K R μ H P Q) (s : Same (hid R μ H) (hid R μ' H')) : Nxt K R μ' H' P Q := fun d m v h p o s' i => k d m v h p o (s.trans s') i
theorem NxtT.step {P : Bool → Mh → Prop} {Q : Bool → Hp → Prop} (k : NxtT K R μ H P Q) (s : Same (hid R μ H) (hid R μ' H')) : NxtT K R μ' H' P Q := fun d m h p o s' => k d m h p o (s.trans s')
theorem NxtA.step {P : List DV → Mh → Prop} {Q : List V → Hp → Prop} (k : NxtA K R μ H P Q) (s : Same (hid R μ H) (hid R μ' H')) : NxtA K R μ' H' P Q := fun d m v h p o s' i => k d m v h p o (s.trans s') i
theorem NxtS.step {P : Rho → Mh → Prop} {Q : St → Hp → Prop} (k : NxtS K R μ H P Q) (s : Same (hid R μ H) (hid R μ' H')) : NxtS K R μ' H' P Q := fun d m v h p o s' => k d m v h p o (s.trans s')
end
def tD (K : PySem.W.Frag) (w : WE) : TE := fun σ H Q => ∃ R ρ μ P, At K R σ ρ μ H ∧ w ρ μ P ∧ Nxt K R μ H P Q
def tDT (K : PySem.W.Frag) (w : WT) : TT := fun σ H Q => ∃ R ρ μ P, At K R σ ρ μ H ∧ w ρ μ P ∧ NxtT K R μ H P Q
def tDA (K : PySem.W.Frag) (w : WA) : TA := fun σ H Q => ∃ R ρ μ P, At K R σ ρ μ H ∧ w ρ μ P ∧ NxtA K R μ H P Q
structure NxtD (K : PySem.W.Frag) (R : Hp) (μ : Mh) (H : Hp) (E : DEnds) (D : Ends) : Prop where
  nx : NxtS K R μ H E.nx D.nx
  rt : Nxt K R μ H E.rt D.rt
  bk : NxtS K R μ H E.bk D.bk
  ct : NxtS K R μ H E.ct D.ct
theorem NxtD.step {K : PySem.W.Frag} {R : Hp} {μ μ' : Mh} {H H' : Hp} {E : DEnds} {D : Ends} (k : NxtD K R μ H E D) (s : Same (hid R μ H) (hid R μ' H')) : NxtD K R μ' H' E D := ⟨k.nx.step s, k.rt.step s, k.bk.step s, k.ct.step s⟩
def tDS (K : PySem.W.Frag) (w : WS) : TS := fun D σ H => ∃ R ρ μ E, At K R σ ρ μ H ∧ w E ρ μ ∧ NxtD K R μ H E D
/-- the promise of a def over data, n its parameters -/
def spD (K : PySem.W.Frag) (n : Nat) (w : WF) : Sp := fun vs H Q _ => ∃ R ds μ P, Ok K R μ H ∧ Iss K (hid R μ H) vs ds ∧ ds.length = n ∧ w ds μ P ∧ Nxt K R μ H P Q

/-! ### weaker readings -/
section
variable {X : Cx}
theorem PE.imp {e : Expr} {t t' : TE} (h : PE X e t) (i : ∀ σ H Q, t' σ H Q → t σ H Q) : PE X e t' := ⟨fun pins s σ H Q I w => h.run pins s σ H Q I (i _ _ _ w)⟩
theorem PT.imp {e : Expr} {t t' : TT} (h : PT X e t) (i : ∀ σ H Q, t' σ H Q → t σ H Q) : PT X e t' := ⟨fun pins s σ H Q I w => h.run pins s σ H Q I (i _ _ _ w)⟩
theorem PW.imp {e : Expr} {t t' : TT} (h : PW X e t) (i : ∀ σ H Q, t' σ H Q → t σ H Q) : PW X e t' := ⟨fun wh pins s σ H Q I w => h.run wh pins s σ H Q I (i _ _ _ w)⟩
theorem PA.imp {es : List Expr} {t t' : TA} (h : PA X es t) (i : ∀ σ H Q, t' σ H Q → t σ H Q) : PA X es t' := ⟨fun pos pins s σ H Q I w => h.run pos pins s σ H Q I (i _ _ _ w)⟩
theorem PK.imp {es : List Keyword} {t t' : TA} (h : PK X es t) (i : ∀ σ H Q, t' σ H Q → t σ H Q) : PK X es t' := ⟨fun pos pins s σ H Q I w => h.run pos pins s σ H Q I (i _ _ _ w)⟩
theorem PS.imp {st : Stmt} {t t' : TS} (h : PS X st t) (i : ∀ D σ H, t' D σ H → t D σ H) : PS X st t' := ⟨fun pins s σ H D I w => h.run pins s σ H D I (i _ _ _ w)⟩
theorem PSs.imp {st : List Stmt} {t t' : TS} (h : PSs X st t) (i : ∀ D σ H, t' D σ H → t D σ H) : PSs X st t' := ⟨fun pins s σ H D I w => h.run pins s σ H D I (i _ _ _ w)⟩
end
end Dz

set_option Elab.async false
set_option linter.all false
set_option maxRecDepth 100000
set_option maxHeartbeats 4000000
/-! Dz2: rules over data: expressions, tests, comparisons, displays, subscripts. -/
namespace Dz
open PySem L2
section
variable {K : PySem.W.Frag} {R : Hp} {μ μ' : Mh} {H H' : Hp} {σ : St} {ρ : Rho} {P : DV → Mh → Prop} {Q : VK} {d : DV} {v : V} {p : Addr}
theorem Nxt.val (k : Nxt K R μ H P Q) (o : Ok K R μ H) (h : P d μ) (i : Is K (hid R μ H) v d) : Q v H := k d μ v H h o (Same.refl _) i
theorem hid_new {o : HO} (k : Ok K R μ H) (h : H p = none) : hid R μ (upd H p o) p = some o := by rw [k.hidNew h, upd_same]
theorem isLst {xs : List V} {ds : List DV} (k : Ok K R μ H) (h : H p = none) (r : Iss K (hid R μ H) xs ds) : Is K (hid R μ (upd H p (.lst xs))) (.ref p) (.lst ds) :=
  .lst (hid_new k h) (r.mono (k.sameNew h))
theorem isTup {xs : List V} {ds : List DV} (k : Ok K R μ H) (h : H p = none) (r : Iss K (hid R μ H) xs ds) : Is K (hid R μ (upd H p (.tup xs))) (.ref p) (.tup ds) :=
  .tup (SqT.of (hid_new k h)) (r.mono (k.sameNew h))
theorem Nxt.lst {xs : List V} {ds : List DV} (k : Nxt K R μ H P Q) (o : Ok K R μ H) (h : P (.lst ds) μ) (r : Iss K (hid R μ H) xs ds) (n : H p = none) : Q (.ref p) (upd H p (.lst xs)) :=
  k _ μ _ _ h (o.new n) (o.sameNew n) (isLst o n r)
theorem Nxt.tup {xs : List V} {ds : List DV} (k : Nxt K R μ H P Q) (o : Ok K R μ H) (h : P (.tup ds) μ) (r : Iss K (hid R μ H) xs ds) (n : H p = none) : Q (.ref p) (upd H p (.tup xs)) :=
  k _ μ _ _ h (o.new n) (o.sameNew n) (isTup o n r)
end

/-! ### names and constants -/
def wVar (i : Nat) : WE := fun ρ μ P => match ρ[i]? with | some (some d) => P d μ | _ => False
def wC (d : DV) : WE := fun _ μ P => P d μ
section
variable {X : Cx} {e a b : Expr} {pos : Pos} {w wa wb wc : WE}
theorem d_of_var {i : Nat} (h : PE X e (tVar i)) : PE X e (tD X.K (wVar i)) := PE.imp h fun σ H Q ⟨R, ρ, μ, P, a, w, k⟩ => by
  unfold wVar at w
  split at w
  · rename_i d e
    obtain ⟨v, h1, h2⟩ := a.sl.at_ i d e
    exact ⟨v, h1, k.val a.ok w h2⟩
  · exact w.elim
theorem d_of_c {v : V} {d : DV} (h : PE X e (tC v)) (i : ∀ H, Is X.K H v d) : PE X e (tD X.K (wC d)) := PE.imp h fun σ H Q ⟨R, ρ, μ, P, a, w, k⟩ => k.val a.ok w (i _)
theorem d_var (i : Nat) {x : Str} (hN : X.N[i]? = some x := by rfl) (hv : Vis X.env.scope x := by first | exact Or.inl rfl | exact Or.inr (Or.inl rfl) | exact Or.inr (Or.inr rfl)) (hd : (x == ("__debug__" : Str)) = false := by decide)
    (hcd : (x == ("__classdict__" : Str)) = false := by decide) : PE X (.Name x pos) (tD X.K (wVar i)) := d_of_var (pv i hN hv hd hcd)
theorem d_int {i : Int} {j} : PE X (.Constant (.int i) j pos) (tD X.K (wC (.int i))) := d_of_c pe_int fun _ => .int i
theorem d_bl {b : Bool} {j} : PE X (.Constant (.bool b) j pos) (tD X.K (wC (.bool b))) := d_of_c pe_bl fun _ => .bool b
theorem d_non {j} : PE X (.Constant .none j pos) (tD X.K (wC .none)) := d_of_c pe_non fun _ => .none
theorem d_str {x : Str} {j} : PE X (.Constant (.str x) j pos) (tD X.K (wC (.str x))) := d_of_c pe_str fun _ => .str x
/-- a constant of the module -/
theorem d_glob {x : Str} {v : V} {d : DV} (hg : Gl X x) (hm : ∃ u, X.mg x = some u ∧ RelV v u) (i : ∀ H, Is X.K H v d) (hd : (x == ("__debug__" : Str)) = false := by decide) : PE X (.Name x pos) (tD X.K (wC d)) := by
  obtain ⟨u, hu, r⟩ := hm
  exact d_of_c (pe_glob hg hu r hd) i

/-! ### two-place operations by values -/
abbrev W2 := DV → DV → Mh → (DV → Mh → Prop) → Prop
abbrev W1 := DV → Mh → (DV → Mh → Prop) → Prop
def R2D (K : PySem.W.Frag) (r : R2) (w : W2) : Prop := ∀ R μ H x y dx dy P Q, Ok K R μ H → Is K (hid R μ H) x dx → Is K (hid R μ H) y dy → w dx dy μ P → Nxt K R μ H P Q → r x y H Q
def R1D (K : PySem.W.Frag) (r : V → Hp → VK → Prop) (w : W1) : Prop := ∀ R μ H x dx P Q, Ok K R μ H → Is K (hid R μ H) x dx → w dx μ P → Nxt K R μ H P Q → r x H Q
def wBin (w2 : W2) (wa wb : WE) : WE := fun ρ μ P => wa ρ μ fun x μ1 => wb ρ μ1 fun y μ2 => w2 x y μ2 P
def wUn (w1 : W1) (wa : WE) : WE := fun ρ μ P => wa ρ μ fun x μ1 => w1 x μ1 P
theorem bin_imp {K : PySem.W.Frag} {r : R2} {w2 : W2} (hr : R2D K r w2) : ∀ σ H Q, tD K (wBin w2 wa wb) σ H Q → tOp r (tD K wa) (tD K wb) σ H Q := fun σ H Q ⟨R, ρ, μ, P, a, w, k⟩ =>
  ⟨R, ρ, μ, _, a, w, fun x μ1 v H1 p1 o1 s1 i1 => ⟨R, ρ, μ1, _, a.step o1 s1, p1, fun y μ2 u H2 p2 o2 s2 i2 => hr R μ2 H2 v u x y P Q o2 (i1.mono s2) i2 p2 (k.step (s1.trans s2))⟩⟩
theorem d_op {op : Operator} {r : R2} {w2 : W2} (ho : OpR X (binaryOp op) r) (hr : R2D X.K r w2) (ha : PE X a (tD X.K wa)) (hb : PE X b (tD X.K wb)) : PE X (.BinOp a op b pos) (tD X.K (wBin w2 wa wb)) :=
  PE.imp (pe_op ho ha hb) (bin_imp hr)
theorem d_un {op : UnaryOp} {r : V → Hp → VK → Prop} {w1 : W1} (ho : UnR X (unaryOp op) r) (hr : R1D X.K r w1) (ha : PE X a (tD X.K wa)) : PE X (.UnaryOp op a pos) (tD X.K (wUn w1 wa)) :=
  PE.imp (pe_un ho ha) fun σ H Q ⟨R, ρ, μ, P, a, w, k⟩ => ⟨R, ρ, μ, _, a, w, fun x μ1 v H1 p1 o1 s1 i1 => hr R μ1 H1 v x P Q o1 i1 p1 (k.step s1)⟩
theorem d_cmp {op : CmpOp} {r : R2} {w2 : W2} (ho : OpR X (compareOp op) r) (hr : R2D X.K r w2) (ha : PE X a (tD X.K wa)) (hb : PE X b (tD X.K wb)) (hm : behindInMarks op b = false) : PE X (.Compare a [op] [b] pos) (tD X.K (wBin w2 wa wb)) :=
  PE.imp (pe_cmpR ho ha hb hm) (bin_imp hr)
/-- a reading of a True or False as a test -/
def wTest (w : WE) : WT := fun ρ μ P => w ρ μ fun d μ1 => match d with | .bool b => P b μ1 | _ => False
theorem test_imp {K : PySem.W.Frag} {t : TE} {w : WE} (h : ∀ σ H Q, tD K w σ H Q → t σ H Q) : ∀ σ H Q, tDT K (wTest w) σ H Q → tTest t σ H Q := fun σ H Q ⟨R, ρ, μ, P, a, w, k⟩ =>
  h σ H _ ⟨R, ρ, μ, _, a, w, fun x μ1 v H1 p1 o1 s1 i1 => by
    cases i1 with
    | bool b => exact ⟨b, rfl, k b μ1 H1 p1 o1 s1⟩
    | _ => exact (show False from p1).elim⟩
theorem dt_cmp {op : CmpOp} {r : R2} {w2 : W2} (ho : OpR X (compareOp op) r) (hr : R2D X.K r w2) (ha : PE X a (tD X.K wa)) (hb : PE X b (tD X.K wb)) (hm : behindInMarks op b = false) : PT X (.Compare a [op] [b] pos) (tDT X.K (wTest (wBin w2 wa wb))) :=
  PT.imp (pt_cmpR ho ha hb hm) (test_imp (bin_imp hr))
def wChain (w2 w2' : W2) (wa wb wc : WE) : WE := fun ρ μ P => wa ρ μ fun x μ1 => wb ρ μ1 fun y μ2 => w2 x y μ2 fun z μ3 => match z with
  | .bool true => wc ρ μ3 fun u μ4 => w2' y u μ4 P
  | .bool false => P (.bool false) μ3
  | _ => False
theorem chain_imp {K : PySem.W.Frag} {r r' : R2} {w2 w2' : W2} (hr : R2D K r w2) (hr' : R2D K r' w2') : ∀ σ H Q, tD K (wChain w2 w2' wa wb wc) σ H Q → tChain r r' (tD K wa) (tD K wb) (tD K wc) σ H Q := fun σ H Q ⟨R, ρ, μ, P, a, w, k⟩ => by
  refine ⟨R, ρ, μ, _, a, w, fun x μ1 v H1 p1 o1 s1 i1 => ⟨R, ρ, μ1, _, a.step o1 s1, p1, fun y μ2 u H2 p2 o2 s2 i2 => hr R μ2 H2 v u x y _ _ o2 (i1.mono s2) i2 p2 fun z μ3 z' H3 p3 o3 s3 i3 => ?_⟩⟩
  cases i3 with
  | bool b =>
    refine ⟨b, rfl, ?_⟩
    cases b with
    | true =>
      refine iteT ⟨R, ρ, μ3, _, a.step o3 ((s1.trans s2).trans s3), p3, fun u4 μ4 v4 H4 p4 o4 s4 i4 => hr' R μ4 H4 u v4 y u4 P Q o4 (i2.mono (s3.trans s4)) i4 p4 (k.step (((s1.trans s2).trans s3).trans s4))⟩
    | false => exact iteF (k _ μ3 _ H3 p3 o3 ((s1.trans s2).trans s3) (.bool false))
  | _ => exact (show False from p3).elim
theorem d_chain {c : Expr} {op op' : CmpOp} {r r' : R2} {w2 w2' : W2} (ho : OpR X (compareOp op) r) (hr : R2D X.K r w2) (ho' : OpR X (compareOp op') r') (hr' : R2D X.K r' w2') (ha : PE X a (tD X.K wa)) (hb : PE X b (tD X.K wb)) (hc : PE X c (tD X.K wc))
    (hm : lastMarks [op, op'] [b, c] = false := by with_unfolding_all rfl) : PE X (.Compare a [op, op'] [b, c] pos) (tD X.K (wChain w2 w2' wa wb wc)) := PE.imp (pe_chain ho ho' ha hb hc hm) (chain_imp hr hr')
theorem dt_chain {c : Expr} {op op' : CmpOp} {r r' : R2} {w2 w2' : W2} (ho : OpR X (compareOp op) r) (hr : R2D X.K r w2) (ho' : OpR X (compareOp op') r') (hr' : R2D X.K r' w2') (ha : PE X a (tD X.K wa)) (hb : PE X b (tD X.K wb)) (hc : PE X c (tD X.K wc))
    (hm : lastMarks [op, op'] [b, c] = false := by with_unfolding_all rfl) : PT X (.Compare a [op, op'] [b, c] pos) (tDT X.K (wTest (wChain w2 w2' wa wb wc))) := PT.imp (pt_chain ho ho' ha hb hc hm) (test_imp (chain_imp hr hr'))

/-! ### not, and, or, if .. else -/
theorem dt_val (h : PE X e (tD X.K w)) (he : ∀ whole, isTrue e X.env whole = (do let v ← whole; standAt e.pos; holding [v] (truthy v)) := by intro _; rfl) : PT X e (tDT X.K (wTest w)) :=
  PT.imp (pt_val h he) fun σ H Q ⟨R, ρ, μ, P, a, w, k⟩ => ⟨R, ρ, μ, _, a, w, fun x μ1 v H1 p1 o1 s1 i1 => by
    cases i1 with
    | bool b => exact ⟨b, rfl, k b μ1 H1 p1 o1 s1⟩
    | _ => exact (show False from p1).elim⟩
/-- truth of any value -/
def truD : DV → Mh → (Bool → Prop) → Prop
  | .none, _, P => P false
  | .bool b, _, P => P b
  | .int i, _, P => P (i != 0)
  | .str x, _, P => x.length ≤ sizeLine ∧ P ((x.length : Int) != 0)
  | .lst ds, _, P => P (!ds.isEmpty)
  | .tup ds, _, P => P (!ds.isEmpty)
  | .dct ds, _, P => P (!ds.isEmpty)
  | .obj a, μ, P => match μ a with
    | some (.lst ds) => P (!ds.isEmpty)
    | some (.dct ds) => P (!ds.isEmpty)
    | _ => False
  | .fix ds, _, P => P (!ds.isEmpty)
theorem Iss.isEmpty {K : PySem.W.Frag} {H : Hp} {vs : List V} {ds : List DV} (r : Iss K H vs ds) : vs.isEmpty = ds.isEmpty := by cases r <;> rfl
def wTru (w : WE) : WT := fun ρ μ P => w ρ μ fun d μ1 => truD d μ1 fun b => P b μ1
theorem map_isEmpty {α β γ : Type} {l : List (α × β)} {m : List (α × γ)} (h : l.map (·.1) = m.map (·.1)) : l.isEmpty = m.isEmpty := by
  cases l <;> cases m <;> first | rfl | cases h
theorem dt_tru (h : PE X e (tD X.K w)) (he : ∀ whole, isTrue e X.env whole = (do let v ← whole; standAt e.pos; holding [v] (truthy v)) := by intro _; rfl) : PT X e (tDT X.K (wTru w)) :=
  PT.imp (pt_truth h he) fun σ H Q ⟨R, ρ, μ, P, a, w, k⟩ => ⟨R, ρ, μ, _, a, w, fun x μ1 v H1 p1 o1 s1 i1 => by
    cases i1 with
    | none => exact ⟨false, rfl, k _ μ1 H1 p1 o1 s1⟩
    | bool b => exact ⟨b, rfl, k _ μ1 H1 p1 o1 s1⟩
    | int i => exact ⟨_, rfl, k _ μ1 H1 p1 o1 s1⟩
    | str x => exact ⟨_, ⟨p1.1, rfl⟩, k _ μ1 H1 p1.2 o1 s1⟩
    | lst hl r => exact ⟨_, .inl ⟨_, SqL.of (hid_le _ _ hl), rfl⟩, k _ μ1 H1 (by rw [r.isEmpty]; exact p1) o1 s1⟩
    | fix hl r => exact ⟨_, .inl ⟨_, hid_le.seq hl, rfl⟩, k _ μ1 H1 (by rw [r.isEmpty]; exact p1) o1 s1⟩
    | tup hl r => exact ⟨_, .inr (.inl ⟨_, Same.seqT hid_le hl, rfl⟩), k _ μ1 H1 (by rw [r.isEmpty]; exact p1) o1 s1⟩
    | dct hl q r => exact ⟨_, .inr (.inr ⟨_, hid_le _ _ hl, rfl⟩), k _ μ1 H1 (by rw [map_isEmpty q]; exact p1) o1 s1⟩
    | obj a =>
      have p2 : (match μ1 a with | some (.lst ds) => P (!ds.isEmpty) μ1 | some (.dct ds) => P (!ds.isEmpty) μ1 | _ => False) := p1
      split at p2
      · rename_i ds e
        obtain ⟨xs, h1, r⟩ := o1.ob a _ e
        exact ⟨_, .inl ⟨_, SqL.of h1, rfl⟩, k _ μ1 H1 (by rw [r.isEmpty]; exact p2) o1 s1⟩
      · rename_i ds e
        obtain ⟨xs, h1, q, r⟩ := o1.ob a _ e
        exact ⟨_, .inr (.inr ⟨_, h1, rfl⟩), k _ μ1 H1 (by rw [map_isEmpty q]; exact p2) o1 s1⟩
      · exact p2.elim⟩
def wNotT (w : WT) : WT := fun ρ μ P => w ρ μ fun b μ1 => P (!b) μ1
def wAndT (wa wb : WT) : WT := fun ρ μ P => wa ρ μ fun b μ1 => match b with | true => wb ρ μ1 P | false => P false μ1
def wOrT (wa wb : WT) : WT := fun ρ μ P => wa ρ μ fun b μ1 => match b with | true => P true μ1 | false => wb ρ μ1 P
variable {ta tb : WT}
theorem dt_not (h : PT X a (tDT X.K ta)) : PT X (.UnaryOp .Not a pos) (tDT X.K (wNotT ta)) :=
  PT.imp (pt_not h) fun σ H Q ⟨R, ρ, μ, P, a, w, k⟩ => ⟨R, ρ, μ, _, a, w, fun b μ1 H1 p1 o1 s1 => k _ μ1 H1 p1 o1 s1⟩
theorem dw_and1 (h : PT X a (tDT X.K ta)) : PW X (.BoolOp .And [a] pos) (tDT X.K ta) := pw_and1 h
theorem dw_or1 (h : PT X a (tDT X.K ta)) : PW X (.BoolOp .Or [a] pos) (tDT X.K ta) := pw_or1 h
theorem dw_and {rest : List Expr} (h : PT X a (tDT X.K ta)) (h2 : PW X (.BoolOp .And (b :: rest) pos) (tDT X.K tb)) : PW X (.BoolOp .And (a :: b :: rest) pos) (tDT X.K (wAndT ta tb)) :=
  PW.imp (pw_and h h2) fun σ H Q ⟨R, ρ, μ, P, a, w, k⟩ => ⟨R, ρ, μ, _, a, w, fun c μ1 H1 p1 o1 s1 => by
    cases c with
    | true => exact iteT ⟨R, ρ, μ1, P, a.step o1 s1, p1, k.step s1⟩
    | false => exact iteF (k _ μ1 H1 p1 o1 s1)⟩
theorem dw_or {rest : List Expr} (h : PT X a (tDT X.K ta)) (h2 : PW X (.BoolOp .Or (b :: rest) pos) (tDT X.K tb)) : PW X (.BoolOp .Or (a :: b :: rest) pos) (tDT X.K (wOrT ta tb)) :=
  PW.imp (pw_or h h2) fun σ H Q ⟨R, ρ, μ, P, a, w, k⟩ => ⟨R, ρ, μ, _, a, w, fun c μ1 H1 p1 o1 s1 => by
    cases c with
    | true => exact iteT (k _ μ1 H1 p1 o1 s1)
    | false => exact iteF ⟨R, ρ, μ1, P, a.step o1 s1, p1, k.step s1⟩⟩
def wAndV (wa wb : WE) : WE := fun ρ μ P => wa ρ μ fun d μ1 => match d with | .bool true => wb ρ μ1 P | .bool false => P (.bool false) μ1 | _ => False
def wOrV (wa wb : WE) : WE := fun ρ μ P => wa ρ μ fun d μ1 => match d with | .bool true => P (.bool true) μ1 | .bool false => wb ρ μ1 P | _ => False
def wNotV (wa : WE) : WE := fun ρ μ P => wa ρ μ fun d μ1 => match d with | .bool b => P (.bool (!b)) μ1 | _ => False
def wIf (t : WT) (wa wb : WE) : WE := fun ρ μ P => t ρ μ fun b μ1 => match b with | true => wa ρ μ1 P | false => wb ρ μ1 P
theorem d_one {op} (h : PE X a (tD X.K wa)) : PE X (.BoolOp op [a] pos) (tD X.K wa) := pe_one h
theorem d_and {rest : List Expr} (h : PE X a (tD X.K wa)) (h2 : PE X (.BoolOp .And (b :: rest) pos) (tD X.K wb)) : PE X (.BoolOp .And (a :: b :: rest) pos) (tD X.K (wAndV wa wb)) :=
  PE.imp (pe_and h h2) fun σ H Q ⟨R, ρ, μ, P, a, w, k⟩ => ⟨R, ρ, μ, _, a, w, fun x μ1 v H1 p1 o1 s1 i1 => by
    cases i1 with
    | bool c =>
      refine ⟨c, rfl, ?_⟩
      cases c with
      | true => exact iteT ⟨R, ρ, μ1, P, a.step o1 s1, p1, k.step s1⟩
      | false => exact iteF (k _ μ1 _ H1 p1 o1 s1 (.bool false))
    | _ => exact (show False from p1).elim⟩
theorem d_or {rest : List Expr} (h : PE X a (tD X.K wa)) (h2 : PE X (.BoolOp .Or (b :: rest) pos) (tD X.K wb)) : PE X (.BoolOp .Or (a :: b :: rest) pos) (tD X.K (wOrV wa wb)) :=
  PE.imp (pe_or h h2) fun σ H Q ⟨R, ρ, μ, P, a, w, k⟩ => ⟨R, ρ, μ, _, a, w, fun x μ1 v H1 p1 o1 s1 i1 => by
    cases i1 with
    | bool c =>
      refine ⟨c, rfl, ?_⟩
      cases c with
      | true => exact iteT (k _ μ1 _ H1 p1 o1 s1 (.bool true))
      | false => exact iteF ⟨R, ρ, μ1, P, a.step o1 s1, p1, k.step s1⟩
    | _ => exact (show False from p1).elim⟩
theorem d_not (h : PE X a (tD X.K wa)) : PE X (.UnaryOp .Not a pos) (tD X.K (wNotV wa)) :=
  PE.imp (pe_not h) fun σ H Q ⟨R, ρ, μ, P, a, w, k⟩ => ⟨R, ρ, μ, _, a, w, fun x μ1 v H1 p1 o1 s1 i1 => by
    cases i1 with
    | bool c => exact ⟨c, rfl, k _ μ1 _ H1 p1 o1 s1 (.bool _)⟩
    | _ => exact (show False from p1).elim⟩
theorem d_if {c : Expr} (hc : PT X c (tDT X.K ta)) (ha : PE X a (tD X.K wa)) (hb : PE X b (tD X.K wb)) : PE X (.IfExp c a b pos) (tD X.K (wIf ta wa wb)) :=
  PE.imp (pe_ifExp hc ha hb) fun σ H Q ⟨R, ρ, μ, P, a, w, k⟩ => ⟨R, ρ, μ, _, a, w, fun c μ1 H1 p1 o1 s1 => by
    cases c with
    | true => exact iteT ⟨R, ρ, μ1, P, a.step o1 s1, p1, k.step s1⟩
    | false => exact iteF ⟨R, ρ, μ1, P, a.step o1 s1, p1, k.step s1⟩⟩

/-! ### argument lists, displays -/
def wNil : WA := fun _ μ P => P [] μ
def wCons (wa : WE) (wr : WA) : WA := fun ρ μ P => wa ρ μ fun x μ1 => wr ρ μ1 fun xs μ2 => P (x :: xs) μ2
variable {es : List Expr} {wr : WA}
theorem cons_imp {K : PySem.W.Frag} : ∀ σ H Q, tDA K (wCons wa wr) σ H Q → tCons (tD K wa) (tDA K wr) σ H Q := fun σ H Q ⟨R, ρ, μ, P, a, w, k⟩ =>
  ⟨R, ρ, μ, _, a, w, fun x μ1 v H1 p1 o1 s1 i1 => ⟨R, ρ, μ1, _, a.step o1 s1, p1, fun xs μ2 vs H2 p2 o2 s2 i2 => k _ μ2 _ H2 p2 o2 (s1.trans s2) (.cons (i1.mono s2) i2)⟩⟩
theorem nil_imp {K : PySem.W.Frag} : ∀ σ H Q, tDA K wNil σ H Q → tNil σ H Q := fun σ H Q ⟨R, ρ, μ, P, a, w, k⟩ => k [] μ [] H w a.ok (Same.refl _) .nil
theorem da_nil : PA X [] (tDA X.K wNil) := PA.imp pa_nil nil_imp
theorem da_cons (ha : PE X e (tD X.K wa)) (hr : PA X es (tDA X.K wr)) (hs : starEach (e :: es) X.env = (false, eval e X.env) :: starEach es X.env := by rfl) : PA X (e :: es) (tDA X.K (wCons wa wr)) :=
  PA.imp (pa_cons ha hr hs) cons_imp
theorem dk_nil : PK X [] (tDA X.K wNil) := PK.imp pk_nil nil_imp
theorem dk_cons {kws : List Keyword} {nm : Option Str} {kpos : Pos} (ha : PE X e (tD X.K wa)) (hr : PK X kws (tDA X.K wr)) : PK X (⟨nm, e, kpos⟩ :: kws) (tDA X.K (wCons wa wr)) := PK.imp (pk_cons ha hr) cons_imp
def wTup (wa : WA) : WE := fun ρ μ P => wa ρ μ fun ds μ1 => ds.length ≤ sizeLine ∧ P (.tup ds) μ1
def wLst (wa : WA) : WE := fun ρ μ P => wa ρ μ fun ds μ1 => ds.length ≤ sizeLine ∧ P (.lst ds) μ1
theorem d_tup {x1} (h : PA X es (tDA X.K wr)) : PE X (.Tuple es x1 pos) (tD X.K (wTup wr)) :=
  PE.imp (pe_tup h) fun σ H Q ⟨R, ρ, μ, P, a, w, k⟩ => ⟨R, ρ, μ, _, a, w, fun ds μ1 vs H1 p1 o1 s1 i1 => ⟨by rw [i1.length]; exact p1.1, fun p n => (k.step s1).tup o1 p1.2 i1 n⟩⟩
theorem d_lst (h : PA X es (tDA X.K wr)) : PE X (.List es pos) (tD X.K (wLst wr)) :=
  PE.imp (pe_lst h) fun σ H Q ⟨R, ρ, μ, P, a, w, k⟩ => ⟨R, ρ, μ, _, a, w, fun ds μ1 vs H1 p1 o1 s1 i1 => ⟨by rw [i1.length]; exact p1.1, fun p n => (k.step s1).lst o1 p1.2 i1 n⟩⟩
/-- a list that will change -/
def wLstM (wa : WA) : WE := fun ρ μ P => wa ρ μ fun ds μ1 => ds.length ≤ sizeLine ∧ ∀ p, μ1 p = none → P (.obj p) (updM μ1 p (.lst ds))
theorem d_lstM (h : PA X es (tDA X.K wr)) : PE X (.List es pos) (tD X.K (wLstM wr)) :=
  PE.imp (pe_lst h) fun σ H Q ⟨R, ρ, μ, P, a, w, k⟩ => ⟨R, ρ, μ, _, a, w, fun ds μ1 vs H1 p1 o1 s1 i1 => ⟨by rw [i1.length]; exact p1.1, fun p n => by
    have fm := o1.freeM n
    have hs : Same (hid R μ1 H1) (hid R (updM μ1 p (.lst ds)) (upd H1 p (.lst vs))) := fun b u e => by
      obtain ⟨e1, e2, e3⟩ := hid_some e
      have ne := ne_of_none e3 n
      rw [hid_at e1 (by rw [updM_ne ne]; exact e2), upd_ne ne]
      exact e3
    obtain ⟨o2, s2⟩ := o1.newM (o := .lst vs) (m := .lst ds) n ⟨vs, upd_same, i1.mono hs⟩ (by intro z; cases z)
    exact (k.step s1) _ _ _ _ (p1.2 p fm) o2 s2 (.obj p)⟩⟩
end
end Dz

set_option Elab.async false
set_option linter.all false
set_option maxRecDepth 100000
set_option maxHeartbeats 4000000
/-! Dz3: operators and comparisons of data, plain data as PyData, subscripts and slices. -/
namespace Dz
open PySem L2

/-! ### arithmetic -/
def wAdd : W2
  | .int i, .int j, μ, P => P (.int (i + j)) μ
  | .str s, .str t, μ, P => s.length + t.length ≤ sizeLine ∧ P (.str (s ++ t)) μ
  | .lst xs, .lst ys, μ, P => xs.length + ys.length ≤ sizeLine ∧ P (.lst (xs ++ ys)) μ
  | .tup xs, .tup ys, μ, P => xs.length + ys.length ≤ sizeLine ∧ P (.tup (xs ++ ys)) μ
  | _, _, _, _ => False
def wSub : W2
  | .int i, .int j, μ, P => P (.int (i - j)) μ
  | _, _, _, _ => False
def strRep (x : Str) (n : Nat) : Str := ⟨(List.replicate n x.cps).foldl (· ++ ·) #[]⟩
def wMul : W2
  | .int i, .int j, μ, P => CMul i j ∧ P (.int (i * j)) μ
  | .lst xs, .int k, μ, P => 0 ≤ k ∧ k < 2 ^ 63 ∧ xs.length * k.toNat ≤ sizeLine ∧ P (.lst (List.replicate k.toNat xs).flatten) μ
  | .str x, .int k, μ, P => 2 ≤ k ∧ 0 < x.length ∧ x.length * k.toNat ≤ sizeLine ∧ P (.str (strRep x k.toNat)) μ
  | _, _, _, _ => False
def wDiv : W2
  | .int i, .int j, μ, P => CDivW i j ∧ P (.int (i / j)) μ
  | _, _, _, _ => False
def wMod : W2
  | .int i, .int j, μ, P => 0 < j ∧ P (.int (i % j)) μ
  | _, _, _, _ => False
def wPow : W2
  | .int i, .int j, μ, P => CPow i j ∧ P (.int (i ^ j.toNat)) μ
  | _, _, _, _ => False
def wNeg : W1
  | .int i, μ, P => P (.int (-i)) μ
  | _, _, _ => False
section
variable {K : PySem.W.Frag} {X : Cx}
def rAddD (K : PySem.W.Frag) : R2 := fun x y H Q => rI0 (fun i j => .int (i + j)) x y H Q ∨ (∃ i j, x = .str i ∧ y = .str j ∧ i.length + j.length ≤ sizeLine ∧ Q (.str (i ++ j)) H) ∨ rCat x y H Q ∨ rCatA K x y H Q
theorem op_addD : OpR X (binaryOp .Add) (rAddD X.K) := op_add.or (op_add_str.or (op_cat.or op_catA))
theorem add_rd : R2D K (rAddD K) wAdd := by
  intro R μ H x y dx dy P Q ok ix iy w k
  cases ix with
  | int i => cases iy with
    | int j => exact .inl ⟨i, j, rfl, rfl, k.val ok w (.int _)⟩
    | _ => exact (show False from w).elim
  | str s => cases iy with
    | str t => exact .inr (.inl ⟨s, t, rfl, rfl, w.1, k.val ok w.2 (.str _)⟩)
    | _ => exact (show False from w).elim
  | lst hx rx => cases iy with
    | lst hy ry => exact .inr (.inr (.inl ⟨_, _, _, _, rfl, rfl, hid_le _ _ hx, hid_le _ _ hy, by rw [rx.length, ry.length]; exact w.1, fun p n => k.lst ok w.2 (rx.append ry) n⟩))
    | _ => exact (show False from w).elim
  | @tup a xs ds hx rx => cases iy with
    | @tup b ys es hy ry =>
      refine .inr (.inr (.inr ⟨_, _, _, _, rfl, rfl, Same.seqT hid_le hx, Same.seqT hid_le hy, by rw [rx.length, ry.length]; exact w.1, fun z => ?_, fun _ z => ?_, fun _ _ p n => k.tup ok w.2 (rx.append ry) n⟩))
      · subst z
        cases rx
        exact k.val ok w.2 (.tup hy ry)
      · subst z
        cases ry
        exact k.val ok (by have := w.2; rwa [List.append_nil] at this) (.tup hx rx)
    | _ => exact (show False from w).elim
  | _ => exact (show False from w).elim
theorem sub_rd : R2D K (rI0 fun i j => .int (i - j)) wSub := by
  intro R μ H x y dx dy P Q ok ix iy w k
  cases ix with
  | int i => cases iy with
    | int j => exact ⟨i, j, rfl, rfl, k.val ok w (.int _)⟩
    | _ => exact (show False from w).elim
  | _ => exact (show False from w).elim
theorem div_rd : R2D K (rI CDivW fun i j => .int (i / j)) wDiv := by
  intro R μ H x y dx dy P Q ok ix iy w k
  cases ix with
  | int i => cases iy with
    | int j => exact ⟨i, j, rfl, rfl, w.1, k.val ok w.2 (.int _)⟩
    | _ => exact (show False from w).elim
  | _ => exact (show False from w).elim
theorem mod_rd : R2D K (rI (fun _ j => 0 < j) fun i j => .int (i % j)) wMod := by
  intro R μ H x y dx dy P Q ok ix iy w k
  cases ix with
  | int i => cases iy with
    | int j => exact ⟨i, j, rfl, rfl, w.1, k.val ok w.2 (.int _)⟩
    | _ => exact (show False from w).elim
  | _ => exact (show False from w).elim
theorem pow_rd : R2D K (rI CPow fun i j => .int (i ^ j.toNat)) wPow := by
  intro R μ H x y dx dy P Q ok ix iy w k
  cases ix with
  | int i => cases iy with
    | int j => exact ⟨i, j, rfl, rfl, w.1, k.val ok w.2 (.int _)⟩
    | _ => exact (show False from w).elim
  | _ => exact (show False from w).elim
theorem neg_rd : R1D K (rU fun i => .int (-i)) wNeg := by
  intro R μ H x dx P Q ok ix w k
  cases ix with
  | int i => exact ⟨i, rfl, k.val ok w (.int _)⟩
  | _ => exact (show False from w).elim
def rRepS : R2 := fun x y H Q => ∃ (z : Str) (k : Int), x = .str z ∧ y = .int k ∧ 2 ≤ k ∧ 0 < z.length ∧ z.length * k.toNat ≤ sizeLine ∧ Q (.str (strRep z k.toNat)) H
theorem op_repS : OpR X (binaryOp .Mult) rRepS := by
  intro pins s σ H x y v u Q I rx ry h
  obtain ⟨z, k, rfl, rfl, h2, h0, hz, q⟩ := h
  obtain ⟨t, rfl⟩ := rx
  obtain ⟨t', rfl⟩ := ry
  have hs : sizeLine = 16777216 := sizeLine_eq
  have hk : k.toNat ≤ z.length * k.toNat := Nat.le_mul_of_pos_left _ h0
  have hzl : z.length ≤ z.length * k.toNat := Nat.le_mul_of_pos_right _ (by omega)
  refine PySem.P.mul_str (by rw [decide_eq_false (by omega), decide_eq_false (by omega)]; rfl) (fun _ _ => ?_) (fun _ _ => ?_) ?_
  · have h3 : (1 : Int) ≤ k := by omega
    have h4 : (z.length : Int) * k ≤ 16777216 := by
      have : ((z.length * k.toNat : Nat) : Int) ≤ ((16777216 : Nat) : Int) := Int.ofNat_le.mpr (by rw [← hs]; exact hz)
      rw [Int.natCast_mul] at this
      rw [Int.toNat_of_nonneg (by omega)] at this
      exact this
    have h5 : (z.length : Int) ≤ (2 ^ 63 - 1) / k := by
      rw [Int.le_ediv_iff_mul_le (by omega)]
      omega
    omega
  · unfold Builtin.Str.tooLong
    simp only [decide_eq_false_iff_not]
    omega
  · rw [if_neg (by omega)]
    have e : (k == 1 || z.length == 0) = false := by
      rw [Bool.or_eq_false_iff]
      exact ⟨beq_eq_false_iff_ne.mpr (by omega), beq_eq_false_iff_ne.mpr (by omega)⟩
    rw [e]
    refine ⟨?_, ⟨.str (strRep z k.toNat), H, I.tok _, ⟨_, rfl⟩, q⟩⟩
    have el : (⟨(List.replicate k.toNat z.cps).foldl (· ++ ·) #[]⟩ : Str).length = z.length * k.toNat := by
      unfold Str.length
      have : ∀ (n : Nat) (acc : Array Nat), ((List.replicate n z.cps).foldl (· ++ ·) acc).size = acc.size + z.cps.size * n := by
        intro n
        induction n with
        | zero => intro acc; simp
        | succ n ih => intro acc; rw [List.replicate_succ, List.foldl_cons, ih, Array.size_append, Nat.mul_succ]; omega
      rw [this]
      simp
    rw [el]
    exact hz
def rMulD : R2 := fun x y H Q => rI CMul (fun i j => .int (i * j)) x y H Q ∨ rRep x y H Q ∨ rRepS x y H Q
theorem op_mulD : OpR X (binaryOp .Mult) rMulD := op_mul.or (op_rep.or op_repS)
theorem mul_rd : R2D K rMulD wMul := by
  intro R μ H x y dx dy P Q ok ix iy w k
  cases ix with
  | int i => cases iy with
    | int j => exact .inl ⟨i, j, rfl, rfl, w.1, k.val ok w.2 (.int _)⟩
    | _ => exact (show False from w).elim
  | str s => cases iy with
    | int j => exact .inr (.inr ⟨s, j, rfl, rfl, w.1, w.2.1, w.2.2.1, k.val ok w.2.2.2 (.str _)⟩)
    | _ => exact (show False from w).elim
  | lst hx rx => cases iy with
    | int j => exact .inr (.inl ⟨_, j, _, rfl, rfl, hid_le _ _ hx, by have := w.1; omega, w.2.1, by rw [rx.length]; exact w.2.2.1, fun p n => k.lst ok w.2.2.2 (rx.replicate _) n⟩)
    | _ => exact (show False from w).elim
  | _ => exact (show False from w).elim
variable {a b : Expr} {wa wb : WE} {pos : Pos}
theorem d_add (ha : PE X a (tD X.K wa)) (hb : PE X b (tD X.K wb)) : PE X (.BinOp a .Add b pos) (tD X.K (wBin wAdd wa wb)) := d_op op_addD add_rd ha hb
theorem d_sub (ha : PE X a (tD X.K wa)) (hb : PE X b (tD X.K wb)) : PE X (.BinOp a .Sub b pos) (tD X.K (wBin wSub wa wb)) := d_op op_sub sub_rd ha hb
theorem d_mul (ha : PE X a (tD X.K wa)) (hb : PE X b (tD X.K wb)) : PE X (.BinOp a .Mult b pos) (tD X.K (wBin wMul wa wb)) := d_op op_mulD mul_rd ha hb
theorem d_div (ha : PE X a (tD X.K wa)) (hb : PE X b (tD X.K wb)) : PE X (.BinOp a .FloorDiv b pos) (tD X.K (wBin wDiv wa wb)) := d_op op_fdivW div_rd ha hb
theorem d_mod (ha : PE X a (tD X.K wa)) (hb : PE X b (tD X.K wb)) : PE X (.BinOp a .Mod b pos) (tD X.K (wBin wMod wa wb)) := d_op op_mod mod_rd ha hb
theorem d_pow (ha : PE X a (tD X.K wa)) (hb : PE X b (tD X.K wb)) : PE X (.BinOp a .Pow b pos) (tD X.K (wBin wPow wa wb)) := d_op op_pow pow_rd ha hb
theorem d_neg (ha : PE X a (tD X.K wa)) : PE X (.UnaryOp .USub a pos) (tD X.K (wUn wNeg wa)) := d_un un_neg neg_rd ha
end

/-! ### order -/
def ltS (s t : Str) : Bool := decide (s.cps.toList < t.cps.toList)
def wLt : W2
  | .int i, .int j, μ, P => P (.bool (decide (i < j))) μ
  | .str s, .str t, μ, P => P (.bool (ltS s t)) μ
  | _, _, _, _ => False
def wLe : W2
  | .int i, .int j, μ, P => P (.bool (decide (i ≤ j))) μ
  | .str s, .str t, μ, P => P (.bool (!ltS t s)) μ
  | _, _, _, _ => False
def wGt : W2
  | .int i, .int j, μ, P => P (.bool (decide (j < i))) μ
  | .str s, .str t, μ, P => P (.bool (ltS t s)) μ
  | _, _, _, _ => False
def wGe : W2
  | .int i, .int j, μ, P => P (.bool (decide (j ≤ i))) μ
  | .str s, .str t, μ, P => P (.bool (!ltS s t)) μ
  | _, _, _, _ => False
section
variable {K : PySem.W.Frag} {X : Cx}
def rOrd (f : Int → Int → Bool) (g : Str → Str → Bool) : R2 := fun x y H Q => rI0 (fun i j => .bl (f i j)) x y H Q ∨ ∃ i j, x = .str i ∧ y = .str j ∧ Q (.bl (g i j)) H
theorem op_ltD : OpR X (compareOp .Lt) (rOrd (fun i j => decide (i < j)) fun s t => decide (s.cps.toList < t.cps.toList)) := op_lt.or op_lt_str
theorem op_leD : OpR X (compareOp .LtE) (rOrd (fun i j => decide (i ≤ j)) fun s t => !decide (t.cps.toList < s.cps.toList)) := op_le.or op_le_str
theorem op_gtD : OpR X (compareOp .Gt) (rOrd (fun i j => decide (j < i)) fun s t => decide (t.cps.toList < s.cps.toList)) := op_gt.or op_gt_str
theorem op_geD : OpR X (compareOp .GtE) (rOrd (fun i j => decide (j ≤ i)) fun s t => !decide (s.cps.toList < t.cps.toList)) := op_ge.or op_ge_str
theorem ord_rd {f : Int → Int → Bool} {g : Str → Str → Bool} {w2 : W2} (h1 : ∀ i j μ P, w2 (.int i) (.int j) μ P → P (.bool (f i j)) μ) (h2 : ∀ i j μ P, w2 (.str i) (.str j) μ P → P (.bool (g i j)) μ)
    (h3 : ∀ x y μ P, (∀ i j, ¬ (x = .int i ∧ y = .int j)) → (∀ i j, ¬ (x = .str i ∧ y = .str j)) → w2 x y μ P → False) : R2D K (rOrd f g) w2 := by
  intro R μ H x y dx dy P Q ok ix iy w k
  cases ix with
  | int i => cases iy with
    | int j => exact .inl ⟨i, j, rfl, rfl, k.val ok (h1 _ _ _ _ w) (.bool _)⟩
    | _ => exact (h3 _ _ _ _ (fun i j h => by cases h.2) (fun i j h => by cases h.1) w).elim
  | str s => cases iy with
    | str t => exact .inr ⟨s, t, rfl, rfl, k.val ok (h2 _ _ _ _ w) (.bool _)⟩
    | _ => exact (h3 _ _ _ _ (fun i j h => by cases h.1) (fun i j h => by cases h.2) w).elim
  | _ => exact (h3 _ _ _ _ (fun i j h => by cases h.1) (fun i j h => by cases h.1) w).elim
theorem lt_rd : R2D K (rOrd (fun i j => decide (i < j)) fun s t => decide (s.cps.toList < t.cps.toList)) wLt := ord_rd (fun _ _ _ _ h => h) (fun _ _ _ _ h => h) fun x y μ P h1 h2 w => by
  unfold wLt at w; split at w
  · exact h1 _ _ ⟨rfl, rfl⟩
  · exact h2 _ _ ⟨rfl, rfl⟩
  · exact w
theorem le_rd : R2D K (rOrd (fun i j => decide (i ≤ j)) fun s t => !decide (t.cps.toList < s.cps.toList)) wLe := ord_rd (fun _ _ _ _ h => h) (fun _ _ _ _ h => h) fun x y μ P h1 h2 w => by
  unfold wLe at w; split at w
  · exact h1 _ _ ⟨rfl, rfl⟩
  · exact h2 _ _ ⟨rfl, rfl⟩
  · exact w
theorem gt_rd : R2D K (rOrd (fun i j => decide (j < i)) fun s t => decide (t.cps.toList < s.cps.toList)) wGt := ord_rd (fun _ _ _ _ h => h) (fun _ _ _ _ h => h) fun x y μ P h1 h2 w => by
  unfold wGt at w; split at w
  · exact h1 _ _ ⟨rfl, rfl⟩
  · exact h2 _ _ ⟨rfl, rfl⟩
  · exact w
theorem ge_rd : R2D K (rOrd (fun i j => decide (j ≤ i)) fun s t => !decide (s.cps.toList < t.cps.toList)) wGe := ord_rd (fun _ _ _ _ h => h) (fun _ _ _ _ h => h) fun x y μ P h1 h2 w => by
  unfold wGe at w; split at w
  · exact h1 _ _ ⟨rfl, rfl⟩
  · exact h2 _ _ ⟨rfl, rfl⟩
  · exact w
end

/-! ### plain data -/
def keyPy : Key → PyData
  | .inl i => .int i
  | .inr x => .str x
mutual
def toPy : DV → PyData
  | .none => .none
  | .bool b => .bool b
  | .int i => .int i
  | .str x => .str x
  | .tup ds => .tuple (toPys ds)
  | .lst ds => .list (toPys ds)
  | .dct kvs => .dict (toPyKv kvs)
  | .obj _ => .none
  | .fix _ => .none
def toPys : List DV → List PyData
  | [] => []
  | d :: ds => toPy d :: toPys ds
def toPyKv : List (Key × DV) → List (PyData × PyData)
  | [] => []
  | (k, d) :: r => (keyPy k, toPy d) :: toPyKv r
end
mutual
/-- without objects -/
def noObj : DV → Bool
  | .tup ds => noObjs ds
  | .lst ds => noObjs ds
  | .dct kvs => noObjKv kvs
  | .obj _ => false
  | .fix _ => false
  | _ => true
def noObjs : List DV → Bool
  | [] => true
  | d :: ds => noObj d && noObjs ds
def noObjKv : List (Key × DV) → Bool
  | [] => true
  | (_, d) :: r => noObj d && noObjKv r
end
theorem toPys_map : ∀ ds : List DV, toPys ds = ds.map toPy
  | [] => rfl
  | d :: ds => by rw [toPys, toPys_map ds]; rfl
mutual
theorem Is.dp {K : PySem.W.Frag} {H : Hp} : ∀ {v : V} {d : DV}, Is K H v d → noObj d = true → (toPy d).canLay0 = true → Dp K H v (toPy d)
  | _, _, .none, _, _ => .non
  | _, _, .bool b, _, _ => .bl b
  | _, _, .int i, _, _ => .int i
  | _, _, .str x, _, _ => .str x
  | _, _, .tup h r, n, c => .tup h (Iss.dp r n c)
  | _, _, .lst h r, n, c => .lst (SqL.of h) (Iss.dp r n c)
  | _, _, .dct _ _ _, _, c => absurd (show false = true from c) Bool.false_ne_true
  | _, _, .obj _, n, _ => absurd (show false = true from n) Bool.false_ne_true
  | _, _, .fix _ _, n, _ => absurd (show false = true from n) Bool.false_ne_true
theorem Iss.dp {K : PySem.W.Frag} {H : Hp} : ∀ {vs : List V} {ds : List DV}, Iss K H vs ds → noObjs ds = true → PyData.canLayAll0 (toPys ds) = true → DpAll K H vs (toPys ds)
  | _, _, .nil, _, _ => .nil
  | _, _, .cons h r, n, c => by
    have n' := (Bool.and_eq_true_iff.mp n)
    have c' := (Bool.and_eq_true_iff.mp c)
    exact .cons (Is.dp h n'.1 c'.1) (Iss.dp r n'.2 c'.2)
end
/-- data that == and in may compare at any depth -/
def shapedD (d : DV) : Bool := noObj d && SeqAt.shaped (toPy d)
theorem Is.dpS {K : PySem.W.Frag} {H : Hp} {v : V} {d : DV} (h : Is K H v d) (s : shapedD d = true) : Dp K H v (toPy d) ∧ SeqAt.shaped (toPy d) = true := by
  have s' := Bool.and_eq_true_iff.mp s
  exact ⟨h.dp s'.1 (SeqAt.canLay_of_shaped s'.2), s'.2⟩
def deepEq (x y : DV) : Bool := PyData.eqv (toPy x) (toPy y)
def wEq : W2
  | .none, .none, μ, P => P (.bool true) μ
  | .none, .int _, μ, P => P (.bool false) μ
  | .none, .str _, μ, P => P (.bool false) μ
  | .none, .bool _, μ, P => P (.bool false) μ
  | .int _, .none, μ, P => P (.bool false) μ
  | .str _, .none, μ, P => P (.bool false) μ
  | .bool _, .none, μ, P => P (.bool false) μ
  | .int i, .int j, μ, P => P (.bool (decide (i = j))) μ
  | .bool i, .bool j, μ, P => P (.bool (decide (i = j))) μ
  | .str i, .str j, μ, P => P (.bool (decide (i = j))) μ
  | .int _, .str _, μ, P => P (.bool false) μ
  | .str _, .int _, μ, P => P (.bool false) μ
  | .bool _, .str _, μ, P => P (.bool false) μ
  | .str _, .bool _, μ, P => P (.bool false) μ
  | .lst xs, .lst ys, μ, P => shapedD (.lst xs) = true ∧ shapedD (.lst ys) = true ∧ P (.bool (deepEq (.lst xs) (.lst ys))) μ
  | .tup xs, .tup ys, μ, P => shapedD (.tup xs) = true ∧ shapedD (.tup ys) = true ∧ P (.bool (deepEq (.tup xs) (.tup ys))) μ
  | _, _, _, _ => False
def notB (w2 : W2) : W2 := fun x y μ P => w2 x y μ fun d μ1 => match d with | .bool b => P (.bool (!b)) μ1 | _ => False
section
variable {K : PySem.W.Frag} {X : Cx}
def rEqA (K : PySem.W.Frag) : R2 := fun x y H Q => rEq x y H Q ∨ rEqD K x y H Q
def rNeA (K : PySem.W.Frag) : R2 := fun x y H Q => rNe x y H Q ∨ rNeD K x y H Q
theorem op_eqA (hu : X.A.units + 64 < cLine) : OpR X (compareOp .Eq) (rEqA X.K) := op_eq.or (op_eqD hu)
theorem op_neA (hu : X.A.units + 64 < cLine) : OpR X (compareOp .NotEq) (rNeA X.K) := op_ne.or (op_neD hu)
theorem Is.up {R : Hp} {μ : Mh} {H : Hp} {v : V} {d : DV} (h : Is K (hid R μ H) v d) : Is K H v d := h.mono hid_le
theorem eq_core {x y : V} {dx dy : DV} {μ : Mh} {H : Hp} {P : DV → Mh → Prop} (ix : Is K H x dx) (iy : Is K H y dy) (w : wEq dx dy μ P) :
    (∃ b, scal x y = true ∧ decide (x = y) = b ∧ P (.bool b) μ) ∨ (∃ d e, Dp K H x d ∧ Dp K H y e ∧ SeqAt.shaped d = true ∧ SeqAt.shaped e = true ∧ P (.bool (PyData.eqv d e)) μ) := by
  cases ix with
  | none => cases iy with
    | none => exact .inl ⟨_, rfl, rfl, w⟩
    | int j => exact .inl ⟨_, rfl, rfl, w⟩
    | bool j => exact .inl ⟨_, rfl, rfl, w⟩
    | str j => exact .inl ⟨_, rfl, rfl, w⟩
    | _ => exact (show False from w).elim
  | int i => cases iy with
    | none => exact .inl ⟨_, rfl, rfl, w⟩
    | int j => exact .inl ⟨_, rfl, dec_int, (by rw [Bool.beq_eq_decide_eq]; exact w)⟩
    | str j => exact .inl ⟨_, rfl, rfl, w⟩
    | _ => exact (show False from w).elim
  | bool i => cases iy with
    | none => exact .inl ⟨_, rfl, rfl, w⟩
    | bool j => exact .inl ⟨_, rfl, dec_bl, (by rw [Bool.beq_eq_decide_eq]; exact w)⟩
    | str j => exact .inl ⟨_, rfl, rfl, w⟩
    | _ => exact (show False from w).elim
  | str i => cases iy with
    | none => exact .inl ⟨_, rfl, rfl, w⟩
    | int j => exact .inl ⟨_, rfl, rfl, w⟩
    | bool j => exact .inl ⟨_, rfl, rfl, w⟩
    | str j => exact .inl ⟨_, rfl, dec_str, (by rw [Bool.beq_eq_decide_eq]; exact w)⟩
    | _ => exact (show False from w).elim
  | lst hx rx => cases iy with
    | lst hy ry =>
      obtain ⟨s1, s2, w⟩ := w
      obtain ⟨p1, q1⟩ := (Is.lst (K := K) hx rx).dpS s1
      obtain ⟨p2, q2⟩ := (Is.lst (K := K) hy ry).dpS s2
      exact .inr ⟨_, _, p1, p2, q1, q2, w⟩
    | _ => exact (show False from w).elim
  | tup hx rx => cases iy with
    | tup hy ry =>
      obtain ⟨s1, s2, w⟩ := w
      obtain ⟨p1, q1⟩ := (Is.tup (K := K) hx rx).dpS s1
      obtain ⟨p2, q2⟩ := (Is.tup (K := K) hy ry).dpS s2
      exact .inr ⟨_, _, p1, p2, q1, q2, w⟩
    | _ => exact (show False from w).elim
  | _ => exact (show False from w).elim
/-- an object as it stands -/
def lookO (a : Addr) : Option MO → DV
  | some (.lst ds) => .lst ds
  | some (.dct kvs) => .dct kvs
  | _ => .obj a
def look (μ : Mh) : DV → DV
  | .obj a => lookO a (μ a)
  | d => d
theorem Is.look {R : Hp} {μ : Mh} {H : Hp} {v : V} {d : DV} (o : Ok K R μ H) (i : Is K (hid R μ H) v d) : Is K H v (Dz.look μ d) := by
  cases i with
  | obj a =>
    show Is K H (.ref a) (lookO a (μ a))
    cases e : μ a with
    | none => exact .obj a
    | some m =>
      cases m with
      | lst ds =>
        obtain ⟨xs, h, r⟩ := o.ob a _ e
        exact .lst h (r.mono hid_le)
      | dct ds =>
        obtain ⟨xs, h, q, r⟩ := o.ob a _ e
        exact .dct h q (r.mono hid_le)
      | _ => exact .obj a
  | none => exact .none
  | bool b => exact .bool b
  | int i => exact .int i
  | str s => exact .str s
  | lst h r => exact (Is.lst h r).mono hid_le
  | tup h r => exact (Is.tup h r).mono hid_le
  | dct h q r => exact (Is.dct h q r).mono hid_le
  | fix h r => exact (Is.fix h r).mono hid_le
def wEqL : W2 := fun x y μ P => wEq (look μ x) (look μ y) μ P
def wNeL : W2 := notB wEqL
theorem eq_rd : R2D K (rEqA K) wEqL := by
  intro R μ H x y dx dy P Q ok ix iy w k
  rcases eq_core (ix.look ok) (iy.look ok) w with ⟨b, h1, h2, h3⟩ | ⟨d, e, p1, p2, q1, q2, h3⟩
  · exact .inl ⟨h1, by rw [h2]; exact k.val ok h3 (.bool b)⟩
  · exact .inr ⟨d, e, p1, p2, q1, q2, k.val ok h3 (.bool _)⟩
theorem ne_rd : R2D K (rNeA K) wNeL := by
  intro R μ H x y dx dy P Q ok ix iy w k
  rcases eq_core (ix.look ok) (iy.look ok) w with ⟨b, h1, h2, h3⟩ | ⟨d, e, p1, p2, q1, q2, h3⟩
  · exact .inl ⟨h1, by rw [h2]; exact k.val ok h3 (.bool _)⟩
  · exact .inr ⟨d, e, p1, p2, q1, q2, k.val ok h3 (.bool _)⟩
/-! is None -/
def isNone : DV → Bool
  | .none => true
  | _ => false
def wIsN : W2 := fun x y μ P => match y with | .none => P (.bool (isNone x)) μ | _ => False
def wNotN : W2 := fun x y μ P => match y with | .none => P (.bool (!isNone x)) μ | _ => False
theorem isNone_of {H : Hp} {v : V} {d : DV} (h : Is K H v d) : decide (v = .non) = isNone d := by cases h <;> rfl
theorem isN_rd : R2D K (fun x y H Q => y = .non ∧ Q (.bl (decide (x = .non))) H) wIsN := by
  intro R μ H x y dx dy P Q ok ix iy w k
  cases iy with
  | none => exact ⟨rfl, by rw [isNone_of ix]; exact k.val ok w (.bool _)⟩
  | _ => exact (show False from w).elim
theorem notN_rd : R2D K (fun x y H Q => y = .non ∧ Q (.bl (!decide (x = .non))) H) wNotN := by
  intro R μ H x y dx dy P Q ok ix iy w k
  cases iy with
  | none => exact ⟨rfl, by rw [isNone_of ix]; exact k.val ok w (.bool _)⟩
  | _ => exact (show False from w).elim
/-! in -/
def flatD : DV → Bool
  | .none | .bool _ | .int _ | .str _ => true
  | _ => false
def eqF : DV → DV → Bool
  | .none, .none => true
  | .bool a, .bool b => a == b
  | .bool a, .int b => (if a then 1 else 0) == b
  | .int a, .bool b => a == (if b then 1 else 0)
  | .int a, .int b => a == b
  | .str a, .str b => a == b
  | _, _ => false
def inF (x : DV) (ds : List DV) : Bool := ds.any fun y => eqF y x
def inDeep (x : DV) (ds : List DV) : Bool := ds.any fun y => PyData.eqv (toPy y) (toPy x)
/-- x in a list or tuple: of flat things, or of data at any depth; a text in a text -/
def wIn : W2 := fun x y μ P => match y with
  | .lst ds => (flatD x = true ∧ ds.all flatD = true ∧ P (.bool (inF x ds)) μ) ∨ (shapedD x = true ∧ shapedD (.lst ds) = true ∧ P (.bool (inDeep x ds)) μ)
  | .tup ds => (flatD x = true ∧ ds.all flatD = true ∧ P (.bool (inF x ds)) μ) ∨ (shapedD x = true ∧ shapedD (.tup ds) = true ∧ P (.bool (inDeep x ds)) μ)
  | .str z => match x with
    | .str s => (∃ c, s = ⟨#[c]⟩ ∧ P (.bool (decide (c ∈ z.cps.toList))) μ) ∨ P (.bool (!(Builtin.Str.occurrences z s 0 z.length 1).isEmpty)) μ
    | _ => False
  | _ => False
def wNotIn : W2 := notB wIn
theorem flat_of {H : Hp} {v : V} {d : DV} (h : Is K H v d) : flatV v = flatD d := by cases h <;> rfl
theorem flats_of {H : Hp} : ∀ {vs : List V} {ds : List DV}, Iss K H vs ds → vs.all flatV = ds.all flatD
  | _, _, .nil => rfl
  | _, _, .cons h r => by rw [List.all_cons, List.all_cons, flat_of h, flats_of r]
theorem eqV_of {H : Hp} {v u : V} {d e : DV} (h : Is K H v d) (h' : Is K H u e) (f : flatD d = true) (f' : flatD e = true) : eqV v u = eqF d e := by
  cases h <;> first | (cases h' <;> first | rfl | exact absurd (show false = true from f') Bool.false_ne_true) | exact absurd (show false = true from f) Bool.false_ne_true
theorem inV_of {H : Hp} {v : V} {d : DV} (h : Is K H v d) (f : flatD d = true) : ∀ {vs : List V} {ds : List DV}, Iss K H vs ds → ds.all flatD = true → inV v vs = inF d ds
  | _, _, .nil, _ => rfl
  | _, _, .cons (v := v1) (vs := vs1) (d := d1) (ds := ds1) h1 r, fs => by
    rw [List.all_cons, Bool.and_eq_true] at fs
    have e := inV_of h f r fs.2
    show (eqV v1 v || inV v vs1) = (eqF d1 d || inF d ds1)
    rw [e, eqV_of h1 h fs.1 f]
def rInTD (K : PySem.W.Frag) : R2 := fun x y H Q => ∃ d ds, Dp K H x d ∧ Dp K H y (.tuple ds) ∧ SeqAt.shaped d = true ∧ SeqAt.shaped (.tuple ds) = true ∧ Q (.bl (ds.any fun z => PyData.eqv z d)) H
def rNotInTD (K : PySem.W.Frag) : R2 := fun x y H Q => ∃ d ds, Dp K H x d ∧ Dp K H y (.tuple ds) ∧ SeqAt.shaped d = true ∧ SeqAt.shaped (.tuple ds) = true ∧ Q (.bl (!ds.any fun z => PyData.eqv z d)) H
theorem room_in_tup {A : Around} {d : PyData} {ds : List PyData} (h : SeqAt.shaped d = true) (hu : A.units + 65 < cLine) : A.units + 1 + min (PyData.depthAll ds) d.depth < cLine := by
  have h1 := SeqAt.depth_of_shaped h
  have h2 : min (PyData.depthAll ds) d.depth ≤ d.depth := Nat.min_le_right _ _
  omega
theorem op_inTD (hu : X.A.units + 65 < cLine) : OpR X (compareOp .In) (rInTD X.K) := by
  intro pins s σ H x y v u Q I rx ry h
  obtain ⟨d, ds, hd, he, sd, se, q⟩ := h
  obtain ⟨as, r1⟩ := Dp.reads I d x v hd rx
  obtain ⟨bs, r2⟩ := Dp.reads I (.tuple ds) y u he ry
  exact SeqAt.in_tuple_reads r2 r1 (SeqAt.canLay_of_shaped se) (SeqAt.canLay_of_shaped sd) (room_in_tup sd hu) ⟨.bl _, H, I, rfl, q⟩
theorem op_notInTD (hu : X.A.units + 65 < cLine) : OpR X (compareOp .NotIn) (rNotInTD X.K) := by
  intro pins s σ H x y v u Q I rx ry h
  obtain ⟨d, ds, hd, he, sd, se, q⟩ := h
  obtain ⟨as, r1⟩ := Dp.reads I d x v hd rx
  obtain ⟨bs, r2⟩ := Dp.reads I (.tuple ds) y u he ry
  exact SeqAt.notIn_tuple_reads r2 r1 (SeqAt.canLay_of_shaped se) (SeqAt.canLay_of_shaped sd) (room_in_tup sd hu) ⟨.bl _, H, I, rfl, q⟩
def rInA (K : PySem.W.Frag) : R2 := fun x y H Q => rIn K false x y H Q ∨ rInD K x y H Q ∨ rInTD K x y H Q ∨ (∃ (c : Nat) (z : Str), x = .str ⟨#[c]⟩ ∧ y = .str z ∧ Q (.bl (decide (c ∈ z.cps.toList))) H) ∨
  (∃ i j, x = .str i ∧ y = .str j ∧ Q (.bl (!(Builtin.Str.occurrences j i 0 j.length 1).isEmpty)) H)
def rNotInA (K : PySem.W.Frag) : R2 := fun x y H Q => rIn K true x y H Q ∨ rNotInD K x y H Q ∨ rNotInTD K x y H Q ∨ (∃ (c : Nat) (z : Str), x = .str ⟨#[c]⟩ ∧ y = .str z ∧ Q (.bl (!decide (c ∈ z.cps.toList))) H) ∨
  (∃ i j, x = .str i ∧ y = .str j ∧ Q (.bl (!(!(Builtin.Str.occurrences j i 0 j.length 1).isEmpty))) H)
theorem op_inA (hu : X.A.units + 65 < cLine) : OpR X (compareOp .In) (rInA X.K) := op_in_seq.or ((op_inD hu).or ((op_inTD hu).or (op_in_sign.or op_in_str)))
theorem op_notInA (hu : X.A.units + 65 < cLine) : OpR X (compareOp .NotIn) (rNotInA X.K) := op_notIn_seq.or ((op_notInD hu).or ((op_notInTD hu).or (op_notIn_sign.or op_notin_str)))
theorem any_toPys (d : PyData) : ∀ ds : List DV, ((toPys ds).any fun z => PyData.eqv z d) = ds.any fun z => PyData.eqv (toPy z) d
  | [] => rfl
  | x :: ds => by rw [toPys, List.any_cons, List.any_cons, any_toPys d ds]
theorem in_rd : R2D K (rInA K) wIn := by
  intro R μ H x y dx dy P Q ok ix iy w k
  cases iy with
  | lst hy ry =>
    rcases w with ⟨f1, f2, w⟩ | ⟨s1, s2, w⟩
    · refine .inl ⟨_, _, rfl, .inl (SqL.of (hid_le _ _ hy)), by rw [flat_of ix]; exact f1, by rw [flats_of ry]; exact f2, ?_⟩
      rw [if_neg Bool.false_ne_true, inV_of ix f1 ry f2]
      exact k.val ok w (.bool _)
    · obtain ⟨p1, q1⟩ := ix.up.dpS s1
      obtain ⟨p2, q2⟩ := (Is.up (K := K) (.lst hy ry)).dpS s2
      exact .inr (.inl ⟨_, _, p1, p2, q1, q2, by rw [any_toPys]; exact k.val ok w (.bool _)⟩)
  | tup hy ry =>
    rcases w with ⟨f1, f2, w⟩ | ⟨s1, s2, w⟩
    · refine .inl ⟨_, _, rfl, .inr (Same.seqT hid_le hy), by rw [flat_of ix]; exact f1, by rw [flats_of ry]; exact f2, ?_⟩
      rw [if_neg Bool.false_ne_true, inV_of ix f1 ry f2]
      exact k.val ok w (.bool _)
    · obtain ⟨p1, q1⟩ := ix.up.dpS s1
      obtain ⟨p2, q2⟩ := (Is.up (K := K) (.tup hy ry)).dpS s2
      exact .inr (.inr (.inl ⟨_, _, p1, p2, q1, q2, by rw [any_toPys]; exact k.val ok w (.bool _)⟩))
  | str z => cases ix with
    | str s =>
      rcases w with ⟨c, rfl, w⟩ | w
      · exact .inr (.inr (.inr (.inl ⟨c, z, rfl, rfl, k.val ok w (.bool _)⟩)))
      · exact .inr (.inr (.inr (.inr ⟨s, z, rfl, rfl, k.val ok w (.bool _)⟩)))
    | _ => exact (show False from w).elim
  | _ => exact (show False from w).elim
theorem notIn_rd : R2D K (rNotInA K) wNotIn := by
  intro R μ H x y dx dy P Q ok ix iy w k
  cases iy with
  | lst hy ry =>
    rcases w with ⟨f1, f2, w⟩ | ⟨s1, s2, w⟩
    · refine .inl ⟨_, _, rfl, .inl (SqL.of (hid_le _ _ hy)), by rw [flat_of ix]; exact f1, by rw [flats_of ry]; exact f2, ?_⟩
      rw [if_pos rfl, inV_of ix f1 ry f2]
      exact k.val ok w (.bool _)
    · obtain ⟨p1, q1⟩ := ix.up.dpS s1
      obtain ⟨p2, q2⟩ := (Is.up (K := K) (.lst hy ry)).dpS s2
      exact .inr (.inl ⟨_, _, p1, p2, q1, q2, by rw [any_toPys]; exact k.val ok w (.bool _)⟩)
  | tup hy ry =>
    rcases w with ⟨f1, f2, w⟩ | ⟨s1, s2, w⟩
    · refine .inl ⟨_, _, rfl, .inr (Same.seqT hid_le hy), by rw [flat_of ix]; exact f1, by rw [flats_of ry]; exact f2, ?_⟩
      rw [if_pos rfl, inV_of ix f1 ry f2]
      exact k.val ok w (.bool _)
    · obtain ⟨p1, q1⟩ := ix.up.dpS s1
      obtain ⟨p2, q2⟩ := (Is.up (K := K) (.tup hy ry)).dpS s2
      exact .inr (.inr (.inl ⟨_, _, p1, p2, q1, q2, by rw [any_toPys]; exact k.val ok w (.bool _)⟩))
  | str z => cases ix with
    | str s =>
      rcases w with ⟨c, rfl, w⟩ | w
      · exact .inr (.inr (.inr (.inl ⟨c, z, rfl, rfl, k.val ok w (.bool _)⟩)))
      · exact .inr (.inr (.inr (.inr ⟨s, z, rfl, rfl, k.val ok w (.bool _)⟩)))
    | _ => exact (show False from w).elim
  | _ => exact (show False from w).elim

/-! ### subscripts, slices -/
def atW {α : Type} (o : Option α) (f : α → Prop) : Prop := match o with | some d => f d | none => False
theorem atW_of {α : Type} {o : Option α} {f : α → Prop} (h : atW o f) : ∃ d, o = some d ∧ f d := by
  cases o with
  | none => exact h.elim
  | some d => exact ⟨d, rfl, h⟩
def wIx : W2
  | .lst ds, .int i, μ, P => atW (atI ds i) fun d => P d μ
  | .tup ds, .int i, μ, P => atW (atI ds i) fun d => P d μ
  | .str z, .int i, μ, P => z.length ≤ sizeLine ∧ atW (atI z.cps.toList i) fun c => P (.str ⟨#[c]⟩) μ
  | _, _, _, _ => False
theorem Iss.atI {H : Hp} {vs : List V} {ds : List DV} {i : Int} {d : DV} (r : Iss K H vs ds) (h : L2.atI ds i = some d) : ∃ v, L2.atI vs i = some v ∧ Is K H v d := by
  unfold L2.atI at h ⊢
  rw [r.length]
  cases e : ixN ds.length i with
  | none => rw [e] at h; cases h
  | some j =>
    rw [e] at h
    exact r.get h
theorem ix_rd : R2D K (rIx K) wIx := by
  intro R μ H x y dx dy P Q ok ix iy w k
  cases ix with
  | lst hx rx => cases iy with
    | int i =>
      obtain ⟨d, e, w⟩ := atW_of w
      obtain ⟨v, h1, h2⟩ := rx.atI e
      exact .inl ⟨_, _, i, v, rfl, rfl, SqL.of (hid_le _ _ hx), h1, k.val ok w h2⟩
    | _ => exact (show False from w).elim
  | tup hx rx => cases iy with
    | int i =>
      obtain ⟨d, e, w⟩ := atW_of w
      obtain ⟨v, h1, h2⟩ := rx.atI e
      exact .inr (.inl ⟨_, _, i, v, rfl, rfl, Same.seqT hid_le hx, h1, k.val ok w h2⟩)
    | _ => exact (show False from w).elim
  | str z => cases iy with
    | int i =>
      obtain ⟨d, e, w'⟩ := atW_of w.2
      exact .inr (.inr ⟨z, i, _, rfl, rfl, w.1, e, k.val ok w' (.str _)⟩)
    | _ => exact (show False from w).elim
  | _ => exact (show False from w).elim
abbrev WO := Rho → Mh → (Option Int → Mh → Prop) → Prop
def NxtO (K : PySem.W.Frag) (R : Hp) (μ : Mh) (H : Hp) (P : Option Int → Mh → Prop) (Q : Option Int → Hp → Prop) : Prop :=
  ∀ b μ' H', P b μ' → Ok K R μ' H' → Same (hid R μ H) (hid R μ' H') → Q b H'
def tDO (K : PySem.W.Frag) (w : WO) : TO := fun σ H Q => ∃ R ρ μ P, At K R σ ρ μ H ∧ w ρ μ P ∧ NxtO K R μ H P Q
def wNoPart : WO := fun _ μ P => P none μ
def wPart (w : WE) : WO := fun ρ μ P => w ρ μ fun d μ1 => match d with | .int i => P (some i) μ1 | _ => False
theorem PO.imp {e : Option Expr} {t t' : TO} (h : PO X e t) (i : ∀ σ H Q, t' σ H Q → t σ H Q) : PO X e t' := ⟨fun pins s σ H Q I w => h.run pins s σ H Q I (i _ _ _ w)⟩
theorem do_none : PO X none (tDO X.K wNoPart) := PO.imp po_none fun σ H Q ⟨R, ρ, μ, P, a, w, k⟩ => k _ μ H w a.ok (Same.refl _)
variable {e a b : Expr} {w wa wb : WE} {lo hi : Option Expr} {wl wh : WO} {pos p2 : Pos}
theorem do_some (h : PE X e (tD X.K w)) : PO X (some e) (tDO X.K (wPart w)) := PO.imp (po_some h) fun σ H Q ⟨R, ρ, μ, P, a, w, k⟩ => ⟨R, ρ, μ, _, a, w, fun d μ1 v H1 p1 o1 s1 i1 => by
  cases i1 with
  | int i => exact ⟨i, rfl, k _ μ1 H1 p1 o1 s1⟩
  | _ => exact (show False from p1).elim⟩
def cutD (ds : List DV) (lo hi : Option Int) : List DV := (ds.drop (HT.sIx ds.length 0 lo)).take (HT.sIx ds.length ds.length hi - HT.sIx ds.length 0 lo)
theorem Iss.cut {H : Hp} {vs : List V} {ds : List DV} (r : Iss K H vs ds) (lo hi : Option Int) : Iss K H (cutV vs lo hi) (cutD ds lo hi) := by
  unfold cutV cutD
  rw [r.length]
  exact (r.drop _).take _
def wCut : DV → Option Int → Option Int → Mh → (DV → Mh → Prop) → Prop
  | .lst ds, l, h, μ, P => P (.lst (cutD ds l h)) μ
  | .tup ds, l, h, μ, P => P (.tup (cutD ds l h)) μ
  | .str z, l, h, μ, P => z.length ≤ sizeLine ∧ P (.str (cutS z l h)) μ
  | .fix ds, l, h, μ, P => P (.lst (cutD ds l h)) μ
  | _, _, _, _, _ => False
def wSl (w : WE) (wl wh : WO) : WE := fun ρ μ P => w ρ μ fun x μ1 => wl ρ μ1 fun l μ2 => wh ρ μ2 fun h μ3 => wCut x l h μ3 P
def rSlX (K : PySem.W.Frag) : V → Option Int → Option Int → Hp → VK → Prop := fun x lo hi H Q => rSlL K x lo hi H Q ∨ rSlA K x lo hi H Q ∨ rSlS x lo hi H Q
theorem sl_any : SlR X (rSlX X.K) := sl_list.or (sl_tupA.or sl_str)
theorem d_slice (he : PE X e (tD X.K w)) (hl : PO X lo (tDO X.K wl)) (hu : PO X hi (tDO X.K wh)) : PE X (.Subscript e (.Slice lo hi none p2) pos) (tD X.K (wSl w wl wh)) :=
  PE.imp (pe_slice sl_any he hl hu) fun σ H Q ⟨R, ρ, μ, P, a, w, k⟩ => ⟨R, ρ, μ, _, a, w, fun x μ1 v H1 p1 o1 s1 i1 => ⟨R, ρ, μ1, _, a.step o1 s1, p1, fun l μ2 H2 p2 o2 s2 => ⟨R, ρ, μ2, _, a.step o2 (s1.trans s2), p2, fun h μ3 H3 p3 o3 s3 => by
    have k3 := k.step ((s1.trans s2).trans s3)
    have i3 := i1.mono (s2.trans s3)
    cases i3 with
    | lst hx rx => exact .inl ⟨_, _, rfl, SqL.of (hid_le _ _ hx), fun p n => k3.lst o3 p3 (rx.cut l h) n⟩
    | @tup a xs ds hx rx =>
      refine .inr (.inl ⟨_, _, rfl, Same.seqT hid_le hx, fun z => ?_, fun _ p n => k3.tup o3 p3 (rx.cut l h) n⟩)
      have e : cutD ds l h = ds := by
        unfold cutD
        rw [← rx.length, z.1, z.2]
        simp [rx.length]
      exact k3.val o3 (by rw [← e]; exact p3) (.tup hx rx)
    | fix hx rx => exact .inl ⟨_, _, rfl, hid_le.seq hx, fun p n => k3.lst o3 p3 (rx.cut l h) n⟩
    | str z => exact .inr (.inr ⟨z, rfl, p3.1, k3.val o3 p3.2 (.str _)⟩)
    | _ => exact (show False from p3).elim⟩⟩⟩
theorem d_ix (ha : PE X a (tD X.K wa)) (hb : PE X b (tD X.K wb)) (hs : PlainIx b := by exact fun _ _ => rfl) : PE X (.Subscript a b pos) (tD X.K (wBin wIx wa wb)) := PE.imp (pe_ix ix_seq ha hb hs) (bin_imp ix_rd)
end
end Dz

set_option Elab.async false
set_option linter.all false
set_option maxRecDepth 100000
set_option maxHeartbeats 4000000
/-! DzG: a def's promise where nothing around it is being shown (repr): guards stand empty. The law's end for such promises. -/
namespace Dz
open PySem PySem.Spec L2 PyProof.Rows

/-- as FnOk, at places around which no repr runs -/
structure FnG (P : Program) (w : World) (K : PySem.W.Frag) (mg : Str → Option Value) (base : Heap) (k : Nat) (f : Addr) (fd : FuncData) (ps : List Str) (sp : Sp) : Prop where
  len : ∀ vs H Q E, sp vs H Q E → vs.length = ps.length
  run : ∀ (A : Around) (fr : List Env) (s : Shared) (H : Hp) (ar : Args) (us : List Value) (vs : List V) (Q : VK) (E : XK), A.guards = some [] → Room k A → Env0 P w K mg base A fr s H → BindsTo s fd ar (ps.zip us) → Vals vs us → sp vs H Q E →
    codeAny (model P w) A (.call (.ref f) ar) (CR CX0 fr P w H s Q E) s
theorem FnG.mono {P : Program} {w : World} {K : PySem.W.Frag} {mg : Str → Option Value} {base : Heap} {j k : Nat} {f : Addr} {fd : FuncData} {ps : List Str} {sp : Sp} (F : FnG P w K mg base j f fd ps sp) (h : j ≤ k) : FnG P w K mg base k f fd ps sp :=
  ⟨F.len, fun A fr s H ar us vs Q E hg hr => F.run A fr s H ar us vs Q E hg (hr.mono h)⟩
theorem FnOk.g {P : Program} {w : World} {K : PySem.W.Frag} {mg : Str → Option Value} {base : Heap} {k : Nat} {f : Addr} {fd : FuncData} {ps : List Str} {sp : Sp} (F : FnOk P w K mg base CX0 k f fd ps sp) : FnG P w K mg base k f fd ps sp :=
  ⟨F.len, fun A fr s H ar us vs Q E _ hr => F.run A fr s H ar us vs Q E hr⟩

/-- a def of the text keeps a promise by its body -/
theorem fng_of {P : Program} {w : World} {K : PySem.W.Frag} {mg : Str → Option Value} {base : Heap} {x qual : Str} {st : Stmt} {f : Addr} {fd : FuncData} {N ps : List Str} {k : Nat} {sp : Sp} (F : Fun K x qual st f fd) (S : FnScope N ps (defScope st)) (len : ∀ vs H Q E, sp vs H Q E → vs.length = ps.length)
    (body : ∀ (cdv : Value) (A : Around) (fr : List Env) (s : Shared) (H : Hp) (vs : List V) (Q : VK) (E : XK), A.guards = some [] → Room k (A.deeper (envOfC qual (defScope st) s.heap.objs.size f cdv)) → sp vs H Q E →
      ∃ t, PSs (cxOf CX0 P w K mg base N qual (defScope st) f cdv A fr s H E).nox (defBody st) t ∧ t { nx := fun _ H' => Q .non H', rt := Q } (start N vs) H) : FnG P w K mg base (k + 1) f fd ps sp := by
  obtain ⟨oc, od, kV, doc, pm, an, cdv, ct, osl, rfl, lk, hcd⟩ := F.ex
  refine ⟨len, fun A fr s H ar us vs Q E hgd room env bnd rel want => ?_⟩
  have inK : K.In s.heap := env.mod.kin.keeps fun b o q => (env.bs b o q).1
  have nolim : s.heap.NoLimit := env.mod.nolimit.keeps fun b o q => (env.bs b o q).1
  have count := len vs H Q E want
  have kinds : ∀ y ∈ ps.zip us, (defScope st).names.lookup y.1 = some .local ∨ ((defScope st).names.lookup y.1 = some .cell ∧ ((cellsFrom (s.heap.objs.size + 1) (defScope st).names []).lookup y.1).isSome = true) := by
    rintro ⟨nm, vv⟩ hy
    have hp := S.par nm (List.of_mem_zip hy).1
    rcases hp with hp | hp
    · exact Or.inl hp
    · exact Or.inr ⟨hp, PySem.W.cellsFrom_some _ _ _ (Or.inl hp)⟩
  refine codeAny_call_function room.depth (inK _ _ lk) rfl S.co S.gen rfl (PySem.W.codeRec_of inK hcd) (bnd _ _ _ _ ?_)
  refine wpAny_newFunctionEnv_cells S.kind kinds fun ev hev s1 x1 => ?_
  subst hev
  refine ⟨nolim.keeps x1.toInCall.keep, codeAny_func ?_⟩
  obtain ⟨t, ht0, hq⟩ := body cdv A fr s H vs Q E hgd (room.deeper _) want
  have ht := ht0.nox
  have I0 := inv_start (CX := CX0) (E := E) S room.hd env count rel x1
  refine wpAny_mono (ht.run [] s1 (start N vs) H _ I0 hq) (fun flow s2 hs => ?_) fun er s2 hs => hs
  cases flow with
  | next =>
    obtain ⟨σ2, H2, J, q⟩ := hs
    exact ⟨.non, H2, J.os, J.bare, J.base, J.hok, rfl, q⟩
  | ret u =>
    obtain ⟨v, σ2, H2, J, rv, q⟩ := hs
    exact ⟨v, H2, J.os, J.bare, J.base, J.hok, rv, q⟩
  | brk =>
    obtain ⟨_, _, _, q⟩ := hs
    exact q.elim
  | cont =>
    obtain ⟨_, _, _, q⟩ := hs
    exact q.elim

section
variable {X : Cx} {k : Nat} {f : Addr} {fd : FuncData} {ps : List Str} {sp : Sp} {E : XK} {x : Str} {p pos : Pos} {e : Expr} {es : List Expr} {t : TA} {dvs : List V} {ds : List Value}
theorem runG {pins : List (Addr × Obj)} {σ : L2.St} {H : Hp} {s : Shared} {Q : VK} {ar : Args} {us : List Value} {vs : List V} (F : FnG X.prog X.w X.K X.mg X.base k f fd ps sp) (hgd : X.A.guards = some []) (hr : Room k X.A) (I : Inv X pins σ H s) (hb : BindsTo s fd ar (ps.zip us)) (r : Vals vs us) (h : sp vs H Q E) :
    wpAny (model X.prog X.w) X.A (PySem.call (.ref f) ar.pos ar.kw) (EP X pins σ Q) X.xe s := by
  refine wpAny_call (codeAny_mono (F.run X.A X.stack s H ⟨ar.pos, ar.kw⟩ us vs Q E hgd hr I.env0 hb r h) fun res s' hq => ?_)
  match res, hq with
  | .ok (.ret u), hq => exact I.after hq
theorem peg_call (F : FnG X.prog X.w X.K X.mg X.base k f fd ps sp) (hgd : X.A.guards = some []) (hr : Room k X.A) (hg : Gl X x) (hm : X.mg x = some (.ref f)) (hk : PySem.W.keepIn X.K (.ref f) = true) (hb : Binds X.K fd ps ds) (hd : Vals dvs ds)
    (ha : PA X (e :: es) t) (hdb : (x == ("__debug__" : Str)) = false) (he : starEach (e :: es) X.env = (false, eval e X.env) :: starEach es X.env) (hpl : (backTo pos (starEach es X.env)).any (·.1) = false) :
    PE X (.Call (.Name x p) (e :: es) [] pos) (tCall sp dvs E t) := by
  constructor
  intro pins s σ H Q I h
  refine wpAny_Call_Name_kw (ld_glob I hg hm (PySem.W.callWith_K (h₀ := X.base) I.ok.mod.kin hk (thn (ha.run pos pins s σ H _ I h) fun us s1 ⟨vs, H1, I1, r, q⟩ => ⟨I1.kIn, ?_⟩) he hpl) hdb)
  have rr : Vals (vs ++ dvs) (us ++ ds) := r.append hd
  exact runG (ar := ⟨us, []⟩) F hgd hr I1 (hb s1 us I1.kIn (by rw [← rr.length]; exact F.len _ _ _ _ q)) rr q
theorem peg_call0 (F : FnG X.prog X.w X.K X.mg X.base k f fd ps sp) (hgd : X.A.guards = some []) (hr : Room k X.A) (hg : Gl X x) (hm : X.mg x = some (.ref f)) (hk : PySem.W.keepIn X.K (.ref f) = true) (hb : Binds X.K fd ps ds) (hd : Vals dvs ds)
    (hdb : (x == ("__debug__" : Str)) = false) : PE X (.Call (.Name x p) [] [] pos) (tCall sp dvs E tNil) := by
  constructor
  intro pins s σ H Q I h
  refine wpAny_Call_Name_kw (ld_glob I hg hm (PySem.W.callWith_K0 I.kIn hk ?_) hdb)
  exact runG (ar := ⟨[], []⟩) (us := [] ++ ds) (vs := [] ++ dvs) F hgd hr I (hb s [] I.kIn (by rw [← (Vals.append .nil hd).length]; exact F.len _ _ _ _ h)) (Vals.append .nil hd) h
/-- keywords alone -/
theorem peg_callK0 {ks : List Str} {kws : List Keyword} {tk : TA} {g : List Value → List Value → List Value} {gV : List V → List V → List V} (F : FnG X.prog X.w X.K X.mg X.base k f fd ps sp) (hgd : X.A.guards = some []) (hr : Room k X.A) (hg : Gl X x) (hm : X.mg x = some (.ref f)) (hk : PySem.W.keepIn X.K (.ref f) = true)
    (hb : KBinds X.K fd ps ks g gV) (hkw : PK X kws tk) (hall : (backToKw pos (keywordEach kws X.env)).all (·.1.isSome) = true) (hks : (backToKw pos (keywordEach kws X.env)).filterMap (·.1) = ks) (hdb : (x == ("__debug__" : Str)) = false)
    (hpl : ((backTo pos (starEach [] X.env)).any (·.1) || (backToKw pos (keywordEach kws X.env)).any (·.1.isNone)) = false) : PE X (.Call (.Name x p) [] kws pos) (fun σ H Q => tk σ H fun zs H1 => sp (gV [] zs) H1 Q E) := by
  constructor
  intro pins s σ H Q I h
  refine wpAny_Call_Name_kw (ld_glob I hg hm (PySem.W.callWith_KW0 (h₀ := X.base) I.ok.mod.kin hk hall (thn (hkw.run pos pins s σ H _ I h) fun us s1 ⟨zs, H1, I1, r, q⟩ => ⟨I1.kIn, ?_⟩) hpl) hdb)
  rw [hks]
  have rr : Vals (gV [] zs) (g [] us) := hb.rel .nil r
  exact runG (ar := ⟨[], ks.zip us⟩) F hgd hr I1 (hb.to s1 [] us I1.kIn (by rw [← rr.length]; exact F.len _ _ _ _ q)) rr q
end

/-! ### the end -/
/-- the script is there: a list of the ints, locked (or the module's own); nothing else is tracked -/
def Entry (H : Hp) : Prop := ∀ b, H b = none ∨ ∃ o xs, H b = some (.frz o (.lst xs))
theorem law_callG {P : Program} {w : World} {K : PySem.W.Frag} {mg mb : Str → Option Value} {k : Nat} {fa a : Addr} {fd : FuncData} {x : Str} {sp : Sp} {s₁ : Shared} {vs : List Value} {ns : List Int}
    (KX : K.In s₁.heap) (hns : s₁.heap.Ns mainGlobals mg) (hb : s₁.heap.Ns builtinsNs mb) (hbb : ∀ y : Str, y ≠ "__name__" → mb y = bootBuiltins y) (hlim : s₁.heap.NoLimit) (hg : s₁.gens = #[])
    (ha : s₁.heap.get? a = some { cls := .type "list", data := .seq vs.toArray }) (hi : IntsAre vs ns) (hl : ns.length ≤ sizeLine) (hr : Room k callerA)
    (hsys : ∃ m, s₁.heap.Ns sysModules m) (F : ∀ base : Heap, K.In base → base.Ns mainGlobals mg → (∃ o, base.get? sysModules = some o) → FnG P w K mg base k fa fd [x] sp) (hbind : ∀ (s : Shared) (u : Value), BindsTo s fd ⟨[u], []⟩ [(x, u)])
    (hsp : ∀ H : Hp, Entry H → SqL K H a (ns.map V.int) → sp [.ref a] H (fun v _ => v = .bl true) fun _ _ _ => False) :
    codeAny (model P w) callerA (.call (.ref fa) ⟨[.ref a], []⟩) (fun r s' => r = .ok (.ret (.bool true)) ∧ OldK s₁.heap s'.heap ∧ s'.os = s₁.os ∧ AllBare s'.gens) s₁ := by
  have rv := vals_ints hi
  have same : ∀ H : Hp, Entry H → SqL K H a (ns.map V.int) → HOk P w H s₁.heap → (∀ b u, H b = some u → b = a ∧ K.lookup a = none) →
      codeAny (model P w) callerA (.call (.ref fa) ⟨[.ref a], []⟩) (fun r s' => r = .ok (.ret (.bool true)) ∧ OldK s₁.heap s'.heap ∧ s'.os = s₁.os ∧ AllBare s'.gens) s₁ := by
    intro H hE hS hok only
    -- what is no list at a stays below
    have low : ∀ {b : Addr} {o : Obj}, s₁.heap.get? b = some o → (b = a → K.lookup a = none → False) → (hidT s₁.heap H).get? b = some o := fun {b o} e ne => by
      refine hidT_get e ?_
      cases q : H b with
      | none => rfl
      | some u => exact (ne (only b u q).1 (only b u q).2).elim
    have lowNs : ∀ {b : Addr} {m : Str → Option Value}, s₁.heap.Ns b m → (hidT s₁.heap H).Ns b m := fun {b m} h => by
      obtain ⟨o, es, ep, e, d, rest⟩ := h
      refine ⟨o, es, ep, low e fun z _ => ?_, d, rest⟩
      subst z
      rw [ha] at e
      cases e
      exact Data.noConfusion (show Data.seq vs.toArray _ = Data.dict es ep from d)
    have lowK : K.In (hidT s₁.heap H) := fun b o e => low (KX b o e) fun z n => by
      subst z
      rw [n] at e
      cases e
    obtain ⟨ml, hl1, hl2⟩ := hlim
    have env : Env0 P w K mg (hidT s₁.heap H) callerA [] s₁ H :=
      ⟨rfl, ⟨lowK, lowNs hns, ⟨mb, lowNs hb, hbb⟩, ⟨ml, lowNs hl1, hl2⟩⟩, fun b o e => of_hidT e, Nat.le_of_eq (hidT_size _ _), trivial, (fun b z => (List.not_mem_nil (show b ∈ ([] : List Addr) from z)).elim), hok, AllBare.of_eq hg⟩
    refine codeAny_mono ((F (hidT s₁.heap H) lowK (lowNs hns) (let ⟨_, hm⟩ := hsys; let ⟨o, _, _, ho, _⟩ := lowNs hm; ⟨o, ho⟩)).run callerA [] s₁ H ⟨[.ref a], []⟩ [.ref a] [.ref a] _ _ rfl hr env (hbind s₁ (.ref a)) (.cons rfl .nil) (hsp H hE hS)) fun res s' h => ?_
    match res, h with
    | .ok (.ret u), ⟨v, H', os, bare, un, hok', r', q⟩ =>
      have q' : v = V.bl true := q
      subst q'
      obtain rfl : u = Value.bool true := r'
      refine ⟨rfl, OldK.of_keep fun b o e => ?_, os, bare⟩
      rcases hE b with z | ⟨ob, xs, z⟩
      · exact un.keep b o e z (fun y => List.not_mem_nil (show b ∈ ([] : List Addr) from y)) (fun y => List.not_mem_nil y)
      · obtain ⟨e1, _⟩ := hok b _ z
        obtain ⟨e2, _⟩ := hok' b _ (un.frzs b ob _ z)
        have e3 : some o = some ob := e.symm.trans e1
        cases e3
        exact e2
  have lenV := hi.length
  cases hk : K.lookup a with
  | some o =>
    have e := (KX a o hk).symm.trans ha
    cases e
    exact same (fun _ => none) (fun _ => Or.inl rfl) (Or.inr ⟨_, vs.toArray, _, hk, rfl, rfl, rfl, by simpa [lenV] using hl, by simpa using rv⟩) (fun b u z => by cases z) (fun b u z => by cases z)
  | none =>
    let o0 : Obj := { cls := .type "list", data := .seq vs.toArray }
    let H0 : Hp := fun b => if b = a then some (.frz o0 (.lst (ns.map V.int))) else none
    have at0 : ∀ b u, H0 b = some u → b = a ∧ u = .frz o0 (.lst (ns.map V.int)) := fun b u z => by
      by_cases hb : b = a
      · exact ⟨hb, (Option.some.inj ((if_pos hb).symm.trans z)).symm⟩
      · cases (if_neg hb).symm.trans z
    refine same H0 (fun b => ?_) (Or.inl (Or.inr ⟨o0, if_pos rfl⟩)) (fun b u z => ?_) (fun b u z => ⟨(at0 b u z).1, hk⟩)
    · by_cases hb : b = a
      · exact Or.inr ⟨o0, _, if_pos hb⟩
      · exact Or.inl (if_neg hb)
    · obtain ⟨rfl, rfl⟩ := at0 b u z
      exact ⟨ha, by rw [List.length_map]; exact hl, vs, _, rv, ha⟩
/-- the goal that k_head leaves, from the law's promise -/
theorem walk_ofG {l : PySem.W.OpenLaw} {n k : Nat} {q : Program} {loose : List Str} {XP : (Str → Option Value) → Heap → Prop} {YP : World → Heap → Prop} {d : DefRec} {K : Params → PySem.W.Frag} {sp : PySem.W.Frag → Sp} {x : Str}
    (hn : l.most = some n) (hn2 : n ≤ sizeLine) (hi : importsNone q = true) (hdf : d.params.defaults = []) (hr : Room k callerA) (hY : ∀ (w : World) (h : Heap), YP w h → (K w.params).In h)
    (F : ∀ (w : World) (mg : Str → Option Value) (fa : Addr) (h : Heap), (K w.params).In h → h.Ns mainGlobals mg → (∃ o, h.get? sysModules = some o) → mg d.name = some (.ref fa) →
      ∃ fd : FuncData, (∀ (s : Shared) (u : Value), BindsTo s fd ⟨[u], []⟩ [(x, u)]) ∧ ∀ base : Heap, (K w.params).In base → base.Ns mainGlobals mg → (∃ o, base.get? sysModules = some o) → FnG l.prog w (K w.params) mg base k fa fd [x] (sp (K w.params)))
    (hsp : ∀ (K : PySem.W.Frag) (H : Hp) (a : Addr) (ns : List Int), ns.length ≤ n → Entry H → SqL K H a (ns.map V.int) → sp K [.ref a] H (fun v _ => v = .bl true) fun _ _ _ => False) :
    PySem.W.WalkO q loose XP YP l.row.toRowW d [] (fun f vs => PySem.call f vs) := by
  refine Att.attach_call hn hdf fun w s₀ s₁ mg mb fa o pm cd doc a vs ns G Y ho hd hcd hmg hobj hints hlen hgen => ?_
  have KX := hY w _ Y
  have hsys : ∃ m, s₁.heap.Ns sysModules m := let ⟨m, hm, _⟩ := (G.T.seer hi).mods; ⟨m, hm⟩
  obtain ⟨fd, hbd, hF⟩ := F w mg fa _ KX G.T.g (let ⟨_, hm⟩ := hsys; let ⟨o, _, _, ho, _⟩ := hm; ⟨o, ho⟩) hmg
  exact law_callG KX G.T.g G.T.b G.T.builtins G.T.nolimit hgen hobj hints (Nat.le_trans hlen hn2) hr hsys hF hbd fun H hE hS => hsp (K w.params) H a ns hlen hE hS
end Dz

set_option Elab.async false
set_option linter.all false
set_option maxRecDepth 100000
set_option maxHeartbeats 4000000
/-! Dz4: targets, things walked, statements, loops, comprehensions, defs and their calls. -/
namespace Dz
open PySem L2 PyProof.Rows

/-! ### targets -/
theorem wipe_get (σ : L2.St) (j : Nat) : ∀ vs : List Nat, (wipe σ vs)[j]? = if j ∈ vs ∧ j < σ.length then some none else σ[j]?
  | [] => by simp [wipe]
  | v :: vs => by
    unfold wipe
    by_cases h : v = j
    · subst h
      by_cases hl : v < σ.length
      · rw [List.getElem?_set_self (by rw [wipe_length]; exact hl), if_pos ⟨List.mem_cons_self, hl⟩]
      · rw [List.getElem?_eq_none (by rw [List.length_set, wipe_length]; omega), if_neg (fun z => hl z.2), List.getElem?_eq_none (by omega)]
    · rw [List.getElem?_set_ne h, wipe_get σ j vs]
      by_cases c : j ∈ vs ∧ j < σ.length
      · rw [if_pos c, if_pos ⟨List.mem_cons_of_mem _ c.1, c.2⟩]
      · rw [if_neg c, if_neg fun z => c ⟨(List.mem_cons.mp z.1).resolve_left fun q => h q.symm, z.2⟩]
theorem wipe_set {σ : L2.St} {i : Nat} {x : Option V} {vs : List Nat} (h : i ∈ vs) : wipe (σ.set i x) vs = wipe σ vs := by
  apply List.ext_getElem?
  intro j
  rw [wipe_get, wipe_get, List.length_set]
  by_cases c : j ∈ vs ∧ j < σ.length
  · rw [if_pos c, if_pos c]
  · rw [if_neg c, if_neg c]
    by_cases e : i = j
    · subst e
      have hl : ¬ i < σ.length := fun z => c ⟨h, z⟩
      rw [List.getElem?_eq_none (by rw [List.length_set]; omega), List.getElem?_eq_none (by omega)]
    · rw [List.getElem?_set_ne e]
theorem wipe_wipe (σ : L2.St) (vs : List Nat) : wipe (wipe σ vs) vs = wipe σ vs := by
  apply List.ext_getElem?
  intro j
  rw [wipe_get, wipe_get, wipe_length]
  by_cases c : j ∈ vs ∧ j < σ.length
  · rw [if_pos c, if_pos c]
  · rw [if_neg c, if_neg c]
def tDG (K : PySem.W.Frag) (sl : List Nat) (wg : WG) : TG := fun v σ H Q => ∃ R ρ μ d P, At K R σ ρ μ H ∧ Is K (hid R μ H) v d ∧ wg d ρ P ∧
  ∀ ρ' σ', P ρ' → Sl K (hid R μ H) σ' ρ' → (∀ vs, (∀ i ∈ sl, i ∈ vs) → wipe σ' vs = wipe σ vs) → Q σ' H
abbrev WGs := List DV → Rho → (Rho → Prop) → Prop
def tDGs (K : PySem.W.Frag) (sl : List Nat) (wg : WGs) : TGs := fun vs σ H Q => ∃ R ρ μ ds P, At K R σ ρ μ H ∧ Iss K (hid R μ H) vs ds ∧ wg ds ρ P ∧
  ∀ ρ' σ', P ρ' → Sl K (hid R μ H) σ' ρ' → (∀ vs, (∀ i ∈ sl, i ∈ vs) → wipe σ' vs = wipe σ vs) → Q σ' H
theorem PG.imp {X : Cx} {e : Expr} {t t' : TG} (h : PG X e t) (i : ∀ v σ H Q, t' v σ H Q → t v σ H Q) : PG X e t' := ⟨fun pins s σ H v u Q I r w => h.run pins s σ H v u Q I r (i _ _ _ _ w)⟩
theorem PGs.imp {X : Cx} {e : List Expr} {t t' : TGs} (h : PGs X e t) (i : ∀ v σ H Q, t' v σ H Q → t v σ H Q) : PGs X e t' := ⟨fun pins s σ H v u Q I r w => h.run pins s σ H v u Q I r (i _ _ _ _ w)⟩
theorem PI.imp {X : Cx} {tg e : Expr} {t t' : TI} (h : PI X tg e t) (i : ∀ σ H Q, t' σ H Q → t σ H Q) : PI X tg e t' := ⟨fun pins s σ H Q I w => h.run pins s σ H Q I (i _ _ _ w)⟩
def wgName (i : Nat) : WG := fun d ρ P => P (ρ.set i (some d))
def wgNil : WGs := fun ds ρ P => ds = [] ∧ P ρ
def wgCons (g : WG) (gs : WGs) : WGs := fun ds ρ P => match ds with | d :: r => g d ρ fun ρ1 => gs r ρ1 P | [] => False
def wgTup (n : Nat) (gs : WGs) : WG := fun d ρ P => match d with | .tup ds => ds.length = n ∧ gs ds ρ P | _ => False
section
variable {X : Cx} {pos : Pos} {e : Expr} {es : List Expr} {g : WG} {gs : WGs} {s1 s2 : List Nat}
theorem dg_name {i : Nat} {x : Str} (hN : X.N.Nodup) (hi : X.N[i]? = some x) (hx : Loc X.env.scope x) (hf : X.fn x = true ∨ X.env.scope.names.lookup x = some .local := by first | exact .inl rfl | exact .inr rfl | assumption) : PG X (.Name x pos) (tDG X.K [i] (wgName i)) :=
  PG.imp (pg_name hN hi hx hf) fun v σ H Q ⟨R, ρ, μ, d, P, a, r, w, k⟩ => k _ _ w (a.sl.set i r) fun vs h => wipe_set (h i List.mem_cons_self)
theorem dgs_nil : PGs X [] (tDGs X.K [] wgNil) := PGs.imp pgs_nil fun v σ H Q ⟨R, ρ, μ, d, P, a, r, w, k⟩ => by
  obtain ⟨rfl, w⟩ := w
  cases r
  exact ⟨rfl, k _ _ w a.sl fun _ _ => rfl⟩
theorem dgs_cons (h1 : PG X e (tDG X.K s1 g)) (h2 : PGs X es (tDGs X.K s2 gs)) (hs : (assignEach (e :: es) X.env).map (·.2) = assign e X.env :: (assignEach es X.env).map (·.2) := by rfl) : PGs X (e :: es) (tDGs X.K (s1 ++ s2) (wgCons g gs)) :=
  PGs.imp (pgs_cons h1 h2 hs) fun v σ H Q ⟨R, ρ, μ, ds, P, a, r, w, k⟩ => by
    cases r with
    | nil => exact (show False from w).elim
    | cons r rr =>
      refine ⟨_, _, rfl, R, ρ, μ, _, _, a, r, w, fun ρ1 σ1 p1 sl1 w1 => ⟨R, ρ1, μ, _, P, ⟨a.ok, sl1⟩, rr, p1, fun ρ2 σ2 p2 sl2 w2 => k ρ2 σ2 p2 sl2 fun vs h => ?_⟩⟩
      rw [w2 vs fun i hi => h i (List.mem_append_right _ hi), w1 vs fun i hi => h i (List.mem_append_left _ hi)]
theorem dg_tup {k n : Nat} (hc : X.calm = true) (h : PGs X es (tDGs X.K s1 gs)) (hn : (assignEach es X.env).length = n := by rfl) (hst : (assignEach es X.env).findIdx? (·.1) = none := by rfl) : PG X (.Tuple es k pos) (tDG X.K s1 (wgTup n gs)) :=
  PG.imp (pg_tup hc h hn hst) fun v σ H Q ⟨R, ρ, μ, d, P, a, r, w, k⟩ => by
    cases r with
    | tup hx rx => exact ⟨_, _, rfl, Same.seqT hid_le hx, by rw [rx.length]; exact w.1, R, ρ, μ, _, P, a, rx, w.2, k⟩
    | _ => exact (show False from w).elim
end

/-! ### what is walked -/
structure ItD (K : PySem.W.Frag) (Hm : Hp) (J : It) (xs : List DV) : Prop where
  go : ∀ R μ H i, Ok K R μ H → Same Hm (hid R μ H) → i < xs.length → J.go i H
  yld : ∀ R μ H i x H', Ok K R μ H → Same Hm (hid R μ H) → J.yld i H x H' → i < xs.length → ∃ d, xs[i]? = some d ∧ Ok K R μ H' ∧ Same (hid R μ H) (hid R μ H') ∧ Is K (hid R μ H') x d
  stop : ∀ R μ H i, Ok K R μ H → Same Hm (hid R μ H) → xs.length ≤ i → J.stop i H
theorem ItD.lst {K : PySem.W.Frag} {Hm : Hp} {a : Addr} {vs : List V} {xs : List DV} (h : Hm a = some (.lst vs)) (r : Iss K Hm vs xs) : ItD K Hm (Itl K a) xs where
  go := fun R μ H i o s hi => by
    obtain ⟨v, e, _⟩ := r.get (List.getElem?_eq_getElem hi)
    exact ⟨vs, v, SqL.of (hid_le _ _ (s _ _ h)), e⟩
  yld := fun R μ H i x H' o s y hi => by
    obtain ⟨rfl, y⟩ := y
    have e := y vs (SqL.of (hid_le _ _ (s _ _ h)))
    obtain ⟨d, e2, k⟩ := r.getV e
    exact ⟨d, e2, o, Same.refl _, k.mono s⟩
  stop := fun R μ H i o s hi => ⟨vs, SqL.of (hid_le _ _ (s _ _ h)), by rw [r.length]; exact hi⟩
theorem ItD.tup {K : PySem.W.Frag} {Hm : Hp} {a : Addr} {vs : List V} {xs : List DV} (h : SqT K Hm a vs) (r : Iss K Hm vs xs) : ItD K Hm (Itt K a) xs where
  go := fun R μ H i o s hi => by
    obtain ⟨v, e, _⟩ := r.get (List.getElem?_eq_getElem hi)
    exact ⟨vs, v, Same.seqT (s.trans hid_le) h, e⟩
  yld := fun R μ H i x H' o s y hi => by
    obtain ⟨rfl, y⟩ := y
    have e := y vs (Same.seqT (s.trans hid_le) h)
    obtain ⟨d, e2, k⟩ := r.getV e
    exact ⟨d, e2, o, Same.refl _, k.mono s⟩
  stop := fun R μ H i o s hi => ⟨vs, Same.seqT (s.trans hid_le) h, by rw [r.length]; exact hi⟩
def signs (z : Str) : List DV := z.cps.toList.map fun c => .str ⟨#[c]⟩
theorem ItD.str {K : PySem.W.Frag} {Hm : Hp} {z : Str} : ItD K Hm (Its z) (signs z) where
  go := fun R μ H i o s hi => by
    unfold signs at hi
    rw [List.length_map, Array.length_toList] at hi
    exact hi
  yld := fun R μ H i x H' o s y hi => by
    obtain ⟨rfl, c, e, rfl⟩ := y
    refine ⟨.str ⟨#[c]⟩, ?_, o, Same.refl _, .str _⟩
    unfold signs
    rw [List.getElem?_map, Array.getElem?_toList, e]
    rfl
  stop := fun R μ H i o s hi => by
    unfold signs at hi
    rw [List.length_map, Array.length_toList] at hi
    exact hi
def rngD (lo : Int) (n : Nat) : List DV := (List.range n).map fun i : Nat => .int (lo + (i : Int))
theorem ItD.rng {K : PySem.W.Frag} {Hm : Hp} {lo : Int} {n : Nat} : ItD K Hm (Itr lo n) (rngD lo n) where
  go := fun R μ H i o s hi => by
    unfold rngD at hi
    rw [List.length_map, List.length_range] at hi
    exact hi
  yld := fun R μ H i x H' o s y hi => by
    obtain ⟨rfl, rfl⟩ := y
    unfold rngD at hi ⊢
    rw [List.length_map, List.length_range] at hi
    refine ⟨.int (lo + (i : Int)), ?_, o, Same.refl _, .int _⟩
    rw [List.getElem?_map, List.getElem?_range hi]
    rfl
  stop := fun R μ H i o s hi => by
    unfold rngD at hi
    rw [List.length_map, List.length_range] at hi
    exact hi
abbrev WI := Rho → Mh → (List DV → Mh → Prop) → Prop
def tDI (K : PySem.W.Frag) (ws : WI) : TI := fun σ H RR => ∃ R ρ μ P, At K R σ ρ μ H ∧ ws ρ μ P ∧ ∀ xs μ' H' J, P xs μ' → Ok K R μ' H' → Same (hid R μ H) (hid R μ' H') → ItD K (hid R μ' H') J xs → RR J H'
def sLst (w : WE) : WI := fun ρ μ P => w ρ μ fun d μ1 => match d with | .lst xs => P xs μ1 | _ => False
def sTup (w : WE) : WI := fun ρ μ P => w ρ μ fun d μ1 => match d with | .tup xs => P xs μ1 | _ => False
def sStr (w : WE) : WI := fun ρ μ P => w ρ μ fun d μ1 => match d with | .str z => P (signs z) μ1 | _ => False
def sRng1 (w : WE) : WI := fun ρ μ P => w ρ μ fun d μ1 => match d with | .int j => j < 2 ^ 62 ∧ -(2 ^ 62) ≤ j ∧ P (rngD 0 j.toNat) μ1 | _ => False
def sRng2 (wa wb : WE) : WI := fun ρ μ P => wa ρ μ fun c μ1 => wb ρ μ1 fun d μ2 => match c, d with | .int i, .int j => (-(2 ^ 62) ≤ i ∧ i < 2 ^ 62 ∧ -(2 ^ 62) ≤ j ∧ j < 2 ^ 62) ∧ P (rngD i (j - i).toNat) μ2 | _, _ => False
section
variable {X : Cx} {tg e a b : Expr} {w wa wb : WE} {p pos : Pos}
theorem di_list (h : PE X e (tD X.K w)) : PI X tg e (tDI X.K (sLst w)) := PI.imp (pi_list h) fun σ H RR ⟨R, ρ, μ, P, a, w, k⟩ => ⟨R, ρ, μ, _, a, w, fun d μ1 v H1 p1 o1 s1 i1 => by
  cases i1 with
  | lst hx rx => exact ⟨_, rfl, ⟨_, SqL.of (hid_le _ _ hx)⟩, k _ μ1 H1 _ p1 o1 s1 (.lst hx rx)⟩
  | _ => exact (show False from p1).elim⟩
theorem di_tup (h : PE X e (tD X.K w)) : PI X tg e (tDI X.K (sTup w)) := PI.imp (pi_tup h) fun σ H RR ⟨R, ρ, μ, P, a, w, k⟩ => ⟨R, ρ, μ, _, a, w, fun d μ1 v H1 p1 o1 s1 i1 => by
  cases i1 with
  | tup hx rx => exact ⟨_, rfl, ⟨_, Same.seqT hid_le hx⟩, k _ μ1 H1 _ p1 o1 s1 (.tup hx rx)⟩
  | _ => exact (show False from p1).elim⟩
theorem di_str (h : PE X e (tD X.K w)) : PI X tg e (tDI X.K (sStr w)) := PI.imp (pi_str h) fun σ H RR ⟨R, ρ, μ, P, a, w, k⟩ => ⟨R, ρ, μ, _, a, w, fun d μ1 v H1 p1 o1 s1 i1 => by
  cases i1 with
  | str z => exact ⟨_, rfl, k _ μ1 H1 _ p1 o1 s1 .str⟩
  | _ => exact (show False from p1).elim⟩
theorem di_range1 (hg : Gl X "range") (hm : X.mg "range" = none) (h : PE X a (tD X.K w)) (hs : starEach [a] X.env = [(false, eval a X.env)] := by rfl) : PI X tg (.Call (.Name "range" p) [a] [] pos) (tDI X.K (sRng1 w)) :=
  PI.imp (pi_range1 hg hm (pa_cons h pa_nil hs) hs) fun σ H RR ⟨R, ρ, μ, P, a, w, k⟩ => ⟨R, ρ, μ, _, a, w, fun d μ1 v H1 p1 o1 s1 i1 => by
    cases i1 with
    | int j => exact ⟨j, rfl, p1.2.1, p1.1, k _ μ1 H1 _ p1.2.2 o1 s1 .rng⟩
    | _ => exact (show False from p1).elim⟩
theorem di_range2 (hg : Gl X "range") (hm : X.mg "range" = none) (ha : PE X a (tD X.K wa)) (hb : PE X b (tD X.K wb)) (hs : starEach [a, b] X.env = [(false, eval a X.env), (false, eval b X.env)] := by rfl) (hs2 : starEach [b] X.env = [(false, eval b X.env)] := by rfl) :
    PI X tg (.Call (.Name "range" p) [a, b] [] pos) (tDI X.K (sRng2 wa wb)) :=
  PI.imp (pi_range2 hg hm (pa_cons ha (pa_cons hb pa_nil hs2) (by rw [hs, hs2])) hs hs2) fun σ H RR ⟨R, ρ, μ, P, a, w, k⟩ => ⟨R, ρ, μ, _, a, w, fun c μ1 u H1 p1 o1 s1 i1 => ⟨R, ρ, μ1, _, a.step o1 s1, p1, fun d μ2 v H2 p2 o2 s2 i2 => by
    cases i1 with
    | int i =>
      cases i2 with
      | int j => exact ⟨i, j, rfl, p2.1, k _ μ2 H2 _ p2.2 o2 (s1.trans s2) .rng⟩
      | _ => exact (show False from p2).elim
    | _ => exact (show False from p2).elim⟩⟩
end

/-! ### statements -/
def wSeq (t u : WS) : WS := fun E ρ μ => t { E with nx := u E } ρ μ
def wNext : WS := fun E ρ μ => E.nx ρ μ
def wBrk : WS := fun E ρ μ => E.bk ρ μ
def wCnt : WS := fun E ρ μ => E.ct ρ μ
def wAsg (w : WE) (g : WG) : WS := fun E ρ μ => w ρ μ fun d μ1 => g d ρ fun ρ1 => E.nx ρ1 μ1
def wDrop (w : WE) : WS := fun E ρ μ => w ρ μ fun _ μ1 => E.nx ρ μ1
def wRet (w : WE) : WS := fun E ρ μ => w ρ μ fun d μ1 => E.rt d μ1
def wRetN : WS := fun E _ μ => E.rt .none μ
def wIfS (c : WT) (t u : WS) : WS := fun E ρ μ => c ρ μ fun b μ1 => match b with | true => t E ρ μ1 | false => u E ρ μ1
def wPar (i j : Nat) (wa : WA) : WS := fun E ρ μ => wa ρ μ fun ds μ1 => match ds with | [x, y] => E.nx ((ρ.set i (some x)).set j (some y)) μ1 | _ => False
section
variable {X : Cx} {st : Stmt} {rest sa sb : List Stmt} {t u : WS} {e tg : Expr} {w : WE} {g : WG} {sl : List Nat} {pos : Pos}
theorem dss_nil : PSs X [] (tDS X.K wNext) := PSs.imp pss_nil fun D σ H ⟨R, ρ, μ, E, a, w, k⟩ => k.nx ρ μ σ H w a (Same.refl _)
theorem dss_cons (h1 : PS X st (tDS X.K t)) (h2 : PSs X rest (tDS X.K u)) : PSs X (st :: rest) (tDS X.K (wSeq t u)) := PSs.imp (pss_cons h1 h2) fun D σ H ⟨R, ρ, μ, E, a, w, k⟩ =>
  ⟨R, ρ, μ, _, a, w, ⟨fun ρ1 μ1 σ1 H1 p1 a1 s1 => ⟨R, ρ1, μ1, E, a1, p1, k.step s1⟩, k.rt, k.bk, k.ct⟩⟩
theorem dss_one (h : PS X st (tDS X.K t)) : PSs X [st] (tDS X.K t) := pss_one h
theorem ds_pass : PS X (.Pass pos) (tDS X.K wNext) := PS.imp ps_pass fun D σ H ⟨R, ρ, μ, E, a, w, k⟩ => k.nx ρ μ σ H w a (Same.refl _)
theorem ds_break : PS X (.Break pos) (tDS X.K wBrk) := PS.imp ps_break fun D σ H ⟨R, ρ, μ, E, a, w, k⟩ => k.bk ρ μ σ H w a (Same.refl _)
theorem ds_continue : PS X (.Continue pos) (tDS X.K wCnt) := PS.imp ps_continue fun D σ H ⟨R, ρ, μ, E, a, w, k⟩ => k.ct ρ μ σ H w a (Same.refl _)
theorem asg_imp {K : PySem.W.Frag} : ∀ D σ H, tDS K (wAsg w g) D σ H → tAsg (tD K w) (tDG K sl g) D σ H := fun D σ H ⟨R, ρ, μ, E, a, w, k⟩ =>
  ⟨R, ρ, μ, _, a, w, fun d μ1 v H1 p1 o1 s1 i1 => ⟨R, ρ, μ1, d, _, a.step o1 s1, i1, p1, fun ρ' σ' p2 sl2 _ => k.nx ρ' μ1 σ' H1 p2 ⟨o1, sl2⟩ s1⟩⟩
theorem ds_asg (he : PE X e (tD X.K w)) (hg : PG X tg (tDG X.K sl g)) (hs : swapsWithSole [tg] e pos.line X.env = pure false := by rfl) (hw : swappedStores [tg] e X.env = pure none := by rfl) (h1 : (assignEach [tg] X.env).map (·.2) = [assign tg X.env] := by rfl) : PS X (.Assign [tg] e pos) (tDS X.K (wAsg w g)) :=
  PS.imp (ps_asg he hg hs hw h1) asg_imp
theorem ds_set {i : Nat} {x : Str} {pos' : Pos} (hN : X.N.Nodup) (hi : X.N[i]? = some x) (hx : Loc X.env.scope x) (he : PE X e (tD X.K w)) (hs : swapsWith e (some (.Name x pos')) pos.line X.env = pure false := by rfl)
    (hf : X.fn x = true ∨ X.env.scope.names.lookup x = some .local := by first | exact .inl rfl | exact .inr rfl | assumption) : PS X (.Assign [.Name x pos'] e pos) (tDS X.K (wAsg w (wgName i))) :=
  PS.imp (ps_set hN hi hx he hs hf) fun D σ H ⟨R, ρ, μ, E, a, w, k⟩ => ⟨R, ρ, μ, _, a, w, fun d μ1 v H1 p1 o1 s1 i1 => k.nx _ μ1 _ H1 p1 ⟨o1, (a.sl.mono s1).set i i1⟩ s1⟩
theorem ds_par {i j : Nat} {x y : Str} {a b : Expr} {wa : WA} {px py pt : Pos} {kt k2 pt2} (hN : X.N.Nodup) (hi : X.N[i]? = some x) (hj : X.N[j]? = some y) (hij : i ≠ j) (hx : X.env.scope.names.lookup x = some .local) (hy : X.env.scope.names.lookup y = some .local) (ha : PA X [a, b] (tDA X.K wa))
    (hw : swappedStores [.Tuple [.Name x px, .Name y py] kt pt] (.Tuple [a, b] k2 pt2) X.env = pure (some [x, y])) (hc : X.calm = true := by rfl) (hs : swapsWithSole [.Tuple [.Name x px, .Name y py] kt pt] (.Tuple [a, b] k2 pt2) pos.line X.env = pure false := by rfl) :
    PS X (.Assign [.Tuple [.Name x px, .Name y py] kt pt] (.Tuple [a, b] k2 pt2) pos) (tDS X.K (wPar i j wa)) :=
  PS.imp (ps_par hc hN hi hj hij hx hy ha hw hs) fun D σ H ⟨R, ρ, μ, E, a, w, k⟩ => ⟨R, ρ, μ, _, a, w, fun ds μ1 vs H1 p1 o1 s1 i1 => by
    cases i1 with
    | nil => exact (show False from p1).elim
    | cons i1 r => cases r with
      | nil => exact (show False from p1).elim
      | cons i2 r => cases r with
        | nil => exact ⟨_, _, rfl, k.nx _ μ1 _ H1 p1 ⟨o1, ((a.sl.mono s1).set i i1).set j i2⟩ s1⟩
        | cons _ _ => exact (show False from p1).elim⟩
theorem ds_expr (he : PE X e (tD X.K w)) (hs : swapsWith e none pos.line X.env = pure false := by rfl) : PS X (.Expr e pos) (tDS X.K (wDrop w)) :=
  PS.imp (ps_expr he hs) fun D σ H ⟨R, ρ, μ, E, a, w, k⟩ => ⟨R, ρ, μ, _, a, w, fun d μ1 v H1 p1 o1 s1 i1 => k.nx ρ μ1 σ H1 p1 (a.step o1 s1) s1⟩
theorem ds_ret (he : PE X e (tD X.K w)) : PS X (.Return (some e) pos) (tDS X.K (wRet w)) :=
  PS.imp (ps_ret he) fun D σ H ⟨R, ρ, μ, E, a, w, k⟩ => ⟨R, ρ, μ, _, a, w, k.rt⟩
theorem ds_retN : PS X (.Return none pos) (tDS X.K wRetN) := PS.imp ps_retN fun D σ H ⟨R, ρ, μ, E, a, w, k⟩ => k.rt _ μ _ H w a.ok (Same.refl _) .none
theorem ds_if {c : Expr} {tc : WT} (hc : PT X c (tDT X.K tc)) (ha : PSs X sa (tDS X.K t)) (hb : PSs X sb (tDS X.K u)) : PS X (.If c sa sb pos) (tDS X.K (wIfS tc t u)) :=
  PS.imp (ps_if hc ha hb) fun D σ H ⟨R, ρ, μ, E, a, w, k⟩ => ⟨R, ρ, μ, _, a, w, fun b μ1 H1 p1 o1 s1 => by
    cases b with
    | true => exact iteT ⟨R, ρ, μ1, E, a.step o1 s1, p1, k.step s1⟩
    | false => exact iteF ⟨R, ρ, μ1, E, a.step o1 s1, p1, k.step s1⟩⟩

/-! ### loops -/
def forW (g : WG) (b : WS) (E : DEnds) : List DV → Rho → Mh → Prop
  | [], ρ, μ => E.nx ρ μ
  | x :: xs, ρ, μ => g x ρ fun ρ1 => b { nx := forW g b E xs, rt := E.rt, bk := E.nx, ct := forW g b E xs } ρ1 μ
def wFor (ws : WI) (g : WG) (b : WS) : WS := fun E ρ μ => ws ρ μ fun xs μ1 => forW g b E xs ρ μ1
theorem drop_at {α : Type} {xs : List α} {i : Nat} {d : α} (h : xs[i]? = some d) : xs.drop i = d :: xs.drop (i + 1) := by
  obtain ⟨hi, e⟩ := List.getElem?_eq_some_iff.mp h
  rw [List.drop_eq_getElem_cons hi, e]
theorem ds_for {iter : Expr} {body : List Stmt} {ws : WI} {b : WS} (hi : PI X tg iter (tDI X.K ws)) (hg : PG X tg (tDG X.K sl g)) (hb : PSs X body (tDS X.K b)) (hp : PassesOwn (model X.prog X.w) X.A X.env X.xe := by exact PassesOwn.never) (hc : X.calm = true := by rfl)
    (hs : ∀ x, foldedSetIterable iter X.env x = pure x := by intro _; rfl) : PS X (.For tg iter body [] pos) (tDS X.K (wFor ws g b)) :=
  PS.imp (ps_for hp hc hi hg hb hs) fun D σ H ⟨R, ρ, μ, E, a, w, k⟩ => ⟨R, ρ, μ, _, a, w, fun xs μ1 H1 J p1 o1 s1 it => by
    refine ⟨fun i m σ' H' => m = xs.length - i ∧ i ≤ xs.length ∧ ∃ ρ' μ', At X.K R σ' ρ' μ' H' ∧ Same (hid R μ1 H1) (hid R μ' H') ∧ forW g b E (xs.drop i) ρ' μ', ⟨_, rfl, Nat.zero_le _, ρ, μ1, a.step o1 s1, Same.refl _, p1⟩, ?_⟩
    rintro i m σ2 H2 ⟨rfl, hi, ρ2, μ2, a2, s2, w2⟩
    by_cases hlt : i < xs.length
    · refine .inr ⟨it.go R μ2 H2 i a2.ok s2 hlt, fun σ' H' => ∃ ρ' μ', At X.K R σ' ρ' μ' H' ∧ Same (hid R μ1 H1) (hid R μ' H') ∧ forW g b E (xs.drop (i + 1)) ρ' μ', fun σ' H' ⟨ρ', μ', a', s', w'⟩ => ⟨_, ?_, rfl, hlt, ρ', μ', a', s', w'⟩, fun x H3 y => ?_⟩
      · omega
      · obtain ⟨d, hd, o3, s3, r3⟩ := it.yld R μ2 H2 i x H3 a2.ok s2 y hlt
        rw [drop_at hd] at w2
        refine ⟨R, ρ2, μ2, d, _, a2.step o3 s3, r3, w2, fun ρ4 σ4 w4 sl4 _ => ⟨R, ρ4, μ2, _, ⟨o3, sl4⟩, w4, ⟨fun ρ5 μ5 σ5 H5 p5 a5 s5 => ⟨ρ5, μ5, a5, (s2.trans s3).trans s5, p5⟩, ?_, ?_, fun ρ5 μ5 σ5 H5 p5 a5 s5 => ⟨ρ5, μ5, a5, (s2.trans s3).trans s5, p5⟩⟩⟩⟩
        · exact k.rt.step ((s1.trans s2).trans s3)
        · exact k.nx.step ((s1.trans s2).trans s3)
    · have e : i = xs.length := by omega
      subst e
      rw [List.drop_length] at w2
      exact .inl ⟨it.stop R μ2 H2 _ a2.ok s2 (Nat.le_refl _), k.nx ρ2 μ2 σ2 H2 w2 a2 (s1.trans s2)⟩⟩
def wWhile (c : WT) (b : WS) : WS := fun E ρ μ => ∃ W : Nat → Rho → Mh → Prop, (∃ m, W m ρ μ) ∧ ∀ m ρ μ, W m ρ μ → c ρ μ fun z μ1 => match z with
  | true => b { nx := fun ρ' μ' => ∃ m', m' < m ∧ W m' ρ' μ', rt := E.rt, bk := E.nx, ct := fun ρ' μ' => ∃ m', m' < m ∧ W m' ρ' μ' } ρ μ1
  | false => E.nx ρ μ1
theorem ds_while {c : Expr} {body : List Stmt} {tc : WT} {b : WS} (hc : PT X c (tDT X.K tc)) (hb : PSs X body (tDS X.K b)) (hp : PassesOwn (model X.prog X.w) X.A X.env X.xe := by exact PassesOwn.never) : PS X (.While c body [] pos) (tDS X.K (wWhile tc b)) :=
  PS.imp (ps_while hp hc hb) fun D σ H ⟨R, ρ, μ, E, a, ⟨W, ⟨m0, w0⟩, w⟩, k⟩ => by
    refine ⟨fun m σ' H' => ∃ ρ' μ', At X.K R σ' ρ' μ' H' ∧ Same (hid R μ H) (hid R μ' H') ∧ W m ρ' μ', ⟨m0, ρ, μ, a, Same.refl _, w0⟩, ?_⟩
    rintro m σ1 H1 ⟨ρ1, μ1, a1, s1, w1⟩
    refine ⟨R, ρ1, μ1, _, a1, w m ρ1 μ1 w1, fun z μ2 H2 p2 o2 s2 => ?_⟩
    cases z with
    | true =>
      refine ⟨fun σ' H' => ∃ m', m' < m ∧ ∃ ρ' μ', At X.K R σ' ρ' μ' H' ∧ Same (hid R μ H) (hid R μ' H') ∧ W m' ρ' μ', fun σ' H' h => h, R, ρ1, μ2, _, a1.step o2 s2, p2, ⟨?_, k.rt.step (s1.trans s2), k.nx.step (s1.trans s2), ?_⟩⟩
      · rintro ρ3 μ3 σ3 H3 ⟨m', hm, w3⟩ a3 s3
        exact ⟨m', hm, ρ3, μ3, a3, (s1.trans s2).trans s3, w3⟩
      · rintro ρ3 μ3 σ3 H3 ⟨m', hm, w3⟩ a3 s3
        exact ⟨m', hm, ρ3, μ3, a3, (s1.trans s2).trans s3, w3⟩
    | false => exact k.nx ρ1 μ2 σ1 H2 p2 (a1.step o2 s2) (s1.trans s2)
end

/-! ### comprehensions -/
def compW (g : WG) (t : WT) (e : WE) (ρ : Rho) : List DV → List DV → Mh → (List DV → Mh → Prop) → Prop
  | [], acc, μ, P => P acc μ
  | x :: xs, acc, μ, P => g x ρ fun ρ1 => t ρ1 μ fun b μ1 => match b with
    | true => e ρ1 μ1 fun y μ2 => acc.length < sizeLine ∧ compW g t e ρ xs (acc ++ [y]) μ2 P
    | false => compW g t e ρ xs acc μ1 P
def wLc (ws : WI) (g : WG) (t : WT) (e : WE) (vs : List Nat) : WE := fun ρ μ P => ws ρ μ fun xs μ1 => compW g t e (wipeD ρ vs) xs [] μ1 fun acc μ2 => P (.lst acc) μ2
section
variable {K : PySem.W.Frag} {R : Hp} {μ μ' : Mh} {H H' : Hp} {D : Addr} {o o' : HO}
/-- a thing set aside -/
theorem Ok.frame (k : Ok K R μ H) (n : H D = none) : Ok K (upd R D o) μ (upd H D o) ∧ hid (upd R D o) μ (upd H D o) = hid R μ H := by
  have k2 := k.new (o := o) n
  have e : hid (upd R D o) μ (upd H D o) = hid R μ H := by
    funext b
    by_cases z : b = D
    · subst z
      have h1 : hid (upd R b o) μ (upd H b o) b = none := by
        unfold hid
        rw [if_neg fun q => by rw [upd_same] at q; exact Bool.false_ne_true q.1]
      have h2 : hid R μ H b = none := by
        unfold hid
        rw [n]
        split <;> rfl
      rw [h1, h2]
    · unfold hid
      rw [upd_ne z, upd_ne z]
  refine ⟨⟨fun a u h => ?_, fun a u h => ?_, fun a u h => ?_⟩, e⟩
  · by_cases z : a = D
    · subst z
      rw [upd_same] at h ⊢
      exact h
    · rw [upd_ne z] at h ⊢
      exact k.fr a u h
  · by_cases z : a = D
    · subst z
      exact k.freeM n
    · rw [upd_ne z] at h
      exact k.dj a u h
  · have := k2.ob a u h
    rw [e]
    refine MOk.mono ?_ rfl (fun _ _ => rfl) h (fun _ q => q) ?_ (Hm := hid R μ H) (μ := μ) (H := upd H D o)
    · exact Same.refl _
    · have ne : ∀ {b u}, H b = some u → b ≠ D := fun q z => by subst z; rw [n] at q; cases q
      obtain ⟨w, hw⟩ := (k.ob a u h).here
      refine (k.ob a u h).mono (Same.refl _) (upd_ne (ne hw)) (fun b hb => ?_) h (fun _ z => z)
      rw [h] at hb
      cases u with
      | ext near φ =>
        obtain ⟨_, _, hn, _⟩ := k.ob a _ h
        obtain ⟨v, hv⟩ := (k.ob b _ (hn b hb)).here
        exact upd_ne (ne hv)
      | _ => cases hb
/-- what was set aside changes -/
theorem Ok.reframe (k : Ok K (upd R D o) μ H) : Ok K (upd R D o') μ (upd H D o') ∧ hid (upd R D o') μ (upd H D o') = hid (upd R D o) μ H := by
  have hm : μ D = none := k.dj D o upd_same
  have hH : H D = some o := k.fr D o upd_same
  have e : hid (upd R D o') μ (upd H D o') = hid (upd R D o) μ H := by
    funext b
    by_cases z : b = D
    · subst z
      have h1 : ∀ (u : HO) (G : Hp), hid (upd R b u) μ G b = none := fun u G => by
        unfold hid
        rw [if_neg fun q => by rw [upd_same] at q; exact Bool.false_ne_true q.1]
      rw [h1, h1]
    · unfold hid
      rw [upd_ne z, upd_ne z, upd_ne z]
  refine ⟨⟨fun a u h => ?_, fun a u h => ?_, fun a u h => ?_⟩, e⟩
  · by_cases z : a = D
    · subst z
      rw [upd_same] at h ⊢
      exact h
    · rw [upd_ne z] at h ⊢
      exact k.fr a u (by rw [upd_ne z]; exact h)
  · by_cases z : a = D
    · subst z
      exact hm
    · rw [upd_ne z] at h
      exact k.dj a u (by rw [upd_ne z]; exact h)
  · rw [e]
    have ne : ∀ {b m}, μ b = some m → b ≠ D := fun q z => by subst z; rw [hm] at q; cases q
    refine (k.ob a u h).mono (Same.refl _) (upd_ne (ne h)) (fun b hb => ?_) h (fun _ z => z)
    rw [h] at hb
    cases u with
    | ext near φ =>
      obtain ⟨_, _, hn, _⟩ := k.ob a _ h
      exact upd_ne (ne (hn b hb))
    | _ => cases hb
/-- what was set aside is let go -/
theorem Ok.unframe (k : Ok K (upd R D o) μ H) (n : R D = none) : Ok K R μ H ∧ Same (hid (upd R D o) μ H) (hid R μ H) ∧ hid R μ H D = some o := by
  have hm : μ D = none := k.dj D o upd_same
  have hH : H D = some o := k.fr D o upd_same
  have s : Same (hid (upd R D o) μ H) (hid R μ H) := fun b u h => by
    obtain ⟨e1, e2, e3⟩ := hid_some h
    by_cases z : b = D
    · subst z
      rw [upd_same] at e1
      cases e1
    · rw [upd_ne z] at e1
      rw [hid_at e1 e2]
      exact e3
  refine ⟨⟨fun a u h => ?_, fun a u h => ?_, fun a u h => (k.ob a u h).mono s rfl (fun _ _ => rfl) h (fun _ z => z)⟩, s, by rw [hid_at n hm]; exact hH⟩
  · refine k.fr a u ?_
    rw [upd_ne (fun z => by subst z; rw [n] at h; cases h)]
    exact h
  · refine k.dj a u ?_
    rw [upd_ne (fun z => by subst z; rw [n] at h; cases h)]
    exact h
end
section
variable {X : Cx} {elt tg iter : Expr} {ifs : List Expr} {scope : Scope} {own : List (Str × Nat)} {pos : Pos} {ws : WI} {g : WG} {t : WT} {e : WE} {sl : List Nat}
theorem lc_imp {K : PySem.W.Frag} {vs : List Nat} (hv : ∀ i ∈ sl, i ∈ vs) : ∀ σ H Q, tD K (wLc ws g t e vs) σ H Q → tLc (tDI K ws) (tDG K sl g) (tDT K t) (tD K e) vs σ H Q := fun σ H Q ⟨R, ρ, μ, P, a, w, k⟩ =>
  ⟨R, ρ, μ, _, a, w, fun xs μ1 H1 J p1 o1 s1 it => fun D n => by
    have rn := o1.freeR n
    refine ⟨fun i m H' => m = xs.length - i ∧ i ≤ xs.length ∧ ∃ μ' acc accV, Ok K (upd R D (.lst accV)) μ' H' ∧ Same (hid R μ1 H1) (hid (upd R D (.lst accV)) μ' H') ∧ Iss K (hid (upd R D (.lst accV)) μ' H') accV acc ∧
      compW g t e (wipeD ρ vs) (xs.drop i) acc μ' fun acc μ2 => P (.lst acc) μ2, ?_, ?_⟩
    · obtain ⟨o2, e2⟩ := o1.frame (o := .lst []) n
      exact ⟨_, rfl, Nat.zero_le _, μ1, [], [], o2, by rw [e2]; exact Same.refl _, .nil, p1⟩
    rintro i m H2 ⟨rfl, hi, μ2, acc, accV, o2, s2, r2, w2⟩
    by_cases hlt : i < xs.length
    · refine .inr ⟨it.go _ μ2 H2 i o2 s2 hlt, fun H' => ∃ μ' acc accV, Ok K (upd R D (.lst accV)) μ' H' ∧ Same (hid R μ1 H1) (hid (upd R D (.lst accV)) μ' H') ∧ Iss K (hid (upd R D (.lst accV)) μ' H') accV acc ∧
        compW g t e (wipeD ρ vs) (xs.drop (i + 1)) acc μ' fun acc μ2 => P (.lst acc) μ2, fun H' ⟨μ', acc', accV', o', s', r', w'⟩ => ⟨_, ?_, rfl, hlt, μ', acc', accV', o', s', r', w'⟩, fun x H3 y => ?_⟩
      · omega
      · obtain ⟨d, hd, o3, s3, r3⟩ := it.yld _ μ2 H2 i x H3 o2 s2 y hlt
        rw [drop_at hd] at w2
        have sl3 : Sl K (hid (upd R D (.lst accV)) μ2 H3) (wipe σ vs) (wipeD ρ vs) := (a.sl.mono ((s1.trans s2).trans s3)).wipe vs
        refine ⟨_, wipeD ρ vs, μ2, d, _, ⟨o3, sl3⟩, r3, w2, fun ρ4 σ4 w4 sl4 ww => ⟨by rw [ww vs hv, wipe_wipe], _, ρ4, μ2, _, ⟨o3, sl4⟩, w4, fun b μ5 H5 p5 o5 s5 => ?_⟩⟩
        cases b with
        | false => exact iteF ⟨μ5, acc, accV, o5, (s2.trans s3).trans s5, r2.mono (s3.trans s5), p5⟩
        | true =>
          refine iteT ⟨_, ρ4, μ5, _, ⟨o5, sl4.mono s5⟩, p5, fun y μ6 v H6 p6 o6 s6 r6 => ⟨accV, o6.fr D _ upd_same, ?_, ?_⟩⟩
          · rw [r2.length]
            exact p6.1
          · obtain ⟨o7, e7⟩ := o6.reframe (o' := .lst (accV ++ [v]))
            refine ⟨μ6, acc ++ [y], accV ++ [v], o7, ?_, ?_, p6.2⟩
            · rw [e7]
              exact ((s2.trans s3).trans s5).trans s6
            · rw [e7]
              exact (r2.mono ((s3.trans s5).trans s6)).append (.cons r6 .nil)
    · have e' : i = xs.length := by omega
      subst e'
      rw [List.drop_length] at w2
      obtain ⟨o4, s4, h4⟩ := o2.unframe rn
      exact .inl ⟨it.stop _ μ2 H2 _ o2 s2 (Nat.le_refl _), k _ μ2 _ H2 w2 o4 (s1.trans (s2.trans s4)) (.lst h4 (r2.mono s4))⟩⟩
def wYes : WT := fun _ μ P => P true μ
theorem PTs.imp {X : Cx} {es : List Expr} {t t' : TT} (h : PTs X es t) (i : ∀ σ H Q, t' σ H Q → t σ H Q) : PTs X es t' := ⟨fun pins s σ H Q I w => h.run pins s σ H Q I (i _ _ _ w)⟩
theorem dts_nil : PTs X [] (tDT X.K wYes) := PTs.imp pts_nil fun σ H Q ⟨R, ρ, μ, P, a, w, k⟩ => k true μ H w a.ok (Same.refl _)
theorem dts_one {c : Expr} {t : WT} (h : PT X c (tDT X.K t)) : PTs X [c] (tDT X.K t) := pts_one h
theorem d_lc (hi : PI X tg iter (tDI X.K ws)) (ok : BlkOk X.N X.env.scope scope own)
    (hg : ∀ (s : Shared) (H : Hp) (C : Addr) (cl : List (Str × Addr)) (fp : List Addr), PG (X.blk s H scope (compEnvC scope cl C X.env) fp) tg (tDG X.K sl g)) (ht : ∀ (s : Shared) (H : Hp) (C : Addr) (cl : List (Str × Addr)) (fp : List Addr), PTs (X.blk s H scope (compEnvC scope cl C X.env) fp) ifs (tDT X.K t))
    (he : ∀ (s : Shared) (H : Hp) (C : Addr) (cl : List (Str × Addr)) (fp : List Addr), PE (X.blk s H scope (compEnvC scope cl C X.env) fp) elt (tD X.K e)) (hN : X.N.Nodup) (hv : ∀ i ∈ sl, i ∈ own.map (·.2) := by decide) (hc : X.calm = true := by rfl) (hs : ∀ x, foldedSetIterable iter X.env x = pure x := by intro _; rfl) :
    PE X (.ListComp elt [⟨tg, iter, ifs, 0⟩] scope pos) (tD X.K (wLc ws g t e (own.map (·.2)))) := PE.imp (pe_lc hc hN hi ok hg ht he hs) (lc_imp hv)
theorem ds_setLc {i : Nat} {y : Str} {py spos : Pos} (hy : X.N[i]? = some y) (hyl : X.env.scope.names.lookup y = some .local) (hsw : swapsWith (.ListComp elt [⟨tg, iter, ifs, 0⟩] scope pos) (some (.Name y py)) spos.line X.env = pure true) (hi : PI X tg iter (tDI X.K ws)) (ok : BlkOk X.N X.env.scope scope own)
    (hg : ∀ (s : Shared) (H : Hp) (C : Addr) (cl : List (Str × Addr)) (fp : List Addr), PG (X.blk s H scope (compEnvC scope cl C X.env) fp) tg (tDG X.K sl g)) (ht : ∀ (s : Shared) (H : Hp) (C : Addr) (cl : List (Str × Addr)) (fp : List Addr), PTs (X.blk s H scope (compEnvC scope cl C X.env) fp) ifs (tDT X.K t))
    (he : ∀ (s : Shared) (H : Hp) (C : Addr) (cl : List (Str × Addr)) (fp : List Addr), PE (X.blk s H scope (compEnvC scope cl C X.env) fp) elt (tD X.K e)) (hN : X.N.Nodup) (hv : ∀ i ∈ sl, i ∈ own.map (·.2) := by decide) (hc : X.calm = true := by rfl) (hs : ∀ x, foldedSetIterable iter X.env x = pure x := by intro _; rfl) :
    PS X (.Assign [.Name y py] (.ListComp elt [⟨tg, iter, ifs, 0⟩] scope pos) spos) (tDS X.K (wAsg (wLc ws g t e (own.map (·.2))) (wgName i))) :=
  PS.imp (ps_setLc hc hN hy hyl hsw hi ok hg ht he hs) fun D σ H ⟨R, ρ, μ, E, a, w, k⟩ => lc_imp hv σ H _ ⟨R, ρ, μ, _, a, w, fun d μ1 v H1 p1 o1 s1 i1 => k.nx _ μ1 _ H1 p1 ⟨o1, (a.sl.mono s1).set i i1⟩ s1⟩
end

/-! ### defs and their calls -/
section
variable {P : Program} {w0 : World} {K : PySem.W.Frag} {mg : Str → Option Value} {base : Heap}
theorem fn_dat {x qual : Str} {st : Stmt} {f : Addr} {fd : FuncData} {N ps : List Str} {k n : Nat} {w : WS} {wf : WF} (F : Fun K x qual st f fd) (S : FnScope N ps (defScope st)) (hn : ps.length = n)
    (hb : ∀ (cdv : Value) (A : Around) (outer : List Env) (s : Shared) (H : Hp) (E : XK), A.guards = some [] → Room k (A.deeper (envOfC qual (defScope st) s.heap.objs.size f cdv)) →
      PSs (cxOf CX0 P w0 K mg base N qual (defScope st) f cdv A outer s H E).nox (defBody st) (tDS K w))
    (hw : ∀ ds μ Q, ds.length = n → wf ds μ Q → w { nx := fun _ μ' => Q .none μ', rt := Q } (ds.map some ++ List.replicate (N.length - n) none) μ) : FnG P w0 K mg base (k + 1) f fd ps (spD K n wf) := by
  refine fng_of F S (fun vs H Q E h => ?_) (fun cdv A outer s H vs Q E hgd hr h => ?_)
  · obtain ⟨R, ds, μ, P', o, r, l, _⟩ := h
    rw [r.length, l, hn]
  · obtain ⟨R, ds, μ, P', o, r, l, w1, k1⟩ := h
    refine ⟨_, hb cdv A outer s H E hgd hr, R, _, μ, _, ⟨o, ?_⟩, hw ds μ P' l w1, ⟨fun ρ' μ' σ' H' p a' s' => ?_, k1, fun _ _ _ _ p => p.elim, fun _ _ _ _ p => p.elim⟩⟩
    · rw [← l]
      exact Sl.start r
    · exact k1 .none μ' .non H' p a'.ok s' .none
end
section
variable {X : Cx} {k n : Nat} {f : Addr} {fd : FuncData} {ps : List Str} {wf : WF} {x : Str} {p pos : Pos} {e : Expr} {es : List Expr} {wa wk : WA}
def wCall (n : Nat) (wf : WF) (wa : WA) : WE := fun ρ μ P => wa ρ μ fun ds μ1 => ds.length = n ∧ wf ds μ1 P
def wCallD (n : Nat) (wf : WF) (dds : List DV) (wa : WA) : WE := fun ρ μ P => wa ρ μ fun ds μ1 => (ds ++ dds).length = n ∧ wf (ds ++ dds) μ1 P
theorem call_imp {K : PySem.W.Frag} {dvs : List V} {dds : List DV} (hd : ∀ H, Iss K H dvs dds) : ∀ σ H Q, tD K (wCallD n wf dds wa) σ H Q → tCall (spD K n wf) dvs E0 (tDA K wa) σ H Q := fun σ H Q ⟨R, ρ, μ, P, a, w, k⟩ =>
  ⟨R, ρ, μ, _, a, w, fun ds μ1 vs H1 p1 o1 s1 i1 => ⟨R, ds ++ dds, μ1, P, o1, i1.append (hd _), p1.1, p1.2, k.step s1⟩⟩
/-- with the defaults of the last parameters -/
theorem d_callD {dvs : List V} {us : List Value} {dds : List DV} (hd : ∀ H, Iss X.K H dvs dds) (F : FnG X.prog X.w X.K X.mg X.base k f fd ps (spD X.K n wf)) (hgd : X.A.guards = some []) (hr : Room k X.A) (hg : Gl X x) (hm : X.mg x = some (.ref f)) (hk : PySem.W.keepIn X.K (.ref f) = true) (hb : Binds X.K fd ps us) (hv : Vals dvs us) (ha : PA X (e :: es) (tDA X.K wa))
    (hdb : (x == ("__debug__" : Str)) = false := by decide) (he : starEach (e :: es) X.env = (false, eval e X.env) :: starEach es X.env := by rfl) (hpl : (backTo pos (starEach es X.env)).any (·.1) = false := by rfl) :
    PE X (.Call (.Name x p) (e :: es) [] pos) (tD X.K (wCallD n wf dds wa)) :=
  PE.imp (peg_call F hgd hr hg hm hk hb hv ha hdb he hpl) (call_imp hd)
theorem d_call (F : FnG X.prog X.w X.K X.mg X.base k f fd ps (spD X.K n wf)) (hgd : X.A.guards = some []) (hr : Room k X.A) (hg : Gl X x) (hm : X.mg x = some (.ref f)) (hk : PySem.W.keepIn X.K (.ref f) = true) (hb : Binds X.K fd ps []) (ha : PA X (e :: es) (tDA X.K wa)) (hd : (x == ("__debug__" : Str)) = false := by decide)
    (he : starEach (e :: es) X.env = (false, eval e X.env) :: starEach es X.env := by rfl) (hpl : (backTo pos (starEach es X.env)).any (·.1) = false := by rfl) : PE X (.Call (.Name x p) (e :: es) [] pos) (tD X.K (wCall n wf wa)) :=
  PE.imp (d_callD (dvs := []) (dds := []) (fun _ => .nil) F hgd hr hg hm hk hb .nil ha hd he hpl) fun σ H Q ⟨R, ρ, μ, P, a, w, k⟩ => ⟨R, ρ, μ, P, a, by simpa [wCall, wCallD] using w, k⟩
theorem d_call0 (F : FnG X.prog X.w X.K X.mg X.base k f fd ps (spD X.K n wf)) (hgd : X.A.guards = some []) (hr : Room k X.A) (hg : Gl X x) (hm : X.mg x = some (.ref f)) (hk : PySem.W.keepIn X.K (.ref f) = true) (hb : Binds X.K fd ps []) (hd : (x == ("__debug__" : Str)) = false := by decide) : PE X (.Call (.Name x p) [] [] pos) (tD X.K (wCall n wf wNil)) :=
  PE.imp (peg_call0 (E := E0) F hgd hr hg hm hk hb .nil hd) fun σ H Q ⟨R, ρ, μ, P, a, w, k⟩ => ⟨R, [], μ, P, a.ok, .nil, w.1, w.2, k⟩
/-- keywords alone: gD puts them in the parameters' order -/
def wCallK (n : Nat) (wf : WF) (gD : List DV → List DV) (wk : WA) : WE := fun ρ μ P => wk ρ μ fun ds μ1 => (gD ds).length = n ∧ wf (gD ds) μ1 P
theorem d_callK0 {ks : List Str} {kws : List Keyword} {g : List Value → List Value → List Value} {gV : List V → List V → List V} (gD : List DV → List DV) (hg' : ∀ (K : PySem.W.Frag) (H : Hp) (vs : List V) (ds : List DV), Iss K H vs ds → Iss K H (gV [] vs) (gD ds))
    (F : FnG X.prog X.w X.K X.mg X.base k f fd ps (spD X.K n wf)) (hgd : X.A.guards = some []) (hr : Room k X.A) (hg : Gl X x) (hm : X.mg x = some (.ref f)) (hk : PySem.W.keepIn X.K (.ref f) = true) (hb : KBinds X.K fd ps ks g gV) (hkw : PK X kws (tDA X.K wk))
    (hall : (backToKw pos (keywordEach kws X.env)).all (·.1.isSome) = true := by rfl) (hks : (backToKw pos (keywordEach kws X.env)).filterMap (·.1) = ks := by rfl) (hdb : (x == ("__debug__" : Str)) = false := by decide)
    (hpl : ((backTo pos (starEach [] X.env)).any (·.1) || (backToKw pos (keywordEach kws X.env)).any (·.1.isNone)) = false := by rfl) : PE X (.Call (.Name x p) [] kws pos) (tD X.K (wCallK n wf gD wk)) :=
  PE.imp (peg_callK0 (E := E0) F hgd hr hg hm hk hb hkw hall hks hdb hpl) fun σ H Q ⟨R, ρ, μ, P, a, w, k⟩ => ⟨R, ρ, μ, _, a, w, fun ds μ1 vs H1 p1 o1 s1 i1 => ⟨R, gD ds, μ1, P, o1, hg' _ _ _ _ i1, p1.1, p1.2, k.step s1⟩⟩
end
end Dz

set_option Elab.async false
set_option linter.all false
set_option maxRecDepth 100000
set_option maxHeartbeats 4000000
/-! Dz5: calls of built-ins over data: len, isinstance, repr, abs, all, tuple, list, int, str, join; displays of dicts. -/
namespace Dz
open PySem L2
abbrev WB := List DV → Mh → (DV → Mh → Prop) → Prop
def RAD (K : PySem.W.Frag) (r : List V → Hp → VK → Prop) (w : WB) : Prop := ∀ R μ H vs ds P Q, Ok K R μ H → Iss K (hid R μ H) vs ds → w ds μ P → Nxt K R μ H P Q → r vs H Q
def wB (wb : WB) (wa : WA) : WE := fun ρ μ P => wa ρ μ fun ds μ1 => wb ds μ1 P
section
variable {X : Cx} {x : Str} {p pos : Pos} {e : Expr} {es : List Expr} {wa : WA} {id T : String} {r : List V → Hp → VK → Prop} {wb : WB} {w : WE}
theorem cb_imp {K : PySem.W.Frag} (hr : RAD K r wb) : ∀ σ H Q, tD K (wB wb wa) σ H Q → tCB r (tDA K wa) σ H Q := fun σ H Q ⟨R, ρ, μ, P, a, w, k⟩ =>
  ⟨R, ρ, μ, _, a, w, fun ds μ1 vs H1 p1 o1 s1 i1 => hr R μ1 H1 vs ds P Q o1 i1 p1 (k.step s1)⟩
theorem d_callB (hc : CallR X (.builtin id) r) (hr : RAD X.K r wb) (hg : Gl X x) (hm : X.mg x = none) (hv : bootBuiltins x = some (.builtin id)) (ha : PA X (e :: es) (tDA X.K wa)) (hn : x ≠ "__name__" := by decide) (hdb : (x == ("__debug__" : Str)) = false := by decide)
    (he : starEach (e :: es) X.env = (false, eval e X.env) :: starEach es X.env := by rfl) (hpl : (backTo pos (starEach es X.env)).any (·.1) = false := by rfl) : PE X (.Call (.Name x p) (e :: es) [] pos) (tD X.K (wB wb wa)) :=
  PE.imp (pe_callB hc hg hm hv ha hn hdb he hpl) (cb_imp hr)
theorem d_callTy (hc : CallR X (.type T) r) (hr : RAD X.K r wb) (hg : Gl X x) (hm : X.mg x = none) (hv : bootBuiltins x = some (.type T)) (ha : PA X (e :: es) (tDA X.K wa)) (hn : x ≠ "__name__" := by decide) (hdb : (x == ("__debug__" : Str)) = false := by decide)
    (he : starEach (e :: es) X.env = (false, eval e X.env) :: starEach es X.env := by rfl) (hpl : (backTo pos (starEach es X.env)).any (·.1) = false := by rfl) : PE X (.Call (.Name x p) (e :: es) [] pos) (tD X.K (wB wb wa)) :=
  PE.imp (pe_callTy hc hg hm hv ha hn hdb he hpl) (cb_imp hr)
end

/-! ### len, abs, all, any, tuple, list, int -/
def wLen : WB
  | [.lst ds], μ, P => P (.int (ds.length : Int)) μ
  | [.tup ds], μ, P => P (.int (ds.length : Int)) μ
  | [.str z], μ, P => z.length ≤ sizeLine ∧ P (.int (z.length : Int)) μ
  | [.obj a], μ, P => match μ a with | some (.lst ds) => P (.int (ds.length : Int)) μ | _ => False
  | _, _, _ => False
def wAbs : WB
  | [.int i], μ, P => P (.int (if i < 0 then -i else i)) μ
  | _, _, _ => False
def wAll : WB
  | [.lst ds], μ, P => ∃ bs : List Bool, ds = bs.map DV.bool ∧ P (.bool (bs.all id)) μ
  | _, _, _ => False
def wAny : WB
  | [.lst ds], μ, P => ∃ bs : List Bool, ds = bs.map DV.bool ∧ P (.bool (bs.any id)) μ
  | _, _, _ => False
def wTuple : WB
  | [.lst ds], μ, P => P (.tup ds) μ
  | [.tup ds], μ, P => P (.tup ds) μ
  | [.obj a], μ, P => match μ a with | some (.lst ds) => P (.tup ds) μ | _ => False
  | _, _, _ => False
def wList : WB
  | [.lst ds], μ, P => P (.lst ds) μ
  | [.tup ds], μ, P => P (.lst ds) μ
  | [.obj a], μ, P => match μ a with | some (.lst ds) => P (.lst ds) μ | _ => False
  | _, _, _ => False
def wInt1 : WB
  | [.int i], μ, P => P (.int i) μ
  | [.bool b], μ, P => P (.int (if b then 1 else 0)) μ
  | _, _, _ => False
def wStrI : WB
  | [.int i], μ, P => i.natAbs.log2 < 1920 ∧ P (.str (toString i)) μ
  | _, _, _ => False
def wMax2 : WB
  | [.int i, .int j], μ, P => P (.int (if j > i then j else i)) μ
  | _, _, _ => False
def wMin2 : WB
  | [.int i, .int j], μ, P => P (.int (if j < i then j else i)) μ
  | _, _, _ => False
def wMaxL : WB
  | [.lst ds], μ, P => ∃ ns : List Int, ds = ns.map DV.int ∧ 0 < ns.length ∧ ∀ m, m ∈ ns → (∀ y, y ∈ ns → y ≤ m) → P (.int m) μ
  | _, _, _ => False
def wMinL : WB
  | [.lst ds], μ, P => ∃ ns : List Int, ds = ns.map DV.int ∧ 0 < ns.length ∧ ∀ m, m ∈ ns → (∀ y, y ∈ ns → m ≤ y) → P (.int m) μ
  | _, _, _ => False
section
variable {K : PySem.W.Frag} {X : Cx}
theorem Iss.one {H : Hp} {vs : List V} {d : DV} (h : Iss K H vs [d]) : ∃ v, vs = [v] ∧ Is K H v d := by
  cases h with
  | cons a b => cases b; exact ⟨_, rfl, a⟩
theorem Iss.two {H : Hp} {vs : List V} {d e : DV} (h : Iss K H vs [d, e]) : ∃ v u, vs = [v, u] ∧ Is K H v d ∧ Is K H u e := by
  cases h with
  | cons a b => cases b with
    | cons c d => cases d; exact ⟨_, _, rfl, a, c⟩
theorem len_rd : RAD K (fun xs H Q => ∃ x n, xs = [x] ∧ LenV K x H n ∧ Q (.int n) H) wLen := by
  intro R μ H vs ds P Q o i w k
  match ds, w with
  | [.lst ds], w =>
    obtain ⟨v, rfl, i1⟩ := i.one
    cases i1 with | lst hx rx => exact ⟨_, _, rfl, .inl ⟨_, SqL.of (hid_le _ _ hx), rfl⟩, by rw [rx.length]; exact k.val o w (.int _)⟩
  | [.tup ds], w =>
    obtain ⟨v, rfl, i1⟩ := i.one
    cases i1 with | tup hx rx => exact ⟨_, _, rfl, .inr ⟨_, Same.seqT hid_le hx, rfl⟩, by rw [rx.length]; exact k.val o w (.int _)⟩
  | [.str z], w =>
    obtain ⟨v, rfl, i1⟩ := i.one
    cases i1 with | str z => exact ⟨_, _, rfl, ⟨w.1, rfl⟩, k.val o w.2 (.int _)⟩
  | [.obj a], w =>
    obtain ⟨v, rfl, i1⟩ := i.one
    have w' : (match μ a with | some (.lst ds) => P (.int (ds.length : Int)) μ | _ => False) := w
    split at w'
    · rename_i ds e
      obtain ⟨xs, h1, r⟩ := o.ob a _ e
      cases i1
      exact ⟨_, _, rfl, .inl ⟨_, SqL.of h1, rfl⟩, by rw [r.length]; exact k.val o w' (.int _)⟩
    · exact w'.elim
theorem abs_rd : RAD K (fun xs H Q => ∃ i, xs = [.int i] ∧ Q (.int (if i < 0 then -i else i)) H) wAbs := by
  intro R μ H vs ds P Q o i w k
  match ds, w with
  | [.int j], w =>
    obtain ⟨v, rfl, i1⟩ := i.one
    cases i1
    exact ⟨j, rfl, k.val o w (.int _)⟩
theorem bools_of {H : Hp} : ∀ {vs : List V} {bs : List Bool}, Iss K H vs (bs.map DV.bool) → vs = bs.map V.bl
  | _, [], h => by cases h; rfl
  | _, b :: bs, h => by
    cases h with
    | cons a r =>
      cases a
      rw [List.map_cons, bools_of r]
theorem nums_of {H : Hp} : ∀ {vs : List V} {ns : List Int}, Iss K H vs (ns.map DV.int) → vs = ns.map V.int
  | _, [], h => by cases h; rfl
  | _, b :: bs, h => by
    cases h with
    | cons a r =>
      cases a
      rw [List.map_cons, nums_of r]
theorem texts_of {H : Hp} : ∀ {vs : List V} {ns : List Str}, Iss K H vs (ns.map DV.str) → vs = ns.map V.str
  | _, [], h => by cases h; rfl
  | _, b :: bs, h => by
    cases h with
    | cons a r =>
      cases a
      rw [List.map_cons, texts_of r]
theorem texts_is {H : Hp} : ∀ ns : List Str, Iss K H (ns.map V.str) (ns.map DV.str)
  | [] => .nil
  | _ :: ns => .cons (.str _) (texts_is ns)
theorem nums_is {H : Hp} : ∀ ns : List Int, Iss K H (ns.map V.int) (ns.map DV.int)
  | [] => .nil
  | _ :: ns => .cons (.int _) (nums_is ns)
theorem all_rd : RAD K (rAll K) wAll := by
  intro R μ H vs ds P Q o i w k
  match ds, w with
  | [.lst ds], ⟨bs, e, w⟩ =>
    subst e
    obtain ⟨v, rfl, i1⟩ := i.one
    cases i1 with | lst hx rx => exact ⟨_, bs, rfl, by rw [← bools_of rx]; exact SqL.of (hid_le _ _ hx), k.val o w (.bool _)⟩
theorem any_rd : RAD K (rAny K) wAny := by
  intro R μ H vs ds P Q o i w k
  match ds, w with
  | [.lst ds], ⟨bs, e, w⟩ =>
    subst e
    obtain ⟨v, rfl, i1⟩ := i.one
    cases i1 with | lst hx rx => exact ⟨_, bs, rfl, by rw [← bools_of rx]; exact SqL.of (hid_le _ _ hx), k.val o w (.bool _)⟩
theorem tuple_rd : RAD K (fun xs H Q => ∃ p ys, xs = [.ref p] ∧ ((SqL K H p ys ∧ ∀ l, H l = none → Q (.ref l) (upd H l (.tup ys))) ∨ (SqT K H p ys ∧ Q (.ref p) H))) wTuple := by
  intro R μ H vs ds P Q o i w k
  match ds, w with
  | [.lst ds], w =>
    obtain ⟨v, rfl, i1⟩ := i.one
    cases i1 with | lst hx rx => exact ⟨_, _, rfl, .inl ⟨SqL.of (hid_le _ _ hx), fun l n => k.tup o w rx n⟩⟩
  | [.tup ds], w =>
    obtain ⟨v, rfl, i1⟩ := i.one
    cases i1 with | tup hx rx => exact ⟨_, _, rfl, .inr ⟨Same.seqT hid_le hx, k.val o w (.tup hx rx)⟩⟩
  | [.obj a], w =>
    obtain ⟨v, rfl, i1⟩ := i.one
    have w' : (match μ a with | some (.lst ds) => P (.tup ds) μ | _ => False) := w
    split at w'
    · rename_i ds e
      obtain ⟨xs, h1, r⟩ := o.ob a _ e
      cases i1
      exact ⟨_, _, rfl, .inl ⟨SqL.of h1, fun l n => k.tup o w' r n⟩⟩
    · exact w'.elim
theorem list_rd : RAD K (fun xs H Q => ∃ p ys, xs = [.ref p] ∧ (SqL K H p ys ∨ SqT K H p ys) ∧ ∀ l, H l = none → Q (.ref l) (upd H l (.lst ys))) wList := by
  intro R μ H vs ds P Q o i w k
  match ds, w with
  | [.lst ds], w =>
    obtain ⟨v, rfl, i1⟩ := i.one
    cases i1 with | lst hx rx => exact ⟨_, _, rfl, .inl (SqL.of (hid_le _ _ hx)), fun l n => k.lst o w rx n⟩
  | [.tup ds], w =>
    obtain ⟨v, rfl, i1⟩ := i.one
    cases i1 with | tup hx rx => exact ⟨_, _, rfl, .inr (Same.seqT hid_le hx), fun l n => k.lst o w rx n⟩
  | [.obj a], w =>
    obtain ⟨v, rfl, i1⟩ := i.one
    have w' : (match μ a with | some (.lst ds) => P (.lst ds) μ | _ => False) := w
    split at w'
    · rename_i ds e
      obtain ⟨xs, h1, r⟩ := o.ob a _ e
      cases i1
      exact ⟨_, _, rfl, .inl (SqL.of h1), fun l n => k.lst o w' r n⟩
    · exact w'.elim
theorem int1_rd : RAD K (fun xs H Q => (∃ i, xs = [.int i] ∧ Q (.int i) H) ∨ ∃ k, xs = [.bl k] ∧ Q (.int (if k then 1 else 0)) H) wInt1 := by
  intro R μ H vs ds P Q o i w k
  match ds, w with
  | [.int j], w =>
    obtain ⟨v, rfl, i1⟩ := i.one
    cases i1
    exact .inl ⟨j, rfl, k.val o w (.int _)⟩
  | [.bool b], w =>
    obtain ⟨v, rfl, i1⟩ := i.one
    cases i1
    exact .inr ⟨b, rfl, k.val o w (.int _)⟩
theorem strI_rd : RAD K (fun xs H Q => ∃ i, xs = [.int i] ∧ i.natAbs.log2 < 1920 ∧ Q (.str (toString i)) H) wStrI := by
  intro R μ H vs ds P Q o i w k
  match ds, w with
  | [.int j], w =>
    obtain ⟨v, rfl, i1⟩ := i.one
    cases i1
    exact ⟨j, rfl, w.1, k.val o w.2 (.str _)⟩
theorem max2_rd : RAD K (fun xs H Q => ∃ i j, xs = [.int i, .int j] ∧ Q (.int (if j > i then j else i)) H) wMax2 := by
  intro R μ H vs ds P Q o i w k
  match ds, w with
  | [.int a, .int b], w =>
    obtain ⟨v, u, rfl, i1, j1⟩ := i.two
    cases i1
    cases j1
    exact ⟨a, b, rfl, k.val o w (.int _)⟩
theorem min2_rd : RAD K (fun xs H Q => ∃ i j, xs = [.int i, .int j] ∧ Q (.int (if j < i then j else i)) H) wMin2 := by
  intro R μ H vs ds P Q o i w k
  match ds, w with
  | [.int a, .int b], w =>
    obtain ⟨v, u, rfl, i1, j1⟩ := i.two
    cases i1
    cases j1
    exact ⟨a, b, rfl, k.val o w (.int _)⟩
theorem maxL_rd : RAD K (rMax K) wMaxL := by
  intro R μ H vs ds P Q o i w k
  match ds, w with
  | [.lst ds], ⟨ns, e, h, w⟩ =>
    subst e
    obtain ⟨v, rfl, i1⟩ := i.one
    cases i1 with | lst hx rx => exact ⟨_, ns, rfl, by rw [← nums_of rx]; exact SqL.of (hid_le _ _ hx), h, fun m hm hl => k.val o (w m hm hl) (.int _)⟩
theorem minL_rd : RAD K (rMin K) wMinL := by
  intro R μ H vs ds P Q o i w k
  match ds, w with
  | [.lst ds], ⟨ns, e, h, w⟩ =>
    subst e
    obtain ⟨v, rfl, i1⟩ := i.one
    cases i1 with | lst hx rx => exact ⟨_, ns, rfl, by rw [← nums_of rx]; exact SqL.of (hid_le _ _ hx), h, fun m hm hl => k.val o (w m hm hl) (.int _)⟩
variable {e a b : Expr} {es : List Expr} {wa : WA} {w wx wy : WE} {p pos : Pos}
theorem d_len (hg : Gl X "len") (hm : X.mg "len" = none) (ha : PE X e (tD X.K w)) (hs : starEach [e] X.env = [(false, eval e X.env)] := by rfl) : PE X (.Call (.Name "len" p) [e] [] pos) (tD X.K (wB wLen (wCons w wNil))) :=
  d_callB call_len len_rd hg hm PySem.boot_len (da_cons ha da_nil hs) (by decide) (by decide) hs rfl
theorem d_abs (hg : Gl X "abs") (hm : X.mg "abs" = none) (ha : PE X e (tD X.K w)) (hs : starEach [e] X.env = [(false, eval e X.env)] := by rfl) : PE X (.Call (.Name "abs" p) [e] [] pos) (tD X.K (wB wAbs (wCons w wNil))) :=
  d_callB call_abs abs_rd hg hm (by decide +kernel) (da_cons ha da_nil hs) (by decide) (by decide) hs rfl
theorem d_all (hg : Gl X "all") (hm : X.mg "all" = none) (ha : PE X e (tD X.K w)) (hc : X.calm = true := by rfl) (hs : starEach [e] X.env = [(false, eval e X.env)] := by rfl) : PE X (.Call (.Name "all" p) [e] [] pos) (tD X.K (wB wAll (wCons w wNil))) :=
  d_callB (cr_all hc) all_rd hg hm (by decide +kernel) (da_cons ha da_nil hs) (by decide) (by decide) hs rfl
theorem d_any (hg : Gl X "any") (hm : X.mg "any" = none) (ha : PE X e (tD X.K w)) (hc : X.calm = true := by rfl) (hs : starEach [e] X.env = [(false, eval e X.env)] := by rfl) : PE X (.Call (.Name "any" p) [e] [] pos) (tD X.K (wB wAny (wCons w wNil))) :=
  d_callB (cr_any hc) any_rd hg hm (by decide +kernel) (da_cons ha da_nil hs) (by decide) (by decide) hs rfl
theorem d_tuple (hg : Gl X "tuple") (hm : X.mg "tuple" = none) (ha : PE X e (tD X.K w)) (hs : starEach [e] X.env = [(false, eval e X.env)] := by rfl) : PE X (.Call (.Name "tuple" p) [e] [] pos) (tD X.K (wB wTuple (wCons w wNil))) :=
  d_callTy call_tuple_of tuple_rd hg hm (by decide +kernel) (da_cons ha da_nil hs) (by decide) (by decide) hs rfl
theorem d_list (hg : Gl X "list") (hm : X.mg "list" = none) (ha : PE X e (tD X.K w)) (hs : starEach [e] X.env = [(false, eval e X.env)] := by rfl) : PE X (.Call (.Name "list" p) [e] [] pos) (tD X.K (wB wList (wCons w wNil))) :=
  d_callTy call_list_of list_rd hg hm (by decide +kernel) (da_cons ha da_nil hs) (by decide) (by decide) hs rfl
theorem d_int1 (hg : Gl X "int") (hm : X.mg "int" = none) (ha : PE X e (tD X.K w)) (hs : starEach [e] X.env = [(false, eval e X.env)] := by rfl) : PE X (.Call (.Name "int" p) [e] [] pos) (tD X.K (wB wInt1 (wCons w wNil))) :=
  d_callTy call_int1 int1_rd hg hm (by decide +kernel) (da_cons ha da_nil hs) (by decide) (by decide) hs rfl
theorem d_strI (hg : Gl X "str") (hm : X.mg "str" = none) (ha : PE X e (tD X.K w)) (hs : starEach [e] X.env = [(false, eval e X.env)] := by rfl) : PE X (.Call (.Name "str" p) [e] [] pos) (tD X.K (wB wStrI (wCons w wNil))) :=
  d_callTy call_str_int strI_rd hg hm (by decide +kernel) (da_cons ha da_nil hs) (by decide) (by decide) hs rfl
theorem d_maxL (hg : Gl X "max") (hm : X.mg "max" = none) (ha : PE X e (tD X.K w)) (hc : X.calm = true := by rfl) (hs : starEach [e] X.env = [(false, eval e X.env)] := by rfl) : PE X (.Call (.Name "max" p) [e] [] pos) (tD X.K (wB wMaxL (wCons w wNil))) :=
  d_callB (cr_max hc) maxL_rd hg hm (by decide +kernel) (da_cons ha da_nil hs) (by decide) (by decide) hs rfl
theorem d_minL (hg : Gl X "min") (hm : X.mg "min" = none) (ha : PE X e (tD X.K w)) (hc : X.calm = true := by rfl) (hs : starEach [e] X.env = [(false, eval e X.env)] := by rfl) : PE X (.Call (.Name "min" p) [e] [] pos) (tD X.K (wB wMinL (wCons w wNil))) :=
  d_callB (cr_min hc) minL_rd hg hm (by decide +kernel) (da_cons ha da_nil hs) (by decide) (by decide) hs rfl
theorem d_max2 (hg : Gl X "max") (hm : X.mg "max" = none) (ha : PE X a (tD X.K wx)) (hb : PE X b (tD X.K wy)) (hc : X.calm = true := by rfl) (hs : starEach [a, b] X.env = (false, eval a X.env) :: starEach [b] X.env := by rfl) (hs2 : starEach [b] X.env = [(false, eval b X.env)] := by rfl) :
    PE X (.Call (.Name "max" p) [a, b] [] pos) (tD X.K (wB wMax2 (wCons wx (wCons wy wNil)))) :=
  d_callB (call_max2 hc) max2_rd hg hm (by decide +kernel) (da_cons ha (da_cons hb da_nil hs2) hs) (by decide) (by decide) hs (by rw [hs2]; rfl)
theorem d_min2 (hg : Gl X "min") (hm : X.mg "min" = none) (ha : PE X a (tD X.K wx)) (hb : PE X b (tD X.K wy)) (hc : X.calm = true := by rfl) (hs : starEach [a, b] X.env = (false, eval a X.env) :: starEach [b] X.env := by rfl) (hs2 : starEach [b] X.env = [(false, eval b X.env)] := by rfl) :
    PE X (.Call (.Name "min" p) [a, b] [] pos) (tD X.K (wB wMin2 (wCons wx (wCons wy wNil)))) :=
  d_callB (call_min2 hc) min2_rd hg hm (by decide +kernel) (da_cons ha (da_cons hb da_nil hs2) hs) (by decide) (by decide) hs (by rw [hs2]; rfl)

/-! ### isinstance -/
inductive Ty where
  | none | bool | int | str | tup | lst | dct
def Ty.name : Ty → String
  | .none => "NoneType" | .bool => "bool" | .int => "int" | .str => "str" | .tup => "tuple" | .lst => "list" | .dct => "dict"
def tyD : DV → Mh → Option Ty
  | .none, _ => some .none
  | .bool _, _ => some .bool
  | .int _, _ => some .int
  | .str _, _ => some .str
  | .tup _, _ => some .tup
  | .lst _, _ => some .lst
  | .dct _, _ => some .dct
  | .obj a, μ => match μ a with | some (.lst _) => some .lst | some (.dct _) => some .dct | _ => Option.none
  | .fix _, _ => Option.none
theorem ty_of {R : Hp} {μ : Mh} {H : Hp} {v : V} {d : DV} {t : Ty} (o : Ok K R μ H) (i : Is K (hid R μ H) v d) (h : tyD d μ = some t) : TyX K H v (.type t.name) := by
  cases i with
  | none => cases h; exact .base .non
  | bool b => cases h; exact .base (.bl b)
  | int b => cases h; exact .base (.int b)
  | str b => cases h; exact .base (.str b)
  | lst hx rx => cases h; exact .base (.lst (hid_le _ _ hx))
  | dct hx _ _ => cases h; exact .base (.dK (hid_le _ _ hx))
  | tup hx rx =>
    cases h
    rcases hx with (hx | ⟨ob, hx⟩) | ⟨ob, its, n, hk, hc, _⟩
    · exact .base (.tup (hid_le _ _ hx))
    · exact .fTuple (hid_le _ _ hx)
    · exact .kTuple hk hc
  | obj a =>
    have h' : (match μ a with | some (.lst _) => some Ty.lst | some (.dct _) => some Ty.dct | _ => Option.none) = some t := h
    split at h'
    · rename_i ds e
      cases h'
      obtain ⟨xs, h1, r⟩ := o.ob a _ e
      exact .base (.lst h1)
    · rename_i ds e
      cases h'
      obtain ⟨xs, h1, r⟩ := o.ob a _ e
      exact .base (.dK h1)
    · cases h'
  | fix _ _ => cases h
def wIsi (f : Ty → Bool) (w : WE) : WE := fun ρ μ P => w ρ μ fun d μ1 => atW (tyD d μ1) fun t => P (.bool (f t)) μ1
theorem d_isi {Tn : Str} {T : String} {p2 : Pos} (f : Ty → Bool) (hf : ∀ t : Ty, kitB t.name T = some (f t)) (hg : Gl X "isinstance") (hm : X.mg "isinstance" = none) (hg2 : Gl X Tn) (hm2 : X.mg Tn = none) (hv2 : bootBuiltins Tn = some (.type T)) (ha : PE X e (tD X.K w))
    (hs : starEach [e, .Name Tn p2] X.env = (false, eval e X.env) :: starEach [.Name Tn p2] X.env := by rfl) (hs2 : starEach [.Name Tn p2] X.env = [(false, eval (.Name Tn p2) X.env)] := by rfl) (hn : Tn ≠ "__name__" := by decide) (hdb : (Tn == ("__debug__" : Str)) = false := by decide) :
    PE X (.Call (.Name "isinstance" p) [e, .Name Tn p2] [] pos) (tD X.K (wIsi f w)) :=
  PE.imp (pe_callB call_isi hg hm (by decide +kernel) (pa_cons ha (pa_cons (pe_bltn (v := .ty T) hg2 hm2 hv2 rfl hn hdb) pa_nil hs2) hs) (by decide) (by decide) hs (by rw [hs2]; rfl)) fun σ H Q ⟨R, ρ, μ, P, a, w, k⟩ =>
    ⟨R, ρ, μ, _, a, w, fun d μ1 v H1 p1 o1 s1 i1 => by
      obtain ⟨t, ht, p2⟩ := atW_of p1
      exact ⟨v, .ty T, _, _, f t, rfl, .ty T, ty_of o1 i1 ht, kit_ty (hf t), k _ μ1 _ H1 p2 o1 s1 (.bool _)⟩⟩
def tyStr : Ty → Bool | .str => true | _ => false
def tyInt : Ty → Bool | .int => true | .bool => true | _ => false
def tyBool : Ty → Bool | .bool => true | _ => false
def tyTup : Ty → Bool | .tup => true | _ => false
def tyLst : Ty → Bool | .lst => true | _ => false
def tyDct : Ty → Bool | .dct => true | _ => false
theorem hf_str : ∀ t : Ty, kitB t.name "str" = some (tyStr t) := by intro t; cases t <;> decide +kernel
theorem hf_int : ∀ t : Ty, kitB t.name "int" = some (tyInt t) := by intro t; cases t <;> decide +kernel
theorem hf_bool : ∀ t : Ty, kitB t.name "bool" = some (tyBool t) := by intro t; cases t <;> decide +kernel
theorem hf_tup : ∀ t : Ty, kitB t.name "tuple" = some (tyTup t) := by intro t; cases t <;> decide +kernel
theorem hf_lst : ∀ t : Ty, kitB t.name "list" = some (tyLst t) := by intro t; cases t <;> decide +kernel
theorem hf_dct : ∀ t : Ty, kitB t.name "dict" = some (tyDct t) := by intro t; cases t <;> decide +kernel
theorem boot_str : bootBuiltins "str" = some (.type "str") := by decide +kernel
theorem boot_int : bootBuiltins "int" = some (.type "int") := by decide +kernel
theorem boot_bool : bootBuiltins "bool" = some (.type "bool") := by decide +kernel
theorem boot_tup : bootBuiltins "tuple" = some (.type "tuple") := by decide +kernel
theorem boot_lst : bootBuiltins "list" = some (.type "list") := by decide +kernel
theorem boot_dct : bootBuiltins "dict" = some (.type "dict") := by decide +kernel

/-! ### sep.join(texts) -/
def joinD (a : Str) (ds : List DV) (μ : Mh) (P : DV → Mh → Prop) : Prop := ∃ ys : List Str, ds = ys.map DV.str ∧ (ys.map (·.length)).sum + ys.length * a.length ≤ 16777216 ∧ P (.str (Txt.join a ys)) μ
def wJoin (wx wy : WE) : WE := fun ρ μ P => wx ρ μ fun x μ1 => match x with
  | .str a => wy ρ μ1 fun y μ2 => match y with
    | .lst ds => joinD a ds μ2 P
    | .tup ds => joinD a ds μ2 P
    | _ => False
  | _ => False
theorem d_join {apos : Pos} (ho : PE X a (tD X.K wx)) (he : PE X b (tD X.K wy)) (hs : starEach [b] X.env = [(false, eval b X.env)] := by rfl) (hbase : attributeBase a "join" X.env (eval a X.env) = eval a X.env := by rfl) (hline : (apos.endLine == pos.line) = true := by rfl) :
    PE X (.Call (.Attribute a "join" apos) [b] [] pos) (tD X.K (wJoin wx wy)) :=
  PE.imp (pe_join ho he hs hbase hline) fun σ H Q ⟨R, ρ, μ, P, a, w, k⟩ => ⟨R, ρ, μ, _, a, w, fun x μ1 v H1 p1 o1 s1 i1 => by
    cases i1 with
    | str z => exact ⟨⟨z, rfl⟩, R, ρ, μ1, _, a.step o1 s1, p1, fun y μ2 u H2 p2 o2 s2 i2 => by
        cases i2 with
        | lst hy ry =>
          obtain ⟨ys, e, h1, h2⟩ := p2
          subst e
          exact ⟨z, _, ys, rfl, rfl, .inl (by rw [← texts_of ry]; exact SqL.of (hid_le _ _ hy)), h1, k _ μ2 _ H2 h2 o2 (s1.trans s2) (.str _)⟩
        | tup hy ry =>
          obtain ⟨ys, e, h1, h2⟩ := p2
          subst e
          exact ⟨z, _, ys, rfl, rfl, .inr (by rw [← texts_of ry]; exact Same.seqT hid_le hy), h1, k _ μ2 _ H2 h2 o2 (s1.trans s2) (.str _)⟩
        | _ => exact (show False from p2).elim⟩
    | _ => exact (show False from p1).elim⟩
end
end Dz

set_option Elab.async false
set_option linter.all false
set_option maxRecDepth 100000
set_option maxHeartbeats 4000000
/-! Dz6: repr of data, displays of dicts, order of tuples. -/
namespace Dz
open PySem L2

/-! ### data as the library reads it -/
def ReadsIn (h : Heap) (v : Value) (d : PyData) : Prop := ∃ as, Reads h v d as ∧ sysModules ∉ as
def ReadsInAll (h : Heap) (vs : List Value) (ds : List PyData) : Prop := ∃ as, ReadsAll h vs ds as ∧ sysModules ∉ as
theorem ReadsInAll.cons {h : Heap} {v : Value} {d : PyData} {vs : List Value} {ds : List PyData} (a : ReadsIn h v d) (b : ReadsInAll h vs ds) : ReadsInAll h (v :: vs) (d :: ds) := by
  obtain ⟨as, r1, n1⟩ := a
  obtain ⟨bs, r2, n2⟩ := b
  exact ⟨_, .cons r1 r2, fun m => (List.mem_append.mp m).elim n1 n2⟩
section
variable {X : Cx} {pins : List (Addr × Obj)} {σ : L2.St} {H : Hp} {s : Shared}
theorem ne_sys (I : Inv X pins σ H s) (hs : ∃ o, X.base.get? sysModules = some o) {a : Addr} {u : HO} (h : H a = some u) : sysModules ≠ a := by
  obtain ⟨o, e⟩ := hs
  intro z
  subst z
  rw [(I.bs _ _ e).2] at h
  cases h
theorem key_reads {h : Heap} : ∀ {es : List DictEntry} {vs : List (Key × Value)} {P : Program} {w : World}, Pairs (mixKind P w) es vs → ReadsInAll h (es.map (·.key)) (vs.map fun kv => keyPy kv.1)
  | _, _, _, _, .nil => ⟨[], .nil, by simp⟩
  | _, _, _, _, .cons h1 h2 r => by
    refine ReadsInAll.cons ?_ (key_reads r)
    rcases keyIs_shape h1 with ⟨i, t, e1, e2⟩ | ⟨i, t, e1, e2⟩
    · show ReadsIn h (DictEntry.key _) (keyPy (Prod.fst _))
      rw [e1, e2]
      exact ⟨[], .int i t, by simp⟩
    · show ReadsIn h (DictEntry.key _) (keyPy (Prod.fst _))
      rw [e1, e2]
      exact ⟨[], .str i t, by simp⟩
theorem vals_eq {es : List DictEntry} {vs : List (Key × Value)} {P : Program} {w : World} (r : Pairs (mixKind P w) es vs) : es.map (·.val) = vs.map (·.2) := by
  induction r with
  | nil => rfl
  | cons h1 h2 _ ih => rw [List.map_cons, List.map_cons, h2, ih]
theorem toPyKv_keys : ∀ ds : List (Key × DV), (toPyKv ds).map (·.1) = ds.map fun kv => keyPy kv.1
  | [] => rfl
  | (k, d) :: r => by rw [toPyKv, List.map_cons, List.map_cons, toPyKv_keys r]
theorem toPyKv_vals : ∀ ds : List (Key × DV), (toPyKv ds).map (·.2) = toPys (ds.map (·.2))
  | [] => rfl
  | (k, d) :: r => by rw [toPyKv, List.map_cons, List.map_cons, toPyKv_vals r]; rfl
theorem noObjKv_vals : ∀ ds : List (Key × DV), noObjKv ds = noObjs (ds.map (·.2))
  | [] => rfl
  | (k, d) :: r => by rw [noObjKv, List.map_cons, noObjKv_vals r]; rfl
theorem kv_vals {κ : Type} {kvs : List (κ × V)} {vs : List (κ × Value)} (r : KV kvs vs) : Vals (kvs.map (·.2)) (vs.map (·.2)) := by
  unfold KV at r
  induction r with
  | nil => exact .nil
  | cons q _ ih => exact .cons q.2 ih
mutual
theorem Is.reads (I : Inv X pins σ H s) (hs : ∃ o, X.base.get? sysModules = some o) : ∀ {v : V} {d : DV} {u : Value}, Is X.K H v d → noObj d = true → RelV v u → ReadsIn s.heap u (toPy d)
  | _, _, _, .none, _, r => by cases r; exact ⟨_, .none, by simp⟩
  | _, _, _, .bool b, _, r => by cases r; exact ⟨_, .bool b, by simp⟩
  | _, _, _, .int i, _, r => by obtain ⟨t, rfl⟩ := r; exact ⟨_, .int i t, by simp⟩
  | _, _, _, .str i, _, r => by obtain ⟨t, rfl⟩ := r; exact ⟨_, .str i t, by simp⟩
  | _, _, _, .tup h rr, n, r => by
    cases r
    obtain ⟨its, rv, ⟨o, ho, hc, m, hd⟩, _⟩ := I.tuple h
    obtain ⟨as, hr, ns⟩ := Iss.reads I hs rr n rv
    exact ⟨_, .tuple ho hc hd hr, ns⟩
  | _, _, _, .lst h rr, n, r => by
    cases r
    obtain ⟨its, rv, ⟨o, m, ho, hc, _, hd⟩, _⟩ := I.list (SqL.of h)
    obtain ⟨as, hr, ns⟩ := Iss.reads I hs rr n rv
    exact ⟨_, .list ho hc hd hr, fun z => (List.mem_cons.mp z).elim (ne_sys I hs h) ns⟩
  | _, _, _, .dct (a := a) (kvs := kvs) (ds := ds) h k rr, n, r => by
    cases r
    obtain ⟨_, _, vs, rv, ob, es, ep, ho, hx, hd, _, pr, _⟩ := (show ObjOk X.prog X.w H s.heap a (.dK kvs) from I.hok a _ h)
    have rv2 : Vals (kvs.map (·.2)) (vs.map (·.2)) := kv_vals rv
    obtain ⟨as, r1, n1⟩ := key_reads (h := s.heap) pr
    obtain ⟨bs, r2, n2⟩ := Iss.reads I hs rr (by rw [← noObjKv_vals]; exact n) rv2
    have kk : vs.map (fun kv => keyPy kv.1) = (toPyKv ds).map (·.1) := by
      rw [toPyKv_keys]
      have e1 : vs.map (·.1) = ds.map (·.1) := rv.keys.symm.trans k
      have e2 := congrArg (List.map keyPy) e1
      rw [List.map_map, List.map_map] at e2
      exact e2
    rw [kk] at r1
    rw [← vals_eq pr, ← toPyKv_vals] at r2
    exact ⟨_, .dict ho hx.1 hd r1 r2, fun z => (List.mem_append.mp z).elim (fun z => (List.mem_cons.mp z).elim (ne_sys I hs h) n1) n2⟩
  | _, _, _, .obj _, n, _ => absurd (show false = true from n) Bool.false_ne_true
  | _, _, _, .fix _ _, n, _ => absurd (show false = true from n) Bool.false_ne_true
theorem Iss.reads (I : Inv X pins σ H s) (hs : ∃ o, X.base.get? sysModules = some o) : ∀ {vs : List V} {ds : List DV} {us : List Value}, Iss X.K H vs ds → noObjs ds = true → Vals vs us → ReadsInAll s.heap us (toPys ds)
  | _, _, _, .nil, _, r => by cases r; exact ⟨_, .nil, by simp⟩
  | _, _, _, .cons h rr, n, r => by
    cases r with
    | cons r1 r2 =>
      have n' := Bool.and_eq_true_iff.mp n
      exact ReadsInAll.cons (Is.reads I hs h n'.1 r1) (Iss.reads I hs rr n'.2 r2)
end
end

/-! ### repr -/
/-- data whose text the model can write -/
structure Shows (d : DV) : Prop where
  no : noObj d = true
  sh : (toPy d).showable = true
  len : (toPy d).shown.length ≤ sizeLine
  dep : (toPy d).depth ≤ 60
def shownD (d : DV) : Str := (toPy d).shown
def wRepr : WB
  | [d], μ, P => Shows d ∧ P (.str (shownD d)) μ
  | _, _, _ => False
def rReprD (K : PySem.W.Frag) : List V → Hp → VK → Prop := fun xs H Q => ∃ x d, xs = [x] ∧ Is K H x d ∧ Shows d ∧ Q (.str (shownD d)) H
section
variable {X : Cx}
theorem call_reprD {k : Nat} (hg : X.A.guards = some []) (hr : Room k X.A) (hs : ∃ o, X.base.get? sysModules = some o) : CallR X (.builtin "repr") (rReprD X.K) := by
  intro pins s σ H xs us Q I r h
  obtain ⟨x, d, rfl, i, S, q⟩ := h
  obtain ⟨u, rfl, rx⟩ := vals1 r
  have hu := hr.un
  cases i with
  | none =>
    cases rx
    exact PySem.P.repr_of_none ⟨.str _, H, I.tok _, ⟨_, rfl⟩, q⟩
  | bool b =>
    cases rx
    exact PySem.P.repr_of_bool ⟨.str _, H, I.tok _, ⟨_, rfl⟩, q⟩
  | int j =>
    obtain ⟨t, rfl⟩ := rx
    exact PySem.P.repr_of_int (by have := S.sh; simpa [toPy, PyData.showable] using this) ⟨.str _, H, I.tok _, ⟨_, rfl⟩, q⟩
  | str z =>
    obtain ⟨t, rfl⟩ := rx
    exact PySem.P.repr_of_str ⟨.str _, H, I.tok _, ⟨_, rfl⟩, q⟩ S.len
  | obj a => exact absurd (show false = true from S.no) Bool.false_ne_true
  | fix _ _ => exact absurd (show false = true from S.no) Bool.false_ne_true
  | tup h rr =>
    obtain ⟨as, rd, ns⟩ := Is.reads I hs (.tup h rr) S.no rx
    cases rx
    refine repr_of_reads' rd S.sh (fun _ => ns) hg (by have := S.dep; omega) (fun _ _ e => e) (fun h' v tk hk => ?_) S.len
    exact ⟨.str _, H, I.kept hk, ⟨_, rfl⟩, q⟩
  | lst h rr =>
    obtain ⟨as, rd, ns⟩ := Is.reads I hs (.lst h rr) S.no rx
    cases rx
    refine repr_of_reads' rd S.sh (fun _ => ns) hg (by have := S.dep; omega) (fun _ _ e => e) (fun h' v tk hk => ?_) S.len
    exact ⟨.str _, H, I.kept hk, ⟨_, rfl⟩, q⟩
  | dct h kk rr =>
    obtain ⟨as, rd, ns⟩ := Is.reads I hs (.dct h kk rr) S.no rx
    cases rx
    refine repr_of_reads' rd S.sh (fun _ => ns) hg (by have := S.dep; omega) (fun _ _ e => e) (fun h' v tk hk => ?_) S.len
    exact ⟨.str _, H, I.kept hk, ⟨_, rfl⟩, q⟩
theorem repr_rd {K : PySem.W.Frag} : RAD K (rReprD K) wRepr := by
  intro R μ H vs ds P Q o i w k
  match ds, w with
  | [d], w =>
    obtain ⟨v, rfl, i1⟩ := i.one
    exact ⟨v, d, rfl, i1.up, w.1, k.val o w.2 (.str _)⟩
theorem d_repr {k : Nat} {e : Expr} {w : WE} {p pos : Pos} (hgd : X.A.guards = some []) (hr : Room k X.A) (hsm : ∃ o, X.base.get? sysModules = some o) (hg : Gl X "repr") (hm : X.mg "repr" = none) (ha : PE X e (tD X.K w)) (hs : starEach [e] X.env = [(false, eval e X.env)] := by rfl) :
    PE X (.Call (.Name "repr" p) [e] [] pos) (tD X.K (wB wRepr (wCons w wNil))) :=
  d_callB (call_reprD hgd hr hsm) repr_rd hg hm (by decide +kernel) (da_cons ha da_nil hs) (by decide) (by decide) hs rfl

/-! ### {}, {k: v, ..} -/
def wPairs : List (Key × WE) → Rho → Mh → (List (Key × DV) → Mh → Prop) → Prop
  | [], _, μ, P => P [] μ
  | (k, w) :: r, ρ, μ, P => w ρ μ fun d μ1 => wPairs r ρ μ1 fun ds μ2 => P ((k, d) :: ds) μ2
/-- a dict as data: the keys written, each once -/
def wDct (ws : List (Key × WE)) : WE := fun ρ μ P => wPairs ws ρ μ fun ds μ1 => P (.dct ds) μ1
theorem d_dct0 {pos : Pos} : PE X (.Dict [] [] pos) (tD X.K (wC (.dct []))) :=
  PE.imp pe_dnewK fun σ H Q ⟨R, ρ, μ, P, a, w, k⟩ => fun p n => k _ μ _ _ w (a.ok.new n) (a.ok.sameNew n) (.dct (hid_new a.ok n) rfl .nil)
/-- one pair -/
theorem d_dct1 {pos : Pos} {kx vx : Expr} {key : Key} {w : WE} (hk : PE X kx (tC (kV key))) (hv : PE X vx (tD X.K w)) : PE X (.Dict [some kx] [vx] pos) (tD X.K (wDct [(key, w)])) :=
  PE.imp (pe_disp (pps_cons hk hv pps_nil) rfl rfl (fun z => by cases z) (Nat.le_of_ble_eq_true rfl)) fun σ H Q ⟨R, ρ, μ, P, a, w, k⟩ => fun p n => by
    obtain ⟨o1, e1⟩ := a.ok.frame (o := .dK []) n
    refine ⟨upd R p (.dK []), ρ, μ, _, ⟨o1, by rw [e1]; exact a.sl⟩, w, fun d μ1 v H1 p1 o2 s2 i2 => ⟨o2.fr p _ upd_same, [(key, v)], rfl, Nat.le_of_ble_eq_true rfl, ?_⟩⟩
    have rn := a.ok.freeR n
    rw [e1] at s2
    have em : mergeK [] [(key, v)] = [(key, v)] := rfl
    rw [em]
    obtain ⟨o3, e3⟩ := o2.reframe (o' := .dK [(key, v)])
    obtain ⟨o4, s4, h4⟩ := o3.unframe rn
    rw [e3] at s4
    exact k _ μ1 _ _ p1 o4 (s2.trans s4) (.dct h4 rfl (.cons (i2.mono s4) .nil))
end

/-! ### order of tuples -/
def ltB : DV → DV → Bool
  | .int i, .int j => decide (i < j)
  | .str s, .str t => ltS s t
  | _, _ => false
def cmpB : DV → DV → Bool
  | .int _, .int _ => true
  | .str _, .str _ => true
  | _, _ => false
/-- place by place of one kind, ints or texts -/
def cmpAll : List DV → List DV → Bool
  | x :: xs, y :: ys => cmpB x y && cmpAll xs ys
  | _, _ => true
def lexB : List DV → List DV → Bool
  | [], [] => false
  | [], _ :: _ => true
  | _ :: _, [] => false
  | x :: xs, y :: ys => if eqF x y = true then lexB xs ys else ltB x y
def eAt (xs ys : List DV) (j : Nat) : Bool := match xs[j]?, ys[j]? with | some x, some y => eqF x y | _, _ => true
def rAt (xs ys : List DV) (j : Nat) : Bool := match xs[j]?, ys[j]? with | some x, some y => ltB x y | _, _ => false
theorem lexAt_shift {z : Bool} : ∀ (k i : Nat) (e r e' r' : Nat → Bool), (∀ j, e' j = e (j + 1)) → (∀ j, r' j = r (j + 1)) → Ob.lexAt e r z (i + 1) k = Ob.lexAt e' r' z i k
  | 0, _, _, _, _, _, _, _ => rfl
  | k + 1, i, e, r, e', r', he, hr => by
    rw [Ob.lexAt_succ, Ob.lexAt_succ, lexAt_shift k (i + 1) e r e' r' he hr, he, hr]
theorem lexAt_lexB : ∀ xs ys : List DV, Ob.lexAt (eAt xs ys) (rAt xs ys) (decide (xs.length < ys.length)) 0 (min xs.length ys.length) = lexB xs ys
  | [], [] => rfl
  | [], _ :: _ => by simp [Ob.lexAt_zero, lexB]
  | _ :: _, [] => by simp [Ob.lexAt_zero, lexB]
  | x :: xs, y :: ys => by
    have h : min (x :: xs).length (y :: ys).length = min xs.length ys.length + 1 := by simp only [List.length_cons]; omega
    have hz : decide ((x :: xs).length < (y :: ys).length) = decide (xs.length < ys.length) := by simp
    rw [h, hz, Ob.lexAt_succ, lexAt_shift _ 0 (eAt (x :: xs) (y :: ys)) (rAt (x :: xs) (y :: ys)) (eAt xs ys) (rAt xs ys) (fun j => by simp [eAt]) (fun j => by simp [rAt]), lexAt_lexB xs ys]
    rfl
theorem cmpAll_at : ∀ {xs ys : List DV} {j : Nat} {x y : DV}, cmpAll xs ys = true → xs[j]? = some x → ys[j]? = some y → cmpB x y = true
  | [], _, j, _, _, _, h, _ => by simp at h
  | _ :: _, [], j, _, _, _, _, h => by simp at h
  | a :: xs, b :: ys, 0, x, y, c, h1, h2 => by
    simp at h1 h2
    subst h1 h2
    exact (Bool.and_eq_true_iff.mp c).1
  | a :: xs, b :: ys, j + 1, x, y, c, h1, h2 => cmpAll_at (j := j) (Bool.and_eq_true_iff.mp c).2 (by simpa using h1) (by simpa using h2)
def rLtTD (K : PySem.W.Frag) : R2 := fun x y H Q => ∃ a b xs ys dx dy, x = .ref a ∧ y = .ref b ∧ SqT K H a xs ∧ SqT K H b ys ∧ Iss K H xs dx ∧ Iss K H ys dy ∧ cmpAll dx dy = true ∧ Q (.bl (lexB dx dy)) H
theorem op_ltTD {X : Cx} (hu : X.A.units < cLine) : OpR X (compareOp .Lt) (rLtTD X.K) := by
  intro pins s σ H x y v u Q I rx ry h
  obtain ⟨a, b, xs, ys, dx, dy, rfl, rfl, ha, hb, i1, i2, c, q⟩ := h
  cases rx
  cases ry
  obtain ⟨its, r1, p1, _⟩ := I.tuple ha
  obtain ⟨its2, r2, p2, _⟩ := I.tuple hb
  have pick : ∀ {us : List Value} {zs : List V} {ds : List DV}, Vals zs us → Iss X.K H zs ds → ∀ (j : Nat) (h1 : j < us.toArray.size), ∃ z d, ds[j]? = some d ∧ Is X.K H z d ∧ RelV z us.toArray[j] := fun {us zs ds} r i j h1 => by
    have hl := r.length
    have hj : j < zs.length := by simp at h1; omega
    obtain ⟨u, e1, e2⟩ := r.get (List.getElem?_eq_getElem hj)
    obtain ⟨d, e3, e4⟩ := i.getV (List.getElem?_eq_getElem hj)
    refine ⟨_, d, e3, e4, ?_⟩
    have h2 : j < us.length := by simpa using h1
    rw [List.getElem?_eq_getElem h2] at e1
    cases e1
    simpa using e2
  have fl : ∀ {d e : DV}, cmpB d e = true → flatD d = true ∧ flatD e = true := fun {d e} h => by
    cases d <;> cases e <;> first | exact ⟨rfl, rfl⟩ | cases h
  have run := Ob.RcOp.tuples_lt (A := X.A) (e := eAt dx dy) (r := rAt dx dy) p1 p2 hu (fun j h1 h2 => by
    obtain ⟨z1, d1, e1, k1, t1⟩ := pick r1 i1 j h1
    obtain ⟨z2, d2, e2, k2, t2⟩ := pick r2 i2 j h2
    have cc := cmpAll_at c e1 e2
    have e : eAt dx dy j = eqV z1 z2 := by
      unfold eAt
      rw [e1, e2, eqV_of k1 k2 (fl cc).1 (fl cc).2]
    rw [e]
    exact eqAt_V t1 t2 (by rw [flat_of k1]; exact (fl cc).1) (by rw [flat_of k2]; exact (fl cc).2)) (fun j h1 h2 hne => by
    obtain ⟨z1, d1, e1, k1, t1⟩ := pick r1 i1 j h1
    obtain ⟨z2, d2, e2, k2, t2⟩ := pick r2 i2 j h2
    have cc := cmpAll_at c e1 e2
    have e : rAt dx dy j = ltB d1 d2 := by
      unfold rAt
      rw [e1, e2]
    rw [e]
    cases d1 with
    | int i => cases d2 with
      | int k =>
        cases k1
        cases k2
        obtain ⟨tk, q1⟩ := t1
        obtain ⟨tk', q2⟩ := t2
        rw [q1, q2]
        exact Ob.RcOp.lt_int _ _ _ _
      | _ => cases cc
    | str i => cases d2 with
      | str k =>
        cases k1
        cases k2
        obtain ⟨tk, q1⟩ := t1
        obtain ⟨tk', q2⟩ := t2
        rw [q1, q2]
        exact fun _ _ _ _ h => PyProof.Rows.lt_str h
      | _ => cases cc
    | _ => cases cc) X.prog X.w
  refine run _ _ ⟨.bl (lexB dx dy), H, I, ?_, q⟩
  have e1 : its.toArray.size = dx.length := by rw [List.size_toArray, ← r1.length, i1.length]
  have e2 : its2.toArray.size = dy.length := by rw [List.size_toArray, ← r2.length, i2.length]
  rw [e1, e2, lexAt_lexB]
  rfl
def wLtA : W2
  | .int i, .int j, μ, P => P (.bool (decide (i < j))) μ
  | .str s, .str t, μ, P => P (.bool (ltS s t)) μ
  | .tup xs, .tup ys, μ, P => cmpAll xs ys = true ∧ P (.bool (lexB xs ys)) μ
  | _, _, _, _ => False
section
variable {K : PySem.W.Frag} {X : Cx} {a b : Expr} {wa wb wc : WE} {pos : Pos}
def rLtA (K : PySem.W.Frag) : R2 := fun x y H Q => rOrd (fun i j => decide (i < j)) (fun s t => decide (s.cps.toList < t.cps.toList)) x y H Q ∨ rLtTD K x y H Q
theorem op_ltA (hu : X.A.units < cLine) : OpR X (compareOp .Lt) (rLtA X.K) := op_ltD.or (op_ltTD hu)
theorem ltA_rd : R2D K (rLtA K) wLtA := by
  intro R μ H x y dx dy P Q ok ix iy w k
  cases ix with
  | int i => cases iy with
    | int j => exact .inl (.inl ⟨i, j, rfl, rfl, k.val ok w (.bool _)⟩)
    | _ => exact (show False from w).elim
  | str i => cases iy with
    | str j => exact .inl (.inr ⟨i, j, rfl, rfl, k.val ok w (.bool _)⟩)
    | _ => exact (show False from w).elim
  | tup hx rx => cases iy with
    | tup hy ry => exact .inr ⟨_, _, _, _, _, _, rfl, rfl, Same.seqT hid_le hx, Same.seqT hid_le hy, rx.mono hid_le, ry.mono hid_le, w.1, k.val ok w.2 (.bool _)⟩
    | _ => exact (show False from w).elim
  | _ => exact (show False from w).elim

/-! ### comparisons as the text has them: c.. a value, t.. a test -/
theorem c_lt {k : Nat} (hr : Room k X.A) (ha : PE X a (tD X.K wa)) (hb : PE X b (tD X.K wb)) : PE X (.Compare a [.Lt] [b] pos) (tD X.K (wBin wLtA wa wb)) := d_cmp (op_ltA hr.units0) ltA_rd ha hb (nomark _)
theorem c_le (ha : PE X a (tD X.K wa)) (hb : PE X b (tD X.K wb)) : PE X (.Compare a [.LtE] [b] pos) (tD X.K (wBin wLe wa wb)) := d_cmp op_leD le_rd ha hb (nomark _)
theorem c_gt (ha : PE X a (tD X.K wa)) (hb : PE X b (tD X.K wb)) : PE X (.Compare a [.Gt] [b] pos) (tD X.K (wBin wGt wa wb)) := d_cmp op_gtD gt_rd ha hb (nomark _)
theorem c_ge (ha : PE X a (tD X.K wa)) (hb : PE X b (tD X.K wb)) : PE X (.Compare a [.GtE] [b] pos) (tD X.K (wBin wGe wa wb)) := d_cmp op_geD ge_rd ha hb (nomark _)
theorem c_eq {k : Nat} (hr : Room k X.A) (ha : PE X a (tD X.K wa)) (hb : PE X b (tD X.K wb)) : PE X (.Compare a [.Eq] [b] pos) (tD X.K (wBin wEqL wa wb)) := d_cmp (op_eqA hr.units) eq_rd ha hb (nomark _)
theorem c_ne {k : Nat} (hr : Room k X.A) (ha : PE X a (tD X.K wa)) (hb : PE X b (tD X.K wb)) : PE X (.Compare a [.NotEq] [b] pos) (tD X.K (wBin wNeL wa wb)) := d_cmp (op_neA hr.units) ne_rd ha hb (nomark _)
theorem c_is (ha : PE X a (tD X.K wa)) (hb : PE X b (tD X.K wb)) : PE X (.Compare a [.Is] [b] pos) (tD X.K (wBin wIsN wa wb)) := d_cmp op_isN isN_rd ha hb (nomark _)
theorem c_isnot (ha : PE X a (tD X.K wa)) (hb : PE X b (tD X.K wb)) : PE X (.Compare a [.IsNot] [b] pos) (tD X.K (wBin wNotN wa wb)) := d_cmp op_notN notN_rd ha hb (nomark _)
theorem c_in {k : Nat} (hr : Room k X.A) (ha : PE X a (tD X.K wa)) (hb : PE X b (tD X.K wb)) (hm : behindInMarks .In b = false) : PE X (.Compare a [.In] [b] pos) (tD X.K (wBin wIn wa wb)) := d_cmp (op_inA (by have := hr.un; omega)) in_rd ha hb hm
theorem c_notin {k : Nat} (hr : Room k X.A) (ha : PE X a (tD X.K wa)) (hb : PE X b (tD X.K wb)) (hm : behindInMarks .NotIn b = false) : PE X (.Compare a [.NotIn] [b] pos) (tD X.K (wBin wNotIn wa wb)) := d_cmp (op_notInA (by have := hr.un; omega)) notIn_rd ha hb hm
theorem t_lt {k : Nat} (hr : Room k X.A) (ha : PE X a (tD X.K wa)) (hb : PE X b (tD X.K wb)) : PT X (.Compare a [.Lt] [b] pos) (tDT X.K (wTest (wBin wLtA wa wb))) := dt_cmp (op_ltA hr.units0) ltA_rd ha hb (nomark _)
theorem t_le (ha : PE X a (tD X.K wa)) (hb : PE X b (tD X.K wb)) : PT X (.Compare a [.LtE] [b] pos) (tDT X.K (wTest (wBin wLe wa wb))) := dt_cmp op_leD le_rd ha hb (nomark _)
theorem t_gt (ha : PE X a (tD X.K wa)) (hb : PE X b (tD X.K wb)) : PT X (.Compare a [.Gt] [b] pos) (tDT X.K (wTest (wBin wGt wa wb))) := dt_cmp op_gtD gt_rd ha hb (nomark _)
theorem t_ge (ha : PE X a (tD X.K wa)) (hb : PE X b (tD X.K wb)) : PT X (.Compare a [.GtE] [b] pos) (tDT X.K (wTest (wBin wGe wa wb))) := dt_cmp op_geD ge_rd ha hb (nomark _)
theorem t_eq {k : Nat} (hr : Room k X.A) (ha : PE X a (tD X.K wa)) (hb : PE X b (tD X.K wb)) : PT X (.Compare a [.Eq] [b] pos) (tDT X.K (wTest (wBin wEqL wa wb))) := dt_cmp (op_eqA hr.units) eq_rd ha hb (nomark _)
theorem t_ne {k : Nat} (hr : Room k X.A) (ha : PE X a (tD X.K wa)) (hb : PE X b (tD X.K wb)) : PT X (.Compare a [.NotEq] [b] pos) (tDT X.K (wTest (wBin wNeL wa wb))) := dt_cmp (op_neA hr.units) ne_rd ha hb (nomark _)
theorem t_is (ha : PE X a (tD X.K wa)) (hb : PE X b (tD X.K wb)) : PT X (.Compare a [.Is] [b] pos) (tDT X.K (wTest (wBin wIsN wa wb))) := dt_cmp op_isN isN_rd ha hb (nomark _)
theorem t_isnot (ha : PE X a (tD X.K wa)) (hb : PE X b (tD X.K wb)) : PT X (.Compare a [.IsNot] [b] pos) (tDT X.K (wTest (wBin wNotN wa wb))) := dt_cmp op_notN notN_rd ha hb (nomark _)
theorem t_in {k : Nat} (hr : Room k X.A) (ha : PE X a (tD X.K wa)) (hb : PE X b (tD X.K wb)) (hm : behindInMarks .In b = false) : PT X (.Compare a [.In] [b] pos) (tDT X.K (wTest (wBin wIn wa wb))) := dt_cmp (op_inA (by have := hr.un; omega)) in_rd ha hb hm
theorem t_notin {k : Nat} (hr : Room k X.A) (ha : PE X a (tD X.K wa)) (hb : PE X b (tD X.K wb)) (hm : behindInMarks .NotIn b = false) : PT X (.Compare a [.NotIn] [b] pos) (tDT X.K (wTest (wBin wNotIn wa wb))) := dt_cmp (op_notInA (by have := hr.un; omega)) notIn_rd ha hb hm
end
end Dz

set_option Elab.async false
set_option linter.all false
set_option maxRecDepth 100000
set_option maxHeartbeats 4000000
/-! Dz7: lists and dicts that change. -/
namespace Dz
open PySem L2
section
variable {K : PySem.W.Frag} {R : Hp} {μ : Mh} {H : Hp} {p : Addr} {o : HO} {m0 m : MO}
/-- an object changes -/
theorem Ok.setM (k : Ok K R μ H) (h : μ p = some m0) (n0 : m0 ≠ .inner) (hok : MOk K (hid R μ H) (upd H p o) (updM μ p m) p m) : Ok K R (updM μ p m) (upd H p o) ∧ hid R (updM μ p m) (upd H p o) = hid R μ H := by
  have rn : R p = none := by
    cases e : R p with
    | none => rfl
    | some u => have := k.dj p u e; rw [h] at this; cases this
  have eh : hid R (updM μ p m) (upd H p o) = hid R μ H := by
    funext b
    by_cases z : b = p
    · subst z
      have h1 : ∀ (m : MO) (G : Hp) (μ : Mh), μ b = some m → hid R μ G b = none := fun m G μ e => by
        unfold hid
        rw [if_neg fun q => by rw [e] at q; exact Bool.false_ne_true q.2]
      rw [h1 m _ _ updM_same, h1 m0 _ _ h]
    · unfold hid
      rw [updM_ne z, upd_ne z]
  refine ⟨⟨fun a u e => ?_, fun a u e => ?_, fun a u e => ?_⟩, eh⟩
  · rw [upd_ne (fun z => by subst z; rw [rn] at e; cases e)]
    exact k.fr a u e
  · rw [updM_ne (fun z => by subst z; rw [rn] at e; cases e)]
    exact k.dj a u e
  · rw [eh]
    by_cases z : a = p
    · subst z
      rw [updM_same] at e
      cases e
      exact hok
    · rw [updM_ne z] at e
      refine (k.ob a u e).mono (Same.refl _) (upd_ne z) (fun b hb => ?_) e (fun b q => ?_)
      · rw [e] at hb
        cases u with
        | ext near φ =>
          obtain ⟨_, _, hn, _⟩ := k.ob a _ e
          refine upd_ne fun y => ?_
          subst y
          have := hn _ hb
          rw [h] at this
          cases this
          exact n0 rfl
        | _ => cases hb
      · rw [updM_ne fun y => ?_]
        · exact q
        · subst y
          rw [h] at q
          cases q
          exact n0 rfl
end
def valD (kvs : List (Key × DV)) (k : Key) : Option DV := (kvs.find? fun kv => decide (kv.1 = k)).map (·.2)
def putD (kvs : List (Key × DV)) (k : Key) (d : DV) : List (Key × DV) := if (kvs.any fun kv => decide (kv.1 = k)) = true then kvs.map (fun kv => if kv.1 = k then (kv.1, d) else kv) else kvs ++ [(k, d)]
def keyD : DV → Option Key
  | .int i => some (.inl i)
  | .str x => some (.inr x)
  | _ => none
theorem keyD_of {K : PySem.W.Frag} {H : Hp} {v : V} {d : DV} {k : Key} (i : Is K H v d) (h : keyD d = some k) : v = kV k := by
  cases i <;> first | (cases h; rfl) | cases h
section
variable {K : PySem.W.Frag} {H : Hp}
theorem Iss.val : ∀ {kvs : List (Key × V)} {ds : List (Key × DV)} {k : Key} {d : DV}, kvs.map (·.1) = ds.map (·.1) → Iss K H (kvs.map (·.2)) (ds.map (·.2)) → valD ds k = some d → ∃ v, valV kvs k = some v ∧ Is K H v d
  | [], [], _, _, _, _, h => by cases h
  | [], _ :: _, _, _, e, _, _ => by cases e
  | _ :: _, [], _, _, e, _, _ => by cases e
  | (a, v) :: kvs, (b, x) :: ds, k, d, e, r, h => by
    simp only [List.map_cons, List.cons.injEq] at e
    obtain ⟨rfl, e⟩ := e
    simp only [List.map_cons] at r
    cases r with
    | cons r1 r2 =>
      unfold valD at h
      unfold valV
      by_cases c : a = k
      · rw [List.find?_cons_of_pos (by simpa using c)] at h ⊢
        cases h
        exact ⟨v, rfl, r1⟩
      · rw [List.find?_cons_of_neg (by simpa using c)] at h ⊢
        exact Iss.val e r2 h
theorem Iss.put : ∀ {kvs : List (Key × V)} {ds : List (Key × DV)} {k : Key} {v : V} {d : DV}, kvs.map (·.1) = ds.map (·.1) → Iss K H (kvs.map (·.2)) (ds.map (·.2)) → Is K H v d → (putK kvs k v).map (·.1) = (putD ds k d).map (·.1) ∧ Iss K H ((putK kvs k v).map (·.2)) ((putD ds k d).map (·.2)) := by
  intro kvs ds k v d e r i
  have ha : (kvs.any fun kv => decide (kv.1 = k)) = (ds.any fun kv => decide (kv.1 = k)) := by
    have h1 : (kvs.any fun kv => decide (kv.1 = k)) = (kvs.map (·.1)).any fun a => decide (a = k) := by rw [List.any_map]; rfl
    have h2 : (ds.any fun kv => decide (kv.1 = k)) = (ds.map (·.1)).any fun a => decide (a = k) := by rw [List.any_map]; rfl
    rw [h1, h2, e]
  unfold putK putD
  rw [ha]
  by_cases c : (ds.any fun kv => decide (kv.1 = k)) = true
  · rw [if_pos c, if_pos c]
    clear ha c
    induction kvs generalizing ds with
    | nil => cases ds with
      | nil => exact ⟨rfl, .nil⟩
      | cons _ _ => cases e
    | cons a kvs ih => cases ds with
      | nil => cases e
      | cons b ds =>
        simp only [List.map_cons, List.cons.injEq] at e
        simp only [List.map_cons] at r
        cases r with
        | cons r1 r2 =>
          obtain ⟨h1, h2⟩ := ih e.2 r2
          simp only [List.map_cons]
          refine ⟨by rw [h1]; congr 1; rw [e.1]; split <;> first | rfl | exact e.1, .cons ?_ h2⟩
          rw [e.1]
          split
          · exact i
          · exact r1
  · rw [if_neg c, if_neg c]
    simp only [List.map_append, List.map_cons, List.map_nil]
    exact ⟨by rw [e], r.append (.cons i .nil)⟩
end
/-- d[k]: there -/
def wDGet : W2 := fun x y μ P => match x with
  | .obj a => match μ a with
    | some (.dct kvs) => atW (keyD y) fun k => atW (valD kvs k) fun d => P d μ
    | _ => False
  | .dct kvs => atW (keyD y) fun k => atW (valD kvs k) fun d => P d μ
  | _ => False
def wDPut (wd wk wv : WE) : WS := fun E ρ μ => wv ρ μ fun v μ1 => wd ρ μ1 fun x μ2 => wk ρ μ2 fun y μ3 => match x with
  | .obj a => match μ3 a with
    | some (.dct kvs) => atW (keyD y) fun k => kvs.length < sizeLine ∧ E.nx ρ (updM μ3 a (.dct (putD kvs k v)))
    | _ => False
  | _ => False
def wPop : W1 := fun x μ P => match x with
  | .obj a => match μ a with
    | some (.lst ds) => atW ds[ds.length - 1]? fun y => P y (updM μ a (.lst ds.dropLast))
    | _ => False
  | _ => False
/-- a list, as it stands when the receiver is asked -/
def isLstM (x : DV) (μ : Mh) : Prop := match x with
  | .obj a => match μ a with | some (.lst _) => True | _ => False
  | _ => False
def wApp (wo we : WE) : WE := fun ρ μ P => wo ρ μ fun x μ1 => isLstM x μ1 ∧ we ρ μ1 fun y μ2 => match x with
  | .obj a => match μ2 a with
    | some (.lst ds) => ds.length < sizeLine ∧ P .none (updM μ2 a (.lst (ds ++ [y])))
    | _ => False
  | _ => False
def extW (ds : List DV) (y : DV) (Q : List DV → Prop) : Prop := match y with
  | .lst es => ds.length + es.length ≤ sizeLine ∧ Q (ds ++ es)
  | _ => False
def wExt (wo we : WE) : WE := fun ρ μ P => wo ρ μ fun x μ1 => isLstM x μ1 ∧ we ρ μ1 fun y μ2 => match x with
  | .obj a => match μ2 a with
    | some (.lst ds) => extW ds y fun zs => P .none (updM μ2 a (.lst zs))
    | _ => False
  | _ => False
section
variable {X : Cx} {e ke ve oe : Expr} {pos apos : Pos} {w wd wk wv wo we : WE}
theorem dget_core {K : PySem.W.Frag} {R : Hp} {μ : Mh} {H : Hp} {v u : V} {x y : DV} {P : DV → Mh → Prop} (o : Ok K R μ H) (i : Is K (hid R μ H) v x) (j : Is K (hid R μ H) u y) (w : wDGet x y μ P) : ∃ a z d, v = .ref a ∧ DGet H a u (some z) ∧ Is K (hid R μ H) z d ∧ P d μ := by
  cases i with
  | obj a =>
    have w' : (match μ a with | some (.dct kvs) => atW (keyD y) fun k => atW (valD kvs k) fun d => P d μ | _ => False) := w
    split at w'
    · rename_i kvs e
      obtain ⟨k, h1, w2⟩ := atW_of w'
      obtain ⟨d, h2, w3⟩ := atW_of w2
      obtain ⟨ks, h3, h4, h5⟩ := o.ob a _ e
      obtain ⟨z, h6, h7⟩ := Iss.val h4 h5 h2
      exact ⟨a, z, d, rfl, by rw [keyD_of j h1, ← h6]; exact DGet.k h3, h7, w3⟩
    · exact w'.elim
  | dct h4 h5 h6 =>
    obtain ⟨k, h1, w2⟩ := atW_of (show atW (keyD y) _ from w)
    obtain ⟨d, h2, w3⟩ := atW_of w2
    obtain ⟨z, h7, h8⟩ := Iss.val h5 h6 h2
    exact ⟨_, z, d, rfl, by rw [keyD_of j h1, ← h7]; exact DGet.k (hid_le _ _ h4), h8, w3⟩
  | _ => exact (show False from w).elim
theorem d_dget {k : Nat} (hr : Room k X.A) (ho : PE X oe (tD X.K wo)) (hi : PE X ke (tD X.K wk)) (hs : NoSl ke := by exact fun _ _ => rfl) : PE X (.Subscript oe ke pos) (tD X.K (wBin wDGet wo wk)) :=
  PE.imp (pe_dget (by have := hr.un; omega) ho hi hs) fun σ H Q ⟨R, ρ, μ, P, a, w, k⟩ => ⟨R, ρ, μ, _, a, w, fun x μ1 v H1 p1 o1 s1 i1 => ⟨R, ρ, μ1, _, a.step o1 s1, p1, fun y μ2 u H2 p2 o2 s2 i2 => by
    obtain ⟨b, z, d, e, g, i3, p3⟩ := dget_core o2 (i1.mono s2) i2 p2
    exact ⟨b, z, e, g, (k.step (s1.trans s2)).val o2 p3 i3⟩⟩⟩
theorem ds_dput {k : Nat} {pos' : Pos} (hr : Room k X.A) (ho : PE X oe (tD X.K wd)) (hi : PE X ke (tD X.K wk)) (hv : PE X ve (tD X.K wv)) (hs : swapsWith ve (some (.Subscript oe ke pos')) pos.line X.env = pure false := by rfl) : PS X (.Assign [.Subscript oe ke pos'] ve pos) (tDS X.K (wDPut wd wk wv)) :=
  PS.imp (ps_dput (by have := hr.un; omega) ho hi hv hs) fun D σ H ⟨R, ρ, μ, E, a, w, k⟩ => ⟨R, ρ, μ, _, a, w, fun v μ1 vv H1 p1 o1 s1 i1 => ⟨R, ρ, μ1, _, a.step o1 s1, p1, fun x μ2 xv H2 p2 o2 s2 i2 => ⟨R, ρ, μ2, _, a.step o2 (s1.trans s2), p2, fun y μ3 yv H3 p3 o3 s3 i3 => by
    cases i2 with
    | obj b =>
      have p3' : (match μ3 b with | some (.dct kvs) => atW (keyD y) fun k => kvs.length < sizeLine ∧ E.nx ρ (updM μ3 b (.dct (putD kvs k v))) | _ => False) := p3
      split at p3'
      · rename_i kvs e
        obtain ⟨key, h1, hl, w3⟩ := atW_of p3'
        obtain ⟨ks, h3, h4, h5⟩ := o3.ob b _ e
        obtain ⟨h6, h7⟩ := Iss.put (k := key) h4 h5 (i1.mono (s2.trans s3))
        obtain ⟨o4, e4⟩ := o3.setM (o := .dK (putK ks key vv)) (m := .dct (putD kvs key v)) e (by intro z; cases z) ⟨_, upd_same, h6, h7⟩
        have hlen : ks.length = kvs.length := by have := congrArg List.length h4; simpa using this
        refine ⟨b, _, rfl, by rw [keyD_of i3 h1]; exact DPut.k h3 (by rw [hlen]; exact hl), k.nx ρ _ σ _ w3 ⟨o4, ?_⟩ ?_⟩
        · rw [e4]
          exact a.sl.mono ((s1.trans s2).trans s3)
        · rw [e4]
          exact (s1.trans s2).trans s3
      · exact p3'.elim
    | _ => exact (show False from p3).elim⟩⟩⟩
theorem d_pop (ho : PE X oe (tD X.K wo)) (hbase : attributeBase oe "pop" X.env (eval oe X.env) = eval oe X.env := by rfl) (hline : (apos.endLine == pos.line) = true := by rfl) : PE X (.Call (.Attribute oe "pop" apos) [] [] pos) (tD X.K (wUn wPop wo)) :=
  PE.imp (pe_bm0 PySem.F.plainAttrs_list PySem.F.slot_list_pop PySem.F.type_list_pop mt_pop ho hbase hline) fun σ H Q ⟨R, ρ, μ, P, a, w, k⟩ => ⟨R, ρ, μ, _, a, w, fun x μ1 v H1 p1 o1 s1 i1 => by
    cases i1 with
    | obj b =>
      have p1' : (match μ1 b with | some (.lst ds) => atW ds[ds.length - 1]? fun y => P y (updM μ1 b (.lst ds.dropLast)) | _ => False) := p1
      split at p1'
      · rename_i ds e
        obtain ⟨y, hy, w2⟩ := atW_of p1'
        obtain ⟨xs, h3, h4⟩ := o1.ob b _ e
        have hl := h4.length
        obtain ⟨z, h5, h6⟩ := h4.get hy
        have hd : Iss X.K (hid R μ1 H1) xs.dropLast ds.dropLast := by
          rw [List.dropLast_eq_take, List.dropLast_eq_take, hl]
          exact h4.take _
        obtain ⟨o4, e4⟩ := o1.setM (o := .lst xs.dropLast) (m := .lst ds.dropLast) e (by intro z; cases z) ⟨_, upd_same, hd⟩
        refine ⟨.inl ⟨rfl, _, SqL.of h3⟩, b, xs, z, rfl, rfl, h3, by rw [hl]; exact h5, k _ _ _ _ w2 o4 ?_ ?_⟩
        · rw [e4]; exact s1
        · rw [e4]; exact h6
      · exact p1'.elim
    | _ => exact (show False from p1).elim⟩
theorem isLstM_of {K : PySem.W.Frag} {R : Hp} {μ : Mh} {H : Hp} {v : V} {x : DV} (o : Ok K R μ H) (i : Is K (hid R μ H) v x) (h : isLstM x μ) : ∃ b, x = .obj b ∧ v = .ref b ∧ tyV K "list" v H := by
  cases i with
  | obj b =>
    have h' : (match μ b with | some (.lst _) => True | _ => False) := h
    split at h'
    · rename_i ds e
      obtain ⟨xs, h3, h4⟩ := o.ob b _ e
      exact ⟨b, rfl, rfl, .inl ⟨rfl, _, SqL.of h3⟩⟩
    · exact h'.elim
  | _ => exact (show False from h).elim
theorem d_append (ho : PE X oe (tD X.K wo)) (he : PE X e (tD X.K we)) (hs : starEach [e] X.env = [(false, eval e X.env)] := by rfl) (hbase : attributeBase oe "append" X.env (eval oe X.env) = eval oe X.env := by rfl)
    (hfew : ((backTo pos (starEach [e] X.env)).all (fun x => !x.1) && (backToKw pos (keywordEach [] X.env)).all (fun x => x.1.isSome) && decide (([e] : List Expr).length + ([] : List Keyword).length + (if ([] : List Keyword).isEmpty then 0 else 1) < 30)) = true := by rfl) (hline : (apos.endLine == pos.line) = true := by rfl) : PE X (.Call (.Attribute oe "append" apos) [e] [] pos) (tD X.K (wApp wo we)) :=
  PE.imp (pe_bm PySem.F.plainAttrs_list PySem.F.slot_list_append PySem.F.type_list_append mt_append ho (pa_cons he pa_nil hs) hbase hfew hline hs) fun σ H Q ⟨R, ρ, μ, P, a, w, k⟩ => ⟨R, ρ, μ, _, a, w, fun x μ1 v H1 p1 o1 s1 i1 => by
    obtain ⟨b, rfl, rfl, ht⟩ := isLstM_of o1 i1 p1.1
    refine ⟨ht, R, ρ, μ1, _, a.step o1 s1, p1.2, fun y μ2 u H2 p2 o2 s2 i2 => ?_⟩
    have p2' : (match μ2 b with | some (.lst ds) => ds.length < sizeLine ∧ P .none (updM μ2 b (.lst (ds ++ [y]))) | _ => False) := p2
    split at p2'
    · rename_i ds e
      obtain ⟨xs, h3, h4⟩ := o2.ob b _ e
      obtain ⟨o4, e4⟩ := o2.setM (o := .lst (xs ++ [u])) (m := .lst (ds ++ [y])) e (by intro z; cases z) ⟨_, upd_same, h4.append (.cons i2 .nil)⟩
      refine ⟨b, xs, u, rfl, rfl, h3, by rw [h4.length]; exact p2'.1, k _ _ _ _ p2'.2 o4 ?_ .none⟩
      rw [e4]
      exact s1.trans s2
    · exact p2'.elim⟩
theorem d_extend (ho : PE X oe (tD X.K wo)) (he : PE X e (tD X.K we)) (hs : starEach [e] X.env = [(false, eval e X.env)] := by rfl) (hbase : attributeBase oe "extend" X.env (eval oe X.env) = eval oe X.env := by rfl)
    (hfew : ((backTo pos (starEach [e] X.env)).all (fun x => !x.1) && (backToKw pos (keywordEach [] X.env)).all (fun x => x.1.isSome) && decide (([e] : List Expr).length + ([] : List Keyword).length + (if ([] : List Keyword).isEmpty then 0 else 1) < 30)) = true := by rfl) (hline : (apos.endLine == pos.line) = true := by rfl) : PE X (.Call (.Attribute oe "extend" apos) [e] [] pos) (tD X.K (wExt wo we)) :=
  PE.imp (pe_bm PySem.F.plainAttrs_list PySem.F.slot_list_extend PySem.F.type_list_extend mt_extend ho (pa_cons he pa_nil hs) hbase hfew hline hs) fun σ H Q ⟨R, ρ, μ, P, a, w, k⟩ => ⟨R, ρ, μ, _, a, w, fun x μ1 v H1 p1 o1 s1 i1 => by
    obtain ⟨b, rfl, rfl, ht⟩ := isLstM_of o1 i1 p1.1
    refine ⟨ht, R, ρ, μ1, _, a.step o1 s1, p1.2, fun y μ2 u H2 p2 o2 s2 i2 => ?_⟩
    have p2' : (match μ2 b with | some (.lst ds) => extW ds y fun zs => P .none (updM μ2 b (.lst zs)) | _ => False) := p2
    split at p2'
    · rename_i ds e
      obtain ⟨xs, h3, h4⟩ := o2.ob b _ e
      cases i2 with
      | lst h5 h6 =>
        obtain ⟨o4, e4⟩ := o2.setM (o := .lst (xs ++ _)) (m := .lst (ds ++ _)) e (by intro z; cases z) ⟨_, upd_same, h4.append h6⟩
        refine ⟨b, _, xs, _, rfl, rfl, h3, hid_le _ _ h5, by rw [h4.length, h6.length]; exact p2'.1, k _ _ _ _ p2'.2 o4 ?_ .none⟩
        rw [e4]
        exact s1.trans s2
      | _ => exact (show False from p2').elim
    · exact p2'.elim⟩
end
end Dz

set_option Elab.async false
set_option linter.all false
set_option maxRecDepth 100000
set_option maxHeartbeats 4000000
/-! Dz8: defs of the text by name: where they stand, and what they promise. -/
namespace Dz
open PySem L2

/-- a def of the text stands under its name -/
def At1 (K : PySem.W.Frag) (mg : Str → Option Value) (x : Str) (st : Stmt) : Prop := ∃ f fd, mg x = some (.ref f) ∧ Fun K x x st f fd
/-- .. and keeps a promise over data, by at most level k -/
def Def (P : Program) (w : World) (K : PySem.W.Frag) (mg : Str → Option Value) (base : Heap) (k : Nat) (x : Str) (st : Stmt) (ps : List Str) (wf : WF) : Prop :=
  ∃ f fd, mg x = some (.ref f) ∧ Fun K x x st f fd ∧ FnG P w K mg base k f fd ps (spD K ps.length wf)
theorem Def.mono {P : Program} {w : World} {K : PySem.W.Frag} {mg : Str → Option Value} {base : Heap} {j k : Nat} {x : Str} {st : Stmt} {ps : List Str} {wf : WF} (h : Def P w K mg base j x st ps wf) (l : j ≤ k) : Def P w K mg base k x st ps wf :=
  let ⟨f, fd, a, b, c⟩ := h; ⟨f, fd, a, b, c.mono l⟩
/-- never called -/
def wfNo : WF := fun _ _ _ => False
theorem Def.no {P : Program} {w : World} {K : PySem.W.Frag} {mg : Str → Option Value} {base : Heap} {k : Nat} {x : Str} {st : Stmt} {ps : List Str} (h : At1 K mg x st) : Def P w K mg base k x st ps wfNo := by
  obtain ⟨f, fd, a, b⟩ := h
  exact ⟨f, fd, a, b, fun vs H Q E ⟨_, _, _, _, _, _, _, z, _⟩ => z.elim, fun A fr s H ar us vs Q E _ _ _ _ _ ⟨_, _, _, _, _, _, _, z, _⟩ => z.elim⟩
theorem Def.imp {P : Program} {w : World} {K : PySem.W.Frag} {mg : Str → Option Value} {base : Heap} {k : Nat} {x : Str} {st : Stmt} {ps : List Str} {wf wf' : WF} (h : Def P w K mg base k x st ps wf) (i : ∀ ds μ Q, wf' ds μ Q → wf ds μ Q) : Def P w K mg base k x st ps wf' := by
  obtain ⟨f, fd, a, b, c⟩ := h
  refine ⟨f, fd, a, b, fun vs H Q E ⟨R, ds, μ, P', h1, h2, h3, h4, h5⟩ => c.len vs H Q E ⟨R, ds, μ, P', h1, h2, h3, i _ _ _ h4, h5⟩, fun A fr s H ar us vs Q E g r e bb v ⟨R, ds, μ, P', h1, h2, h3, h4, h5⟩ => c.run A fr s H ar us vs Q E g r e bb v ⟨R, ds, μ, P', h1, h2, h3, i _ _ _ h4, h5⟩⟩
/-- the rule for a def: its body's reading, and that the promise gives it -/
theorem def_of {P : Program} {w0 : World} {K : PySem.W.Frag} {mg : Str → Option Value} {base : Heap} {x : Str} {st : Stmt} {N ps : List Str} {k : Nat} {w : WS} {wf : WF} (h : At1 K mg x st) (S : FnScope N ps (defScope st))
    (hb : ∀ (f : Addr) (cdv : Value) (A : Around) (outer : List Env) (s : Shared) (H : Hp) (E : XK), A.guards = some [] → Room k (A.deeper (PyProof.Rows.envOfC x (defScope st) s.heap.objs.size f cdv)) →
      PSs (cxOf CX0 P w0 K mg base N x (defScope st) f cdv A outer s H E).nox (defBody st) (tDS K w))
    (hw : ∀ ds μ Q, ds.length = ps.length → wf ds μ Q → w { nx := fun _ μ' => Q .none μ', rt := Q } (ds.map some ++ List.replicate (N.length - ps.length) none) μ) : Def P w0 K mg base (k + 1) x st ps wf := by
  obtain ⟨f, fd, a, F⟩ := h
  exact ⟨f, fd, a, F, fn_dat F S rfl (hb f) hw⟩
section
variable {X : Cx} {k j n : Nat} {st : Stmt} {ps : List Str} {wf : WF} {x : Str} {p pos : Pos} {e : Expr} {es : List Expr} {wa wk : WA}
/-- f(e, ..): hb is «fun _ _ _ _ _ _ us hl => match us, hl with | [_, _], _ => rfl» -/
theorem d_f (D : Def X.prog X.w X.K X.mg X.base k x st ps wf) (hgd : X.A.guards = some []) (hr : Room j X.A) (hk : k ≤ j) (hg : Gl X x)
    (hb : ∀ (kV doc pm : Value) (an : Option Addr) (cdv ct : Value) (us : List Value), us.length = ps.length → bindArgs (PySem.W.fnOf x x (defArgs st) (defBody st) (defScope st) .none kV doc pm an cdv ct) ⟨us, []⟩ = pure (ps.zip us))
    (ha : PA X (e :: es) (tDA X.K wa)) (hd : (x == ("__debug__" : Str)) = false := by decide) (he : starEach (e :: es) X.env = (false, eval e X.env) :: starEach es X.env := by rfl) (hpl : (backTo pos (starEach es X.env)).any (·.1) = false := by rfl) (hn : ps.length = n := by rfl) :
    PE X (.Call (.Name x p) (e :: es) [] pos) (tD X.K (wCall n wf wa)) := by
  subst hn
  obtain ⟨f, fd, hm, F, G⟩ := D
  exact d_call G hgd (hr.mono hk) hg hm F.kp (F.binds hb) ha hd he hpl
theorem d_f0 (D : Def X.prog X.w X.K X.mg X.base k x st ps wf) (hgd : X.A.guards = some []) (hr : Room j X.A) (hk : k ≤ j) (hg : Gl X x)
    (hb : ∀ (kV doc pm : Value) (an : Option Addr) (cdv ct : Value) (us : List Value), us.length = ps.length → bindArgs (PySem.W.fnOf x x (defArgs st) (defBody st) (defScope st) .none kV doc pm an cdv ct) ⟨us, []⟩ = pure (ps.zip us)) (hd : (x == ("__debug__" : Str)) = false := by decide) (hn : ps.length = n := by rfl) :
    PE X (.Call (.Name x p) [] [] pos) (tD X.K (wCall n wf wNil)) := by
  subst hn
  obtain ⟨f, fd, hm, F, G⟩ := D
  exact d_call0 G hgd (hr.mono hk) hg hm F.kp (F.binds hb) hd
/-- keywords in another order -/
def perm {α : Type} (ix : List Nat) (l : List α) : List α := ix.filterMap fun i => l[i]?
theorem perm_vals {vs : List V} {us : List Value} (r : Vals vs us) : ∀ ix : List Nat, Vals (perm ix vs) (perm ix us)
  | [] => .nil
  | i :: ix => by
    have h := perm_vals r ix
    unfold perm at h ⊢
    rw [List.filterMap_cons, List.filterMap_cons]
    cases e : vs[i]? with
    | none =>
      rw [r.none_of e]
      exact h
    | some v =>
      obtain ⟨u, e2, ru⟩ := r.get e
      rw [e2]
      exact .cons ru h
theorem perm_iss {K : PySem.W.Frag} {H : Hp} {vs : List V} {ds : List DV} (r : Iss K H vs ds) : ∀ ix : List Nat, Iss K H (perm ix vs) (perm ix ds)
  | [] => .nil
  | i :: ix => by
    have h := perm_iss r ix
    unfold perm at h ⊢
    rw [List.filterMap_cons, List.filterMap_cons]
    cases e : ds[i]? with
    | none =>
      have : vs[i]? = none := by
        rw [List.getElem?_eq_none_iff] at e ⊢
        rw [r.length]
        exact e
      rw [this]
      exact h
    | some d =>
      obtain ⟨v, e2, rv⟩ := r.get e
      rw [e2]
      exact .cons rv h
def wCallP (n : Nat) (wf : WF) (ix : List Nat) (wk : WA) : WE := fun ρ μ P => wk ρ μ fun ds μ1 => (perm ix ds).length = n ∧ wf (perm ix ds) μ1 P
/-- f(k = e, ..), keywords alone; ix: which keyword stands at each parameter -/
theorem d_fK {ks : List Str} {kws : List Keyword} (ix : List Nat) (D : Def X.prog X.w X.K X.mg X.base k x st ps wf) (hgd : X.A.guards = some []) (hr : Room j X.A) (hk : k ≤ j) (hg : Gl X x)
    (hb : ∀ (kV doc pm : Value) (an : Option Addr) (cdv ct : Value) (ws : List Value), (perm ix ws).length = ps.length → bindArgs (PySem.W.fnOf x x (defArgs st) (defBody st) (defScope st) .none kV doc pm an cdv ct) ⟨[], ks.zip ws⟩ = pure (ps.zip (perm ix ws)))
    (hkw : PK X kws (tDA X.K wk)) (hall : (backToKw pos (keywordEach kws X.env)).all (·.1.isSome) = true := by rfl) (hks : (backToKw pos (keywordEach kws X.env)).filterMap (·.1) = ks := by rfl) (hdb : (x == ("__debug__" : Str)) = false := by decide)
    (hpl : ((backTo pos (starEach [] X.env)).any (·.1) || (backToKw pos (keywordEach kws X.env)).any (·.1.isNone)) = false := by rfl) (hn : ps.length = n := by rfl) : PE X (.Call (.Name x p) [] kws pos) (tD X.K (wCallP n wf ix wk)) := by
  subst hn
  obtain ⟨f, fd, hm, F, G⟩ := D
  obtain ⟨oc, od, kV, doc, pm, an, cdv, ct, osl, efd, lk, hcd⟩ := F.ex
  refine ⟨fun pins s σ H Q I h => ?_⟩
  obtain ⟨R, ρ, μ, P, a, w, kk⟩ := h
  refine wpAny_Call_Name_kw (ld_glob I hg hm (PySem.W.callWith_KW0 (h₀ := X.base) I.ok.mod.kin F.kp hall (thn (hkw.run pos pins s σ H (fun vs H' => spD X.K ps.length wf (perm ix vs) H' Q E0) I ⟨R, ρ, μ, _, a, w, fun ds μ1 vs H1 p1 o1 s1 i1 =>
    ⟨R, perm ix ds, μ1, P, o1, perm_iss i1 ix, p1.1, p1.2, kk.step s1⟩⟩) fun us s2 ⟨zs, H2, I2, rz, q2⟩ => ⟨I2.kIn, ?_⟩) hpl) hdb)
  rw [hks]
  have rr : Vals (perm ix zs) (perm ix us) := perm_vals rz ix
  refine runG (ar := ⟨[], ks.zip us⟩) G hgd (hr.mono hk) I2 ?_ rr q2
  rw [efd]
  exact .of_eq (hb kV doc pm an cdv ct us (by rw [← rr.length]; exact G.len _ _ _ _ q2))
end
end Dz

set_option Elab.async false
set_option linter.all false
set_option maxRecDepth 100000
set_option maxHeartbeats 4000000
/-! Dz9: xs[::-1]; dicts written with many pairs; new objects out of things set aside. -/
namespace Dz
open PySem L2
section
variable {K : PySem.W.Frag} {R : Hp} {μ : Mh} {H : Hp} {p : Addr} {o o' : HO} {m : MO}
/-- what was set aside becomes an object that may change -/
theorem Ok.promote (k : Ok K (upd R p o) μ H) (rn : R p = none) (hm : MOk K (hid (upd R p o) μ H) (upd H p o') (updM μ p m) p m) : Ok K R (updM μ p m) (upd H p o') ∧ hid R (updM μ p m) (upd H p o') = hid (upd R p o) μ H := by
  have mn : μ p = none := k.dj p o upd_same
  have eh : hid R (updM μ p m) (upd H p o') = hid (upd R p o) μ H := by
    funext b
    by_cases z : b = p
    · subst z
      have h1 : hid R (updM μ b m) (upd H b o') b = none := by
        unfold hid
        rw [if_neg fun q => by rw [updM_same] at q; exact Bool.false_ne_true q.2]
      have h2 : hid (upd R b o) μ H b = none := by
        unfold hid
        rw [if_neg fun q => by rw [upd_same] at q; exact Bool.false_ne_true q.1]
      rw [h1, h2]
    · unfold hid
      rw [updM_ne z, upd_ne z, upd_ne z]
  refine ⟨⟨fun a u e => ?_, fun a u e => ?_, fun a u e => ?_⟩, eh⟩
  · have z : a ≠ p := fun z => by subst z; rw [rn] at e; cases e
    rw [upd_ne z]
    exact k.fr a u (by rw [upd_ne z]; exact e)
  · have z : a ≠ p := fun z => by subst z; rw [rn] at e; cases e
    rw [updM_ne z]
    exact k.dj a u (by rw [upd_ne z]; exact e)
  · rw [eh]
    by_cases z : a = p
    · subst z
      rw [updM_same] at e
      cases e
      exact hm
    · rw [updM_ne z] at e
      refine (k.ob a u e).mono (Same.refl _) (upd_ne z) (fun b hb => ?_) e (fun b q => ?_)
      · rw [e] at hb
        cases u with
        | ext near φ =>
          obtain ⟨_, _, hn, _⟩ := k.ob a _ e
          refine upd_ne fun y => ?_
          subst y
          have := hn _ hb
          rw [mn] at this
          cases this
        | _ => cases hb
      · rw [updM_ne fun y => by subst y; rw [mn] at q; cases q]
        exact q
end
/-! ### pairs -/
abbrev trsD (K : PySem.W.Frag) (ws : List (Key × WE)) : List (TE × TE) := ws.map fun kw => (tC (kV kw.1), tD K kw.2)
theorem pairs_imp {K : PySem.W.Frag} {R : Hp} {σ : St} {ρ : Rho} : ∀ (ws : List (Key × WE)) {μ : Mh} {H : Hp} {P : List (Key × DV) → Mh → Prop} {Q : List (V × V) → Hp → Prop}, At K R σ ρ μ H → wPairs ws ρ μ P →
    (∀ (ds : List (Key × DV)) μ' (kvs : List (Key × V)) H', P ds μ' → Ok K R μ' H' → Same (hid R μ H) (hid R μ' H') → kvs.map (·.1) = ws.map (·.1) → kvs.map (·.1) = ds.map (·.1) → Iss K (hid R μ' H') (kvs.map (·.2)) (ds.map (·.2)) → Q (kvs.map fun kv => (kV kv.1, kv.2)) H') → tPairs (trsD K ws) σ H Q
  | [], μ, H, P, Q, a, w, k => k [] μ [] H w a.ok (Same.refl _) rfl rfl .nil
  | (key, w1) :: ws, μ, H, P, Q, a, w, k => by
    show tD K w1 σ H _
    exact ⟨R, ρ, μ, _, a, w, fun d μ1 v H1 p1 o1 s1 i1 => pairs_imp ws (a.step o1 s1) p1 fun ds μ2 kvs H2 p2 o2 s2 e1 e2 i2 =>
      k ((key, d) :: ds) μ2 ((key, v) :: kvs) H2 p2 o2 (s1.trans s2) (by rw [List.map_cons, List.map_cons, e1]) (by rw [List.map_cons, List.map_cons, e2]) (.cons (i1.mono s2) i2)⟩
theorem putK_new {kvs : List (Key × V)} {k : Key} {v : V} (h : k ∉ kvs.map (·.1)) : putK kvs k v = kvs ++ [(k, v)] := by
  unfold putK
  rw [if_neg]
  intro z
  rw [List.any_eq_true] at z
  obtain ⟨x, hx, e⟩ := z
  exact h (List.mem_map.mpr ⟨x, hx, of_decide_eq_true e⟩)
theorem mergeK_new : ∀ (more acc : List (Key × V)), ((acc ++ more).map (·.1)).Nodup → mergeK acc more = acc ++ more
  | [], acc, _ => by rw [List.append_nil]; rfl
  | p :: r, acc, h => by
    show mergeK (putK acc p.1 p.2) r = _
    have h' := h
    rw [List.map_append, List.map_cons, List.nodup_append] at h'
    rw [putK_new (fun z => h'.2.2 _ z _ List.mem_cons_self rfl)]
    have e : acc ++ [(p.1, p.2)] ++ r = acc ++ p :: r := by simp
    rw [mergeK_new r _ (by rw [e]; exact h), e]
section
variable {X : Cx} {pos : Pos} {keys : List (Option Expr)} {values : List Expr}
/-- {k: v, ..}, read alone -/
theorem d_dctN (ws : List (Key × WE)) (h : PPs X pos keys values (trsD X.K ws)) (hall : keys.all (·.isSome) = true := by rfl) (hl : keys.length = values.length := by rfl) (h0 : keys ≠ [] := by intro z; cases z)
    (h15 : keys.length ≤ 15 := by decide) (hw : ws.length ≤ 15 := by decide) (hn : (ws.map (·.1)).Nodup := by decide) : PE X (.Dict keys values pos) (tD X.K (wDct ws)) :=
  PE.imp (pe_disp h hall hl h0 h15) fun σ H Q ⟨R, ρ, μ, P, a, w, k⟩ => fun p n => by
    obtain ⟨o1, e1⟩ := a.ok.frame (o := .dK []) n
    refine pairs_imp ws ⟨o1, by rw [e1]; exact a.sl⟩ w fun ds μ1 kvs H1 p1 o2 s2 e2 e3 i2 => ⟨o2.fr p _ upd_same, kvs, rfl, ?_, ?_⟩
    · have := congrArg List.length e2
      rw [List.length_map, List.length_map] at this
      omega
    have rn := a.ok.freeR n
    rw [e1] at s2
    rw [mergeK_new _ _ (by rw [List.nil_append, e2]; exact hn), List.nil_append]
    obtain ⟨o3, e4⟩ := o2.reframe (o' := .dK kvs)
    obtain ⟨o4, s4, h4⟩ := o3.unframe rn
    rw [e4] at s4
    exact k _ μ1 _ _ p1 o4 (s2.trans s4) (.dct h4 e3 (i2.mono s4))
/-- {k: v, ..} that will change -/
def wDctM (ws : List (Key × WE)) : WE := fun ρ μ P => wPairs ws ρ μ fun ds μ1 => ∀ p, μ1 p = none → P (.obj p) (updM μ1 p (.dct ds))
theorem d_dctM (ws : List (Key × WE)) (h : PPs X pos keys values (trsD X.K ws)) (hall : keys.all (·.isSome) = true := by rfl) (hl : keys.length = values.length := by rfl) (h0 : keys ≠ [] := by intro z; cases z)
    (h15 : keys.length ≤ 15 := by decide) (hw : ws.length ≤ 15 := by decide) (hn : (ws.map (·.1)).Nodup := by decide) : PE X (.Dict keys values pos) (tD X.K (wDctM ws)) :=
  PE.imp (pe_disp h hall hl h0 h15) fun σ H Q ⟨R, ρ, μ, P, a, w, k⟩ => fun p n => by
    obtain ⟨o1, e1⟩ := a.ok.frame (o := .dK []) n
    refine pairs_imp ws ⟨o1, by rw [e1]; exact a.sl⟩ w fun ds μ1 kvs H1 p1 o2 s2 e2 e3 i2 => ⟨o2.fr p _ upd_same, kvs, rfl, ?_, ?_⟩
    · have := congrArg List.length e2
      rw [List.length_map, List.length_map] at this
      omega
    have rn := a.ok.freeR n
    rw [e1] at s2
    rw [mergeK_new _ _ (by rw [List.nil_append, e2]; exact hn), List.nil_append]
    obtain ⟨o3, e4⟩ := o2.promote (o' := .dK kvs) (m := .dct ds) rn ⟨kvs, upd_same, e3, i2⟩
    refine k _ _ _ _ (p1 p (o2.dj p _ upd_same)) o3 ?_ (.obj p)
    rw [e4]
    exact s2
/-! ### xs[::-1] -/
def wRev (w : WE) : WE := fun ρ μ P => w ρ μ fun d μ1 => match d with
  | .lst ds => P (.lst ds.reverse) μ1
  | .fix ds => P (.lst ds.reverse) μ1
  | _ => False
def wRevM (w : WE) : WE := fun ρ μ P => w ρ μ fun d μ1 => match d with
  | .lst ds => ∀ p, μ1 p = none → P (.obj p) (updM μ1 p (.lst ds.reverse))
  | .fix ds => ∀ p, μ1 p = none → P (.obj p) (updM μ1 p (.lst ds.reverse))
  | _ => False
variable {e : Expr} {w : WE} {k1 : Nat} {p1 p2 p3 : Pos}
theorem d_rev (he : PE X e (tD X.K w)) : PE X (.Subscript e (.Slice none none (some (.UnaryOp .USub (.Constant (.int 1) k1 p1) p2)) p3) pos) (tD X.K (wRev w)) :=
  PE.imp (pe_revL he) fun σ H Q ⟨R, ρ, μ, P, a, w, k⟩ => ⟨R, ρ, μ, _, a, w, fun d μ1 v H1 p1 o1 s1 i1 => by
    cases i1 with
    | lst hx rx => exact ⟨_, _, rfl, SqL.of (hid_le _ _ hx), fun p n => (k.step s1).lst o1 p1 rx.reverse n⟩
    | fix hx rx => exact ⟨_, _, rfl, hid_le.seq hx, fun p n => (k.step s1).lst o1 p1 rx.reverse n⟩
    | _ => exact (show False from p1).elim⟩
theorem d_revM (he : PE X e (tD X.K w)) : PE X (.Subscript e (.Slice none none (some (.UnaryOp .USub (.Constant (.int 1) k1 p1) p2)) p3) pos) (tD X.K (wRevM w)) :=
  PE.imp (pe_revL he) fun σ H Q ⟨R, ρ, μ, P, a, w, k⟩ => ⟨R, ρ, μ, _, a, w, fun d μ1 v H1 p1 o1 s1 i1 => by
    have go : ∀ (b : Addr) (xs : List V) (ds : List DV), SqL X.K H1 b xs → Iss X.K (hid R μ1 H1) xs ds → (∀ p, μ1 p = none → P (.obj p) (updM μ1 p (.lst ds.reverse))) → ∃ a xs, V.ref b = .ref a ∧ SqL X.K H1 a xs ∧ ∀ p, H1 p = none → Q (.ref p) (upd H1 p (.lst xs.reverse)) := fun b xs ds hx rx q =>
      ⟨b, xs, rfl, hx, fun p n => by
        have fm := o1.freeM n
        have hs : Same (hid R μ1 H1) (hid R (updM μ1 p (.lst ds.reverse)) (upd H1 p (.lst xs.reverse))) := fun b u e => by
          obtain ⟨e1, e2, e3⟩ := hid_some e
          have ne := ne_of_none e3 n
          rw [hid_at e1 (by rw [updM_ne ne]; exact e2), upd_ne ne]
          exact e3
        obtain ⟨o2, s2⟩ := o1.newM (o := .lst xs.reverse) (m := .lst ds.reverse) n ⟨_, upd_same, rx.reverse.mono hs⟩ (by intro z; cases z)
        exact (k.step s1) _ _ _ _ (q p fm) o2 s2 (.obj p)⟩
    cases i1 with
    | lst hx rx => exact go _ _ _ (SqL.of (hid_le _ _ hx)) rx p1
    | fix hx rx => exact go _ _ _ (hid_le.seq hx) rx p1
    | _ => exact (show False from p1).elim⟩
end
end Dz

set_option Elab.async false
set_option linter.all false
set_option maxRecDepth 100000
set_option maxHeartbeats 2000000
/-! DzD: the deck that the laws draw from: each draw is some number below what is asked. -/
namespace Dz
open PySem L2

/-- a deck that stands at a, its cells at c, good for m draws -/
structure HasDeck (nm : Str) (μ : Mh) (a c : Addr) (m : Nat) : Prop where
  ne : c ≠ a
  ex : ∃ (t n : Int) (cells : List Int), μ a = some (.dct [(.inr "cells", .obj c), (.inr nm, .int t), (.inr "draws", .int n)]) ∧ μ c = some (.lst (cells.map .int)) ∧ 0 ≤ t ∧ t < 2 ^ 32 ∧ 0 ≤ n ∧ n + m ≤ 2 ^ 40 ∧ cells.length ≤ 63
theorem HasDeck.le {nm : Str} {μ : Mh} {a c : Addr} {m m' : Nat} (h : HasDeck nm μ a c m) (l : m' ≤ m) : HasDeck nm μ a c m' := by
  obtain ⟨ne, t, n, cs, h1, h2, h3, h4, h5, h6, h7⟩ := h
  exact ⟨ne, t, n, cs, h1, h2, h3, h4, h5, by omega, h7⟩
theorem HasDeck.keep {nm : Str} {μ μ' : Mh} {a c : Addr} {m : Nat} (h : HasDeck nm μ a c m) (h1 : μ' a = μ a) (h2 : μ' c = μ c) : HasDeck nm μ' a c m := by
  obtain ⟨ne, t, n, cs, e1, e2, r⟩ := h
  exact ⟨ne, t, n, cs, h1.trans e1, h2.trans e2, r⟩
theorem HasDeck.isSome {nm : Str} {μ : Mh} {a c : Addr} {m : Nat} (h : HasDeck nm μ a c m) : (∃ o, μ a = some o) ∧ ∃ o, μ c = some o := by
  obtain ⟨ne, t, n, cs, e1, e2, r⟩ := h
  exact ⟨⟨_, e1⟩, ⟨_, e2⟩⟩
def OnlyDeck (μ μ' : Mh) (a c : Addr) : Prop := ∀ b, b ≠ a → b ≠ c → μ' b = μ b
theorem OnlyDeck.refl {μ : Mh} {a c : Addr} : OnlyDeck μ μ a c := fun _ _ _ => rfl
theorem OnlyDeck.trans {μ μ' μ'' : Mh} {a c : Addr} (h : OnlyDeck μ μ' a c) (h' : OnlyDeck μ' μ'' a c) : OnlyDeck μ μ'' a c := fun b x y => (h' b x y).trans (h b x y)
/-- a draw below many -/
def wfDraw (nm : Str) : WF := fun ds μ Q => ∃ a c m many, ds = [.obj a, .int many] ∧ 0 < many ∧ many < 2 ^ 64 ∧ HasDeck nm μ a c (m + 1) ∧ ∀ r μ', 0 ≤ r → r < many → HasDeck nm μ' a c m → OnlyDeck μ μ' a c → Q (.int r) μ'

abbrev sm (x : Int) : Prop := 0 < x ∧ x < 2 ^ 32
theorem cm_r {i j : Int} (h : sm j) : CMul i j := by unfold sm at h; right; omega
theorem cm_l {i j : Int} (h : sm i) : CMul i j := by unfold sm at h; left; omega
theorem cpow_ten {j : Int} (h : 0 ≤ j) (h' : j ≤ 1000) : CPow 10 j := ⟨h, by omega, by decide⟩

section
variable {μ : Mh} {a : Addr} {kvs : List (Key × DV)} {y d v : DV} {k : Key} {P : DV → Mh → Prop}
theorem dget_o (h : μ a = some (.dct kvs)) (hk : keyD y = some k) (hv : valD kvs k = some d) (q : P d μ) : wDGet (.obj a) y μ P := by
  unfold wDGet
  simp only [h, hk, hv, atW]
  exact q
theorem dput_o {E : DEnds} {ρ : Rho} {i j : Nat} (h : μ a = some (.dct kvs)) (hk : keyD y = some k) (l : kvs.length < sizeLine) (h1 : ρ[i]? = some (some (.obj a))) (h2 : ρ[j]? = some (some v)) (q : E.nx ρ (updM μ a (.dct (putD kvs k v)))) : wDPut (wVar i) (wC y) (wVar j) E ρ μ := by
  unfold wDPut wVar wC
  simp only [h, h1, h2, hk, atW]
  exact ⟨l, q⟩
theorem neL_o {ds : List DV} {es : List DV} (h : μ a = some (.lst ds)) (h1 : shapedD (.lst ds) = true) (h2 : shapedD (.lst es) = true) (q : P (.bool (!deepEq (.lst ds) (.lst es))) μ) : wNeL (.obj a) (.lst es) μ P := by
  show notB wEqL _ _ _ _
  unfold notB wEqL look lookO
  simp only [h]
  exact ⟨h1, h2, q⟩
theorem pop_o {ds : List DV} (h : μ a = some (.lst ds)) (hy : ds[ds.length - 1]? = some y) (q : P y (updM μ a (.lst ds.dropLast))) : wPop (.obj a) μ P := by
  unfold wPop
  simp only [h, hy, atW]
  exact q
end
def wDraw (A B C D E F G I J L M : Int) : WS :=
  (wSeq (wPar 2 3 (wCons (wBin wAdd (wBin wDGet (wVar 0) (wC (.str "draws"))) (wC (.int 1))) (wCons (wBin wDGet (wVar 0) (wC (.str "total"))) wNil)))
    (wSeq (wDPut (wVar 0) (wC (.str "draws")) (wVar 2))
    (wSeq (wIfS (wTest (wBin wNeL (wBin wDGet (wVar 0) (wC (.str "cells"))) (wLst wNil))) (wSeq (wAsg (wUn wPop (wBin wDGet (wVar 0) (wC (.str "cells")))) (wgName 3))
    (wSeq (wIfS (wTest (wBin wGe (wVar 3) (wBin wPow (wC (.int 10)) (wC (.int 18))))) (wSeq (wDrop (wApp (wBin wDGet (wVar 0) (wC (.str "cells"))) (wBin wDiv (wVar 3) (wVar 1))))
    (wRet (wBin wMod (wVar 3) (wVar 1)))) wNext)
    (wAsg (wBin wAdd (wVar 3) (wBin wDGet (wVar 0) (wC (.str "total")))) (wgName 3)))) wNext)
    (wSeq (wAsg (wBin wMod (wBin wMul (wBin wAdd (wBin wAdd (wBin wMod (wVar 3) (wC (.int A))) (wBin wMul (wBin wMul (wC (.int B)) (wVar 2)) (wVar 2))) (wC (.int C))) (wC (.int D))) (wC (.int E))) (wgName 4))
    (wSeq (wAsg (wBin wMod (wBin wAdd (wBin wAdd (wBin wMul (wVar 4) (wVar 4)) (wBin wMul (wC (.int F)) (wVar 2))) (wC (.int G))) (wC (.int I))) (wgName 4))
    (wRet (wBin wMod (wBin wDiv (wBin wMod (wBin wMul (wVar 4) (wC (.int J))) (wC (.int L))) (wC (.int M))) (wVar 1))))))))

theorem canLay_ints : ∀ ns : List Int, PyData.canLayAll0 (toPys (ns.map DV.int)) = true
  | [] => rfl
  | n :: ns => canLay_ints ns
theorem depth_ints : ∀ ns : List Int, PyData.depthAll (toPys (ns.map DV.int)) = 0
  | [] => rfl
  | n :: ns => by
    show max 0 _ = 0
    rw [depth_ints ns]
    rfl
theorem noObjs_ints : ∀ ns : List Int, noObjs (ns.map DV.int) = true
  | [] => rfl
  | n :: ns => noObjs_ints ns
theorem shaped_ints (ns : List Int) : shapedD (.lst (ns.map .int)) = true := by
  have h1 := canLay_ints ns
  have h2 := depth_ints ns
  have h3 := noObjs_ints ns
  show (noObjs (ns.map .int) && (PyData.canLayAll0 (toPys (ns.map .int)) && decide (PyData.depthAll (toPys (ns.map .int)) + 1 ≤ 64))) = true
  rw [h1, h2, h3]
  rfl
/-- the last three rows -/
theorem draw_tail {A B C D E F G I J L M many turn cell : Int} {dk : DV} {μ : Mh} {EE : DEnds} {z : Option DV} (hA : sm A) (hB : sm B) (hD : sm D) (hE : sm E) (hF : sm F) (hI : sm I) (hJ : sm J) (hL : sm L) (hM : sm M) (h1 : 0 ≤ turn) (h2 : turn < 2 ^ 41) (hm : 0 < many)
    (q : ∀ r, 0 ≤ r → r < many → EE.rt (.int r) μ) :
    (wSeq (wAsg (wBin wMod (wBin wMul (wBin wAdd (wBin wAdd (wBin wMod (wVar 3) (wC (.int A))) (wBin wMul (wBin wMul (wC (.int B)) (wVar 2)) (wVar 2))) (wC (.int C))) (wC (.int D))) (wC (.int E))) (wgName 4))
    (wSeq (wAsg (wBin wMod (wBin wAdd (wBin wAdd (wBin wMul (wVar 4) (wVar 4)) (wBin wMul (wC (.int F)) (wVar 2))) (wC (.int G))) (wC (.int I))) (wgName 4))
    (wRet (wBin wMod (wBin wDiv (wBin wMod (wBin wMul (wVar 4) (wC (.int J))) (wC (.int L))) (wC (.int M))) (wVar 1))))) EE [some dk, some (.int many), some (.int turn), some (.int cell), z] μ := by
  have b1 : ∀ x : Int, CMul x turn := fun x => by right; omega
  have bE : ∀ x : Int, CMul (x % E) (x % E) := fun x => by
    left
    have p1 := Int.emod_nonneg x (show E ≠ 0 by omega)
    have p2 := Int.emod_lt_of_pos x hE.1
    omega
  have dM : ∀ x : Int, CDivW x M := fun x => ⟨hM.1, by
    have : M.natAbs < 2 ^ 32 := by omega
    have := (Nat.log2_lt (n := M.natAbs) (k := 9000) (by omega)).mpr (Nat.lt_of_lt_of_le this (Nat.pow_le_pow_right (by decide) (by decide)))
    exact this⟩
  refine ⟨hA.1, cm_l hB, b1 _, cm_r hD, hE.1, bE _, cm_l hF, hI.1, cm_r hJ, hL.1, dM _, hm, q _ (Int.emod_nonneg _ (by omega)) (Int.emod_lt_of_pos _ hm)⟩
theorem draw_ok {A B C D E F G I J L M : Int} (hA : sm A) (hB : sm B) (hD : sm D) (hE : sm E) (hF : sm F) (hI : sm I) (hJ : sm J) (hL : sm L) (hM : sm M) (ds : List DV) (μ : Mh) (Q : DV → Mh → Prop) (hl : ds.length = 2) (h : wfDraw "total" ds μ Q) :
    wDraw A B C D E F G I J L M { nx := fun _ μ' => Q .none μ', rt := Q } (ds.map some ++ List.replicate 3 none) μ := by
  obtain ⟨a, c, m, many, rfl, h0, h64, ⟨ne, t, n, cells, ha, hc, t0, t1, n0, n1, cl⟩, q⟩ := h
  have na : a ≠ c := fun z => ne z.symm
  let μ1 : Mh := updM μ a (.dct [(.inr "cells", .obj c), (.inr "total", .int t), (.inr "draws", .int (n + 1))])
  have ha1 : μ1 a = some (.dct [(.inr "cells", .obj c), (.inr "total", .int t), (.inr "draws", .int (n + 1))]) := updM_same
  have hc1 : μ1 c = some (.lst (cells.map .int)) := (updM_ne ne).trans hc
  have hm1 : CDivW 0 many → True := fun _ => trivial
  have dm : ∀ x : Int, CDivW x many := fun x => ⟨h0, by
    have : many.natAbs < 2 ^ 64 := by omega
    exact (Nat.log2_lt (n := many.natAbs) (k := 9000) (by omega)).mpr (Nat.lt_of_lt_of_le this (Nat.pow_le_pow_right (by decide) (by decide)))⟩
  have fin : ∀ (μ2 : Mh) (cs : List Int), μ2 a = μ1 a → μ2 c = some (.lst (cs.map .int)) → cs.length ≤ 63 → (∀ b, b ≠ a → b ≠ c → μ2 b = μ b) → ∀ r, 0 ≤ r → r < many → Q (.int r) μ2 := fun μ2 cs e1 e2 e3 e4 r r0 r1 =>
    q r μ2 r0 r1 ⟨ne, t, n + 1, cs, e1.trans ha1, e2, t0, t1, by omega, by omega, e3⟩ e4
  have v1 : ∀ x : Int, valD [(.inr "cells", .obj c), (.inr "total", .int t), (.inr "draws", .int x)] (.inr "cells") = some (.obj c) := fun _ => rfl
  have v2 : ∀ x : Int, valD [(.inr "cells", .obj c), (.inr "total", .int t), (.inr "draws", .int x)] (.inr "total") = some (.int t) := fun _ => rfl
  have v3 : ∀ x : Int, valD [(.inr "cells", .obj c), (.inr "total", .int t), (.inr "draws", .int x)] (.inr "draws") = some (.int x) := fun _ => rfl
  have v4 : putD [(.inr "cells", .obj c), (.inr "total", .int t), (.inr "draws", .int n)] (.inr "draws") (.int (n + 1)) = [(.inr "cells", .obj c), (.inr "total", .int t), (.inr "draws", .int (n + 1))] := rfl
  unfold wDraw
  have G1 := @dget_o
  have G2 := @dput_o
  have G3 := @neL_o
  have G4 := @pop_o
  generalize wDGet = g1 at G1 ⊢
  generalize wDPut = g2 at G2 ⊢
  generalize wNeL = g3 at G3 ⊢
  generalize wPop = g4 at G4 ⊢
  refine G1 (y := .str "draws") ha rfl (v3 n) ?_
  refine G1 (y := .str "total") ha rfl (v2 n) ?_
  refine G2 (v := .int (n + 1)) (kvs := [(.inr "cells", .obj c), (.inr "total", .int t), (.inr "draws", .int n)]) ha rfl (Nat.le_of_ble_eq_true rfl) rfl rfl ?_
  rw [v4]
  refine G1 (y := .str "cells") ha1 rfl (v1 _) ?_
  refine ⟨Nat.zero_le _, ?_⟩
  cases cells with
  | nil =>
    refine G3 (es := []) hc1 rfl rfl ?_
    exact draw_tail hA hB hD hE hF hI hJ hL hM (by omega) (by omega) h0 (fin μ1 [] rfl hc1 (Nat.zero_le _) fun b x y => updM_ne x)
  | cons y ys =>
    refine G3 (es := []) hc1 (shaped_ints _) rfl ?_
    refine G1 (y := .str "cells") ha1 rfl (v1 _) ?_
    have hlast : ∃ z, ((y :: ys).map DV.int)[((y :: ys).map DV.int).length - 1]? = some (.int z) := by
      refine ⟨(y :: ys).getLast (by intro z; cases z), ?_⟩
      rw [List.length_map, List.getElem?_map, List.getLast_eq_getElem, List.getElem?_eq_getElem (by simp)]
      rfl
    obtain ⟨z, hz⟩ := hlast
    refine G4 hc1 hz ?_
    have hdl : ((y :: ys).map DV.int).dropLast = (y :: ys).dropLast.map DV.int := by rw [List.map_dropLast]
    have ldl : (y :: ys).dropLast.length ≤ 62 := by rw [List.length_dropLast]; omega
    generalize (y :: ys).dropLast = cs at hdl ldl
    rw [hdl]
    let μ2 : Mh := updM μ1 c (.lst (cs.map .int))
    have ha2 : μ2 a = some (.dct [(.inr "cells", .obj c), (.inr "total", .int t), (.inr "draws", .int (n + 1))]) := (updM_ne na).trans ha1
    have hc2 : μ2 c = some (.lst (cs.map .int)) := updM_same
    refine ⟨cpow_ten (by decide) (by decide), ?_⟩
    cases hge : decide ((10 : Int) ^ 18 ≤ z) with
    | true =>
      have e : decide ((10 : Int) ^ (18 : Int).toNat ≤ z) = true := hge
      show (match decide ((10 : Int) ^ (18 : Int).toNat ≤ z) with | true => _ | false => _)
      rw [e]
      refine G1 (y := .str "cells") ha2 rfl (v1 _) ?_
      refine ⟨?_, dm z, ?_⟩
      · show isLstM (.obj c) μ2
        unfold isLstM
        simp only [hc2]
      · show (match μ2 c with | some (.lst ds) => _ | _ => False)
        rw [hc2]
        refine ⟨by rw [List.length_map, sizeLine_eq]; omega, h0, ?_⟩
        refine fin _ (cs ++ [z / many]) ((updM_ne na).trans ((updM_ne na).trans rfl)) ?_ (by simp; omega) (fun b x y => (updM_ne y).trans ((updM_ne y).trans (updM_ne x))) _ (Int.emod_nonneg _ (by omega)) (Int.emod_lt_of_pos _ h0)
        rw [updM_same, List.map_append]
        rfl
    | false =>
      have e : decide ((10 : Int) ^ (18 : Int).toNat ≤ z) = false := hge
      show (match decide ((10 : Int) ^ (18 : Int).toNat ≤ z) with | true => _ | false => _)
      rw [e]
      refine G1 (y := .str "total") ha2 rfl (v2 _) ?_
      exact draw_tail hA hB hD hE hF hI hJ hL hM (by omega) (by omega) h0 (fin μ2 cs (updM_ne na) hc2 (by omega) fun b x y => (updM_ne y).trans (updM_ne x))

/-! ### the deck made -/
def wDeck (S B A C M : Int) : WS :=
  (wSeq (wPar 1 2 (wCons (wB wList (wCons (wSl (wVar 0) wNoPart (wPart (wC (.int 63)))) wNil)) (wCons (wC (.int S)) wNil)))
    (wSeq (wFor (sLst (wVar 1)) (wgName 3) (wAsg (wBin wMod (wBin wAdd (wBin wAdd (wBin wMul (wVar 2) (wC (.int B))) (wBin wMod (wVar 3) (wC (.int A)))) (wC (.int C))) (wC (.int M))) (wgName 2)))
    (wRet (wDctM [((.inr "cells"), (wRevM (wVar 1))), ((.inr "total"), (wVar 2)), ((.inr "draws"), (wC (.int 0)))]))))
def wfDeck (nm : Str) : WF := fun ds μ Q => ∃ ns : List Int, ds = [.fix (ns.map .int)] ∧ ∀ a c μ', μ a = none → μ c = none → HasDeck nm μ' a c (2 ^ 40) → OnlyDeck μ μ' a c → Q (.obj a) μ'
theorem deck_ok {S B A C M : Int} (hS : 0 ≤ S) (hS2 : S < 2 ^ 32) (hB : sm B) (hA : sm A) (hM : sm M) (ds : List DV) (μ : Mh) (Q : DV → Mh → Prop) (hl : ds.length = 1) (h : wfDeck "total" ds μ Q) :
    wDeck S B A C M { nx := fun _ μ' => Q .none μ', rt := Q } (ds.map some ++ List.replicate 3 none) μ := by
  obtain ⟨ns, rfl, q⟩ := h
  have hcut : cutD (ns.map DV.int) none (some 63) = (ns.take 63).map DV.int := by
    have e0 : HT.sIx (ns.map DV.int).length 0 none = 0 := rfl
    have e1 : min (HT.sIx (ns.map DV.int).length (ns.map DV.int).length (some 63)) (ns.map DV.int).length = min 63 (ns.map DV.int).length := by
      show min (min (63 : Nat) _) _ = _
      omega
    unfold cutD
    rw [e0, List.drop_zero, Nat.sub_zero, List.take_eq_take_min, e1, ← List.take_eq_take_min, List.map_take]
  have hlen : (ns.take 63).length ≤ 63 := by rw [List.length_take]; omega
  have key : ∀ xs : List Int, xs.length ≤ 63 → ∀ t : Int, 0 ≤ t → t < 2 ^ 32 → ∀ z, wRet (wDctM [((.inr "cells"), (wRevM (wVar 1))), ((.inr "total"), (wVar 2)), ((.inr "draws"), (wC (.int 0)))]) { nx := fun _ μ' => Q .none μ', rt := Q } [some (.fix (ns.map .int)), some (.lst (xs.map .int)), some (.int t), z] μ := fun xs hx t t0 t1 z => by
    intro c hc a ha
    have nac : a ≠ c := fun e => by
      subst e
      have : updM μ a _ a = none := ha
      rw [updM_same] at this
      cases this
    have ha' : μ a = none := by
      have h1 : updM μ c _ a = none := ha
      rw [updM_ne nac] at h1
      exact h1
    refine q a c _ ha' hc ⟨fun e => nac e.symm, t, 0, xs.reverse, updM_same, ?_, t0, t1, by omega, by omega, by simp; omega⟩ fun b x y => (updM_ne x).trans (updM_ne y)
    rw [updM_ne fun e => nac e.symm, updM_same, List.map_reverse]
  have loop : ∀ (ys : List Int) (t : Int) (z : Option DV), 0 ≤ t → t < 2 ^ 32 → forW (wgName 3) (wAsg (wBin wMod (wBin wAdd (wBin wAdd (wBin wMul (wVar 2) (wC (.int B))) (wBin wMod (wVar 3) (wC (.int A)))) (wC (.int C))) (wC (.int M))) (wgName 2))
      { nx := wRet (wDctM [((.inr "cells"), (wRevM (wVar 1))), ((.inr "total"), (wVar 2)), ((.inr "draws"), (wC (.int 0)))]) { nx := fun _ μ' => Q .none μ', rt := Q }, rt := Q } (ys.map .int) [some (.fix (ns.map .int)), some (.lst ((ns.take 63).map .int)), some (.int t), z] μ := by
    intro ys
    induction ys with
    | nil => exact fun t z t0 t1 => key _ hlen t t0 t1 z
    | cons y ys ih =>
      intro t z t0 t1
      refine ⟨cm_r hB, hA.1, hM.1, ih _ _ (Int.emod_nonneg _ (by have := hM.1; omega)) (Int.lt_trans (Int.emod_lt_of_pos _ hM.1) hM.2)⟩
  show forW _ _ _ (cutD (ns.map DV.int) none (some 63)) [some (.fix (ns.map .int)), some (.lst (cutD (ns.map DV.int) none (some 63))), some (.int S), none] μ
  rw [hcut]
  exact loop _ S none hS hS2

/-! ### one of some -/
def wPick (f_draw : WF) : WS :=
  (wRet (wBin wIx (wVar 1) (wCall 2 f_draw (wCons (wVar 0) (wCons (wB wLen (wCons (wVar 1) wNil)) wNil)))))
def itemsD : DV → List DV
  | .lst ds => ds
  | .tup ds => ds
  | .str z => signs z
  | _ => []
def wfPick (nm : Str) : WF := fun ds μ Q => ∃ a c m y, ds = [.obj a, y] ∧ 0 < (itemsD y).length ∧ (itemsD y).length ≤ sizeLine ∧ HasDeck nm μ a c (m + 1) ∧ ∀ x μ', x ∈ itemsD y → HasDeck nm μ' a c m → OnlyDeck μ μ' a c → Q x μ'
theorem atI_nat {α : Type} {xs : List α} {r : Int} (h0 : 0 ≤ r) (h1 : r < xs.length) : ∃ x, x ∈ xs ∧ atI xs r = some x := by
  obtain ⟨n, rfl⟩ := Int.eq_ofNat_of_zero_le h0
  have hn : n < xs.length := by omega
  refine ⟨xs[n], List.getElem_mem hn, ?_⟩
  unfold atI ixN
  rw [if_pos h0, if_pos h1]
  show xs[(n : Int).toNat]? = _
  rw [Int.toNat_natCast, List.getElem?_eq_getElem hn]
theorem pick_ok {nm : Str} (ds : List DV) (μ : Mh) (Q : DV → Mh → Prop) (hl : ds.length = 2) (h : wfPick nm ds μ Q) :
    wPick (wfDraw nm) { nx := fun _ μ' => Q .none μ', rt := Q } (ds.map some ++ List.replicate 0 none) μ := by
  obtain ⟨a, c, m, y, rfl, l0, l1, hd, q⟩ := h
  have h64 : sizeLine < 2 ^ 64 := by rw [sizeLine_eq]; decide
  have go : ∀ xs : List DV, 0 < xs.length → xs.length ≤ sizeLine → (∀ r μ', 0 ≤ r → r < (xs.length : Int) → HasDeck nm μ' a c m → OnlyDeck μ μ' a c → wIx y (.int r) μ' Q) → wfDraw nm [.obj a, .int xs.length] μ fun d μ1 => wIx y d μ1 Q :=
    fun xs x0 x1 k => ⟨a, c, m, xs.length, rfl, by omega, by omega, hd, fun r μ' r0 r1 h1 o1 => k r μ' r0 r1 h1 o1⟩
  cases y with
  | lst xs =>
    refine ⟨rfl, go xs l0 l1 fun r μ' r0 r1 h1 o1 => ?_⟩
    obtain ⟨x, hx, e⟩ := atI_nat r0 r1
    show atW (atI xs r) _
    rw [e]
    exact q x μ' hx h1 o1
  | tup xs =>
    refine ⟨rfl, go xs l0 l1 fun r μ' r0 r1 h1 o1 => ?_⟩
    obtain ⟨x, hx, e⟩ := atI_nat r0 r1
    show atW (atI xs r) _
    rw [e]
    exact q x μ' hx h1 o1
  | str z =>
    have el : (signs z).length = z.length := by
      unfold signs
      rw [List.length_map, Array.length_toList]
      rfl
    have l1' : z.length ≤ sizeLine := by
      have : (signs z).length ≤ sizeLine := l1
      omega
    refine ⟨l1', rfl, ?_⟩
    rw [← el]
    refine go (signs z) l0 l1 fun r μ' r0 r1 h1 o1 => ⟨l1', ?_⟩
    have r1' : r < (z.cps.toList.length : Int) := by
      rw [Array.length_toList]
      have : (signs z).length = z.cps.size := el
      omega
    obtain ⟨x, hx, e⟩ := atI_nat r0 r1'
    rw [e]
    exact q _ μ' (List.mem_map.mpr ⟨x, hx, rfl⟩) h1 o1
  | _ => exact absurd l0 (Nat.lt_irrefl 0)
end Dz

set_option Elab.async false
set_option linter.all false
set_option maxRecDepth 100000
set_option maxHeartbeats 2000000
/-! DzS: how great data is, so that repr may show it. -/
namespace Dz
open PySem L2

/-- signs that chr knows -/
def plainS (x : Str) : Bool := x.cps.toList.all fun c => decide (c < 0x110000)
mutual
/-- texts of such signs -/
def plD : DV → Bool
  | .str x => plainS x
  | .tup ds => plDs ds
  | .lst ds => plDs ds
  | .dct kvs => plDk kvs
  | _ => true
def plDs : List DV → Bool
  | [] => true
  | d :: ds => plD d && plDs ds
def plDk : List (Key × DV) → Bool
  | [] => true
  | (.inr x, d) :: r => plainS x && plD d && plDk r
  | (.inl _, d) :: r => plD d && plDk r
end
/-- at most N in bulk, p deep -/
structure Siz (N p : Nat) (d : DV) : Prop where
  no : noObj d = true
  sh : (toPy d).showable = true
  lv : (toPy d).leavesShort 64 = true
  bk : (toPy d).bulk ≤ N
  dp : (toPy d).depth ≤ p
  pl : plD d = true
structure Sizs (N p : Nat) (ds : List DV) : Prop where
  no : noObjs ds = true
  sh : PyData.showableAll (toPys ds) = true
  lv : PyData.leavesShortAll 64 (toPys ds) = true
  bk : PyData.bulkAll (toPys ds) ≤ N
  dp : PyData.depthAll (toPys ds) ≤ p
  pl : plDs ds = true
theorem Siz.le {N N' p p' : Nat} {d : DV} (h : Siz N p d) (hN : N ≤ N') (hp : p ≤ p') : Siz N' p' d := ⟨h.no, h.sh, h.lv, Nat.le_trans h.bk hN, Nat.le_trans h.dp hp, h.pl⟩
theorem Siz.shows {N p : Nat} {d : DV} (h : Siz N p d) (hN : N ≤ 2 ^ 17) (hp : p ≤ 60) : Shows d := by
  refine ⟨h.no, h.sh, ?_, Nat.le_trans h.dp hp⟩
  have h1 := PyData.shown_le_bulk 64 (by decide) (toPy d) h.lv
  have h2 := h.bk
  rw [sizeLine_eq]
  omega
theorem Siz.none : Siz 0 0 .none := ⟨rfl, rfl, rfl, Nat.le_refl _, Nat.le_refl _, rfl⟩
theorem Siz.bool (b : Bool) : Siz 0 0 (.bool b) := ⟨rfl, rfl, rfl, Nat.le_refl _, Nat.le_refl _, rfl⟩
theorem Siz.int {i : Int} (h : i.natAbs < 10 ^ 60) : Siz 0 0 (.int i) := by
  refine ⟨rfl, ?_, ?_, Nat.le_refl _, Nat.le_refl _, rfl⟩
  · show decide (i.natAbs.log2 < 1920) = true
    rw [decide_eq_true_eq]
    by_cases z : i.natAbs = 0
    · rw [z]; decide
    · exact (Nat.log2_lt z).mpr (Nat.lt_of_lt_of_le (Nat.lt_trans h (show 10 ^ 60 < 2 ^ 240 by decide)) (Nat.pow_le_pow_right (by decide) (by decide)))
  · show decide ((PyData.shown (.int i)).length ≤ 64) = true
    rw [decide_eq_true_eq]
    have e := int_text_length_le10 (k := 60) (by decide) h
    show (Str.ofString (toString i)).length ≤ 64
    rw [ofString_length]
    omega
theorem Siz.str {x : Str} (h : plainS x = true) : Siz x.length 0 (.str x) := by
  refine ⟨rfl, rfl, ?_, Nat.le_refl _, Nat.le_refl _, h⟩
  show (x.cps.toList.all fun c => decide (c < 16 ^ 8)) = true
  unfold plainS at h
  rw [List.all_eq_true] at h ⊢
  intro c hc
  have := of_decide_eq_true (h c hc)
  exact decide_eq_true (Nat.lt_trans this (by decide))
theorem Sizs.nil : Sizs 0 0 [] := ⟨rfl, rfl, rfl, Nat.le_refl _, Nat.le_refl _, rfl⟩
theorem Sizs.cons {N M p : Nat} {d : DV} {ds : List DV} (h : Siz N p d) (r : Sizs M p ds) : Sizs (N + 1 + M) p (d :: ds) := by
  refine ⟨?_, ?_, ?_, ?_, ?_, by show (plD d && plDs ds) = true; rw [h.pl, r.pl]; rfl⟩
  · show (noObj d && noObjs ds) = true
    rw [h.no, r.no]; rfl
  · show ((toPy d).showable && _) = true
    rw [h.sh, r.sh]; rfl
  · show ((toPy d).leavesShort 64 && _) = true
    rw [h.lv, r.lv]; rfl
  · show (toPy d).bulk + 1 + _ ≤ _
    have := h.bk; have := r.bk; omega
  · show max _ _ ≤ p
    exact Nat.max_le.mpr ⟨h.dp, r.dp⟩
theorem Sizs.le {N N' p p' : Nat} {ds : List DV} (h : Sizs N p ds) (hN : N ≤ N') (hp : p ≤ p') : Sizs N' p' ds := ⟨h.no, h.sh, h.lv, Nat.le_trans h.bk hN, Nat.le_trans h.dp hp, h.pl⟩
theorem Sizs.all {N p : Nat} : ∀ {ds : List DV}, (∀ d ∈ ds, Siz N p d) → Sizs (ds.length * (N + 1)) p ds
  | [], _ => Sizs.nil.le (by omega) (by omega)
  | d :: ds, h => by
    have r := Sizs.cons (h d List.mem_cons_self) (Sizs.all (N := N) (p := p) fun e he => h e (List.mem_cons_of_mem _ he))
    refine r.le ?_ (Nat.le_refl _)
    rw [List.length_cons, Nat.succ_mul]
    omega
theorem Siz.tup {N p : Nat} {ds : List DV} (h : Sizs N p ds) : Siz N (p + 1) (.tup ds) := ⟨h.no, h.sh, h.lv, h.bk, Nat.succ_le_succ h.dp, h.pl⟩
theorem Siz.lst {N p : Nat} {ds : List DV} (h : Sizs N p ds) : Siz N (p + 1) (.lst ds) := ⟨h.no, h.sh, h.lv, h.bk, Nat.succ_le_succ h.dp, h.pl⟩
theorem Siz.dct0 : Siz 0 1 (.dct []) := ⟨rfl, rfl, rfl, Nat.le_refl _, Nat.le_refl _, rfl⟩
theorem Siz.dct1 {N p : Nat} {k : Str} {d : DV} (hk : plainS k = true) (h : Siz N p d) : Siz (k.length + N + 2) (p + 1) (.dct [(.inr k, d)]) := by
  have hs := Siz.str hk
  refine ⟨?_, ?_, ?_, ?_, ?_, by show (plainS k && plD d && true) = true; rw [hk, h.pl]; rfl⟩
  · show (noObj d && true) = true
    rw [h.no]; rfl
  · show (true && (toPy d).showable && true) = true
    rw [h.sh]; rfl
  · show ((PyData.str k).leavesShort 64 && (toPy d).leavesShort 64 && true) = true
    rw [show (PyData.str k).leavesShort 64 = true from hs.lv, h.lv]; rfl
  · show k.cps.size + (toPy d).bulk + 2 + 0 ≤ _
    have := h.bk
    have e : k.cps.size = k.length := rfl
    omega
  · show max (max 0 (toPy d).depth) 0 + 1 ≤ _
    have := h.dp
    omega
/-- flat things, by computing -/
def sizB (d : DV) : Bool := match d with
  | .none => true
  | .bool _ => true
  | .int i => decide (i.natAbs < 10 ^ 60)
  | .str x => plainS x
  | _ => false
mutual
/-- no dicts -/
def noDct : DV → Bool
  | .tup ds => noDcts ds
  | .lst ds => noDcts ds
  | .dct _ => false
  | _ => true
def noDcts : List DV → Bool
  | [] => true
  | d :: ds => noDct d && noDcts ds
end
theorem strOk_plain {x : Str} (h : plainS x = true) : PyData.strOk x = true := by
  unfold plainS at h
  show x.cps.all _ = true
  rw [← Array.all_toList]
  exact h
mutual
theorem canLay_of : ∀ {d : DV}, plD d = true → noDct d = true → (toPy d).canLay0 = true
  | .none, _, _ => rfl
  | .bool _, _, _ => rfl
  | .int _, _, _ => rfl
  | .str x, h, _ => strOk_plain h
  | .tup ds, h, n => canLays_of (ds := ds) h n
  | .lst ds, h, n => canLays_of (ds := ds) h n
  | .dct _, _, n => absurd n Bool.false_ne_true
  | .obj _, _, _ => rfl
  | .fix _, _, _ => rfl
theorem canLays_of : ∀ {ds : List DV}, plDs ds = true → noDcts ds = true → PyData.canLayAll0 (toPys ds) = true
  | [], _, _ => rfl
  | d :: ds, h, n => by
    have h' := Bool.and_eq_true_iff.mp (show (plD d && plDs ds) = true from h)
    have n' := Bool.and_eq_true_iff.mp (show (noDct d && noDcts ds) = true from n)
    show ((toPy d).canLay0 && _) = true
    rw [canLay_of h'.1 n'.1, canLays_of h'.2 n'.2]
    rfl
end
theorem Siz.shaped {N p : Nat} {d : DV} (h : Siz N p d) (hp : p ≤ 64) (n : noDct d = true) : shapedD d = true := by
  show (noObj d && ((toPy d).canLay0 && decide ((toPy d).depth ≤ 64))) = true
  rw [h.no, canLay_of h.pl n, decide_eq_true (Nat.le_trans h.dp hp)]
  rfl
end Dz

set_option Elab.async false
set_option linter.all false
set_option maxRecDepth 100000
set_option maxHeartbeats 2000000
/-! DzL: loops and comprehensions by an invariant. -/
namespace Dz
open PySem L2

theorem comp_rule {g : WG} {t : WT} {e : WE} {ρ : Rho} {G : DV → Prop} {I : Nat → Mh → Prop} {n : Nat} : ∀ (xs acc : List DV) (μ : Mh) (P : List DV → Mh → Prop),
    (∀ x ∈ xs, ∀ (μ : Mh) (k : Nat) (acc : List DV) (P : List DV → Mh → Prop), I (k + 1) μ → acc.length < sizeLine → (∀ y μ', G y → I k μ' → P (acc ++ [y]) μ') → (∀ μ', I k μ' → P acc μ') →
      g x ρ fun ρ1 => t ρ1 μ fun b μ1 => match b with
        | true => e ρ1 μ1 fun y μ2 => acc.length < sizeLine ∧ P (acc ++ [y]) μ2
        | false => P acc μ1) →
    acc.length + xs.length ≤ sizeLine → (∀ y ∈ acc, G y) → I (n + xs.length) μ → (∀ zs μ', (∀ y ∈ zs, G y) → zs.length ≤ acc.length + xs.length → I n μ' → P zs μ') → compW g t e ρ xs acc μ P
  | [], acc, μ, P, _, _, hg, hi, q => q acc μ hg (by simp) hi
  | x :: xs, acc, μ, P, hx, hl, hg, hi, q => by
    rw [List.length_cons] at hl
    refine hx x List.mem_cons_self μ (n + xs.length) acc (fun ac μ' => compW g t e ρ xs ac μ' P) hi (by omega) (fun y μ' gy i' => ?_) (fun μ' i' => ?_)
    · refine comp_rule xs (acc ++ [y]) μ' P (fun z hz => hx z (List.mem_cons_of_mem _ hz)) (by simp; omega) (fun z hz => ?_) i' (fun zs μ2 h1 h2 h3 => q zs μ2 h1 (by simp at h2 ⊢; omega) h3)
      rcases List.mem_append.mp hz with hz | hz
      · exact hg z hz
      · rw [List.mem_singleton] at hz; rw [hz]; exact gy
    · exact comp_rule xs acc μ' P (fun z hz => hx z (List.mem_cons_of_mem _ hz)) (by omega) hg i' (fun zs μ2 h1 h2 h3 => q zs μ2 h1 (by simp at h2 ⊢; omega) h3)
/-- the same, each thing kept -/
theorem comp_all {g : WG} {e : WE} {ρ : Rho} {G : DV → Prop} {I : Nat → Mh → Prop} {n : Nat} : ∀ (xs acc : List DV) (μ : Mh) (P : List DV → Mh → Prop),
    (∀ x ∈ xs, ∀ (μ : Mh) (k : Nat) (P : DV → Mh → Prop), I (k + 1) μ → (∀ y μ', G y → I k μ' → P y μ') → g x ρ fun ρ1 => e ρ1 μ P) →
    acc.length + xs.length ≤ sizeLine → (∀ y ∈ acc, G y) → I (n + xs.length) μ → (∀ zs μ', (∀ y ∈ zs, G y) → zs.length = acc.length + xs.length → I n μ' → P zs μ') → compW g wYes e ρ xs acc μ P
  | [], acc, μ, P, _, _, hg, hi, q => q acc μ hg (by simp) hi
  | x :: xs, acc, μ, P, hx, hl, hg, hi, q => by
    rw [List.length_cons] at hl
    refine hx x List.mem_cons_self μ (n + xs.length) _ hi (fun y μ' gy i' => ⟨by omega, ?_⟩)
    refine comp_all xs (acc ++ [y]) μ' P (fun z hz => hx z (List.mem_cons_of_mem _ hz)) (by simp; omega) (fun z hz => ?_) i' (fun zs μ2 h1 h2 h3 => q zs μ2 h1 (by simp at h2 ⊢; omega) h3)
    rcases List.mem_append.mp hz with hz | hz
    · exact hg z hz
    · rw [List.mem_singleton] at hz; rw [hz]; exact gy
/-- for x in xs, with an invariant that counts down -/
theorem for_rule {g : WG} {b : WS} {E : DEnds} {I : Nat → Rho → Mh → Prop} {n : Nat} : ∀ (xs : List DV) (ρ : Rho) (μ : Mh),
    (∀ x ∈ xs, ∀ (k : Nat) (ρ : Rho) (μ : Mh) (F : DEnds), I (k + 1) ρ μ → F.rt = E.rt → F.bk = E.nx → (∀ ρ' μ', I k ρ' μ' → F.nx ρ' μ') → (∀ ρ' μ', I k ρ' μ' → F.ct ρ' μ') → g x ρ fun ρ1 => b F ρ1 μ) →
    I (n + xs.length) ρ μ → (∀ ρ' μ', I n ρ' μ' → E.nx ρ' μ') → forW g b E xs ρ μ
  | [], ρ, μ, _, hi, q => q ρ μ hi
  | x :: xs, ρ, μ, hx, hi, q => by
    refine hx x List.mem_cons_self (n + xs.length) ρ μ { nx := forW g b E xs, rt := E.rt, bk := E.nx, ct := forW g b E xs } hi rfl rfl (fun ρ' μ' i' => ?_) (fun ρ' μ' i' => ?_)
    · exact for_rule xs ρ' μ' (fun z hz => hx z (List.mem_cons_of_mem _ hz)) i' q
    · exact for_rule xs ρ' μ' (fun z hz => hx z (List.mem_cons_of_mem _ hz)) i' q
theorem rngD_mem {lo : Int} {n : Nat} {d : DV} (h : d ∈ rngD lo n) : ∃ i : Int, d = .int i ∧ lo ≤ i ∧ i < lo + n := by
  unfold rngD at h
  rw [List.mem_map] at h
  obtain ⟨i, hi, rfl⟩ := h
  rw [List.mem_range] at hi
  exact ⟨_, rfl, by omega, by omega⟩
theorem rngD_len {lo : Int} {n : Nat} : (rngD lo n).length = n := by
  unfold rngD
  rw [List.length_map, List.length_range]
/-- a filter and a map without a step of the world -/
theorem comp_pure {g : WG} {t : WT} {e : WE} {ρ : Rho} {μ : Mh} (b : DV → Bool) (f : DV → DV) : ∀ (xs acc : List DV) (P : List DV → Mh → Prop),
    (∀ x ∈ xs, ∀ (acc : List DV) (P : List DV → Mh → Prop), acc.length < sizeLine → (if b x = true then P (acc ++ [f x]) μ else P acc μ) →
      g x ρ fun ρ1 => t ρ1 μ fun b μ1 => match b with
        | true => e ρ1 μ1 fun y μ2 => acc.length < sizeLine ∧ P (acc ++ [y]) μ2
        | false => P acc μ1) →
    acc.length + xs.length ≤ sizeLine → P (acc ++ (xs.filter b).map f) μ → compW g t e ρ xs acc μ P
  | [], acc, P, _, _, q => by
    have q' : P (acc ++ []) μ := q
    rw [List.append_nil] at q'
    exact q'
  | x :: xs, acc, P, hx, hl, q => by
    rw [List.length_cons] at hl
    refine hx x List.mem_cons_self acc (fun ac μ' => compW g t e ρ xs ac μ' P) (by omega) ?_
    by_cases hb : b x = true
    · rw [if_pos hb]
      rw [List.filter_cons_of_pos hb, List.map_cons] at q
      refine comp_pure b f xs (acc ++ [f x]) P (fun z hz => hx z (List.mem_cons_of_mem _ hz)) (by simp; omega) ?_
      rw [List.append_assoc]
      exact q
    · rw [if_neg hb]
      rw [List.filter_cons_of_neg hb] at q
      exact comp_pure b f xs acc P (fun z hz => hx z (List.mem_cons_of_mem _ hz)) (by omega) q
/-- data has a type -/
theorem ty_of_noObj : ∀ {d : DV} {μ : Mh}, noObj d = true → ∃ t, tyD d μ = some t
  | .none, _, _ => ⟨_, rfl⟩
  | .bool _, _, _ => ⟨_, rfl⟩
  | .int _, _, _ => ⟨_, rfl⟩
  | .str _, _, _ => ⟨_, rfl⟩
  | .tup _, _, _ => ⟨_, rfl⟩
  | .lst _, _, _ => ⟨_, rfl⟩
  | .dct _, _, _ => ⟨_, rfl⟩
  | .obj _, _, h => by cases h
  | .fix _, _, h => by cases h
end Dz

set_option Elab.async false
set_option linter.all false
set_option maxRecDepth 100000
set_option maxHeartbeats 1000000
/-! DzT: texts put together. -/
namespace Dz
open PySem L2 TL

abbrev sg (x : Str) : List Nat := x.cps.toList
theorem sg_len (x : Str) : (sg x).length = x.length := Array.length_toList
theorem plain_iff {x : Str} : plainS x = true ↔ ∀ c ∈ sg x, c < 0x110000 := by
  unfold plainS
  rw [List.all_eq_true]
  exact ⟨fun h c hc => of_decide_eq_true (h c hc), fun h c hc => decide_eq_true (h c hc)⟩
theorem sg_append (x y : Str) : sg (x ++ y) = sg x ++ sg y := by
  show (x.cps ++ y.cps).toList = _
  rw [Array.toList_append]
theorem len_append (x y : Str) : (x ++ y).length = x.length + y.length := by
  rw [← sg_len, sg_append, List.length_append, sg_len, sg_len]
theorem plain_append {x y : Str} (h : plainS x = true) (h' : plainS y = true) : plainS (x ++ y) = true := by
  rw [plain_iff] at *
  intro c hc
  rw [sg_append, List.mem_append] at hc
  exact hc.elim (h c) (h' c)
theorem plain_one {c : Nat} (h : c < 0x110000) : plainS ⟨#[c]⟩ = true := by
  rw [plain_iff]
  intro d hd
  have : d = c := by simpa [sg] using hd
  omega
theorem plain_cut {x : Str} (lo hi : Option Int) (h : plainS x = true) : plainS (cutS x lo hi) = true := by
  rw [plain_iff] at *
  intro c hc
  unfold cutS sg at hc
  have hc' : c ∈ (x.cps.toList.drop (HT.sIx x.length 0 lo)).take (HT.sIx x.length x.length hi - HT.sIx x.length 0 lo) := hc
  exact h c (List.mem_of_mem_drop (List.mem_of_mem_take hc'))
theorem len_cut (x : Str) (lo hi : Option Int) : (cutS x lo hi).length ≤ x.length := by
  rw [← sg_len, ← sg_len]
  show ((x.cps.toList.drop _).take _).length ≤ _
  rw [List.length_take, List.length_drop]
  show _ ≤ x.cps.toList.length
  omega
theorem len_cut_to (x : Str) (k : Int) (h : 0 ≤ k) : (cutS x none (some k)).length ≤ k.toNat := by
  rw [← sg_len]
  show ((x.cps.toList.drop _).take _).length ≤ _
  rw [List.length_take]
  have e : HT.sIx x.length x.length (some k) = min k.toNat x.length := by
    show (if k < 0 then _ else min k.toNat x.length) = _
    rw [if_neg (by omega)]
  rw [e]
  omega
theorem pos_cut_to {x : Str} {k : Int} (h : 0 < k) (hx : 0 < x.length) : 0 < (cutS x none (some k)).length := by
  rw [← sg_len]
  show 0 < ((x.cps.toList.drop _).take _).length
  rw [List.length_take, List.length_drop]
  have e : HT.sIx x.length x.length (some k) = min k.toNat x.length := by
    show (if k < 0 then _ else min k.toNat x.length) = _
    rw [if_neg (by omega)]
  have e0 : HT.sIx x.length 0 none = 0 := rfl
  rw [e, e0]
  have : x.cps.toList.length = x.length := sg_len x
  omega
theorem mem_joinL {S : List Nat} {c : Nat} : ∀ {ls : List (List Nat)}, c ∈ joinL S ls → c ∈ S ∨ ∃ l ∈ ls, c ∈ l
  | [], h => by cases h
  | [p], h => .inr ⟨p, List.mem_singleton.mpr rfl, h⟩
  | p :: q :: r, h => by
    have h' : c ∈ p ++ (S ++ joinL S (q :: r)) := h
    rw [List.mem_append, List.mem_append] at h'
    rcases h' with h | h | h
    · exact .inr ⟨p, List.mem_cons_self, h⟩
    · exact .inl h
    · rcases mem_joinL h with h | ⟨l, hl, h⟩
      · exact .inl h
      · exact .inr ⟨l, List.mem_cons_of_mem _ hl, h⟩
theorem plain_join {y : Str} {xs : List Str} (hy : plainS y = true) (h : ∀ x ∈ xs, plainS x = true) : plainS (Txt.join y xs) = true := by
  rw [plain_iff] at *
  intro c hc
  rw [join_eq] at hc
  have hc' : c ∈ joinL (tl y) (xs.map tl) := by rw [← tl_join]; exact hc
  rcases mem_joinL hc' with h' | ⟨l, hl, h'⟩
  · exact hy c h'
  · rw [List.mem_map] at hl
    obtain ⟨x, hx, rfl⟩ := hl
    exact plain_iff.mp (h x hx) c h'
theorem len_joinL (S : List Nat) : ∀ ls : List (List Nat), (joinL S ls).length ≤ (ls.map (·.length)).sum + ls.length * S.length
  | [] => Nat.zero_le _
  | [p] => by
    show p.length ≤ p.length + 0 + 1 * S.length
    omega
  | p :: q :: r => by
    have ih := len_joinL S (q :: r)
    show (p ++ (S ++ joinL S (q :: r))).length ≤ p.length + ((q :: r).map (·.length)).sum + ((q :: r).length + 1) * S.length
    rw [List.length_append, List.length_append, Nat.succ_mul]
    omega
theorem len_join (y : Str) (xs : List Str) : (Txt.join y xs).length ≤ (xs.map (·.length)).sum + xs.length * y.length := by
  have h := len_joinL (tl y) (xs.map tl)
  have e : (Txt.join y xs).length = (tl (Str.join y xs)).length := by rw [join_eq]; exact (sg_len _).symm
  rw [e, tl_join]
  have e2 : ((xs.map tl).map (·.length)) = xs.map (·.length) := by
    rw [List.map_map]
    exact List.map_congr_left fun x _ => sg_len x
  rw [e2, List.length_map] at h
  exact Nat.le_trans h (Nat.add_le_add_left (Nat.mul_le_mul_left _ (Nat.le_of_eq (sg_len y))) _)
theorem sum_ones {xs : List Str} (h : ∀ x ∈ xs, x.length ≤ 1) : (xs.map (·.length)).sum ≤ xs.length := by
  induction xs with
  | nil => exact Nat.le_refl _
  | cons x xs ih =>
    have := h x List.mem_cons_self
    have := ih fun z hz => h z (List.mem_cons_of_mem _ hz)
    rw [List.map_cons, List.sum_cons, List.length_cons]
    omega
theorem sum_ge {xs : List Str} (h : ∀ x ∈ xs, 1 ≤ x.length) : xs.length ≤ (xs.map (·.length)).sum := by
  induction xs with
  | nil => exact Nat.le_refl _
  | cons x xs ih =>
    have := h x List.mem_cons_self
    have := ih fun z hz => h z (List.mem_cons_of_mem _ hz)
    rw [List.map_cons, List.sum_cons, List.length_cons]
    omega
theorem foldl_sg (x : Array Nat) : ∀ (n : Nat) (acc : Array Nat), ((List.replicate n x).foldl (· ++ ·) acc).toList = acc.toList ++ (List.replicate n x.toList).flatten
  | 0, acc => by simp
  | n + 1, acc => by
    rw [List.replicate_succ, List.foldl_cons, foldl_sg x n, Array.toList_append, List.replicate_succ, List.flatten_cons, List.append_assoc]
theorem sg_rep (x : Str) (n : Nat) : sg (strRep x n) = (List.replicate n (sg x)).flatten := by
  unfold strRep
  show ((List.replicate n x.cps).foldl (· ++ ·) #[]).toList = _
  rw [foldl_sg]
  rfl
theorem len_rep (x : Str) (n : Nat) : (strRep x n).length = n * x.length := by
  rw [← sg_len, sg_rep, ← sg_len x, List.length_flatten, List.map_replicate, List.sum_replicate_nat]
theorem plain_rep {x : Str} (n : Nat) (h : plainS x = true) : plainS (strRep x n) = true := by
  rw [plain_iff] at *
  intro c hc
  rw [sg_rep, List.mem_flatten] at hc
  obtain ⟨l, hl, hc⟩ := hc
  rw [List.mem_replicate] at hl
  rw [hl.2] at hc
  exact h c hc
/-- things that are texts of one sign -/
def One (d : DV) : Prop := ∃ c, d = .str ⟨#[c]⟩ ∧ c < 0x110000
theorem ones_of {zs : List DV} (h : ∀ z ∈ zs, One z) : ∃ ys : List Str, zs = ys.map .str ∧ (∀ y ∈ ys, plainS y = true ∧ y.length = 1) := by
  induction zs with
  | nil => exact ⟨[], rfl, fun _ h => by cases h⟩
  | cons z zs ih =>
    obtain ⟨c, rfl, hc⟩ := h z List.mem_cons_self
    obtain ⟨ys, rfl, hy⟩ := ih fun z hz => h z (List.mem_cons_of_mem _ hz)
    refine ⟨⟨#[c]⟩ :: ys, rfl, fun y h => ?_⟩
    rcases List.mem_cons.mp h with rfl | h
    · exact ⟨plain_one hc, rfl⟩
    · exact hy y h
theorem one_signs {x : Str} (h : plainS x = true) : ∀ z ∈ signs x, One z := by
  intro z hz
  unfold signs at hz
  rw [List.mem_map] at hz
  obtain ⟨c, hc, rfl⟩ := hz
  exact ⟨c, rfl, plain_iff.mp h c hc⟩
theorem len_signs (x : Str) : (signs x).length = x.length := by
  unfold signs
  rw [List.length_map, Array.length_toList]
  rfl
theorem len_join_ge (y : Str) (xs : List Str) : (xs.map (·.length)).sum ≤ (Txt.join y xs).length := PyProof.Rows.len_join_ge_sum y xs
end Dz

set_option Elab.async false
set_option linter.all false
set_option maxRecDepth 100000
set_option maxHeartbeats 1000000
/-! DzE: a law's start and end. -/
namespace Dz
open PySem L2

theorem at1_of {K : PySem.W.Frag} {h : Heap} {mg : Str → Option Value} {x : Str} {st : Stmt} {f : Addr} {oc kV dc pm cd ct : Value} {od an : Option Addr} {sl : Array (Option Value)} (X : K.In h) (G : h.Ns mainGlobals mg) (a : PySem.W.nsIn K mainGlobals x = some (some (.ref f)))
    (l : K.lookup f = some ⟨oc, od, .func (PySem.W.fnOf x x (defArgs st) (defBody st) (defScope st) .none kV dc pm an cd ct), sl⟩) (c : PySem.W.codeIn K cd x = true) (k : PySem.W.keepIn K (.ref f) = true) : At1 K mg x st :=
  ⟨f, _, PySem.W.mg_of X G a, fun_mk l c k⟩
/-- a law over a script: its promise at the start -/
theorem law_start {wf : WF} {K : PySem.W.Frag} {H : Hp} {a : Addr} {ns : List Int} (h : ∀ μ P, (∀ μ', P (.bool true) μ') → wf [.fix (ns.map .int)] μ P) (hS : SqL K H a (ns.map V.int)) : spD K 1 wf [.ref a] H (fun v _ => v = .bl true) fun _ _ _ => False := by
  refine ⟨fun _ => none, [.fix (ns.map .int)], fun _ => none, fun d _ => d = .bool true, ⟨fun a o z => (by cases z), fun a o z => (by cases z), fun a o z => (by cases z)⟩, ?_, rfl, h _ _ fun _ => rfl, fun d μ' v H' p o s i => ?_⟩
  · have e : hid (fun _ => none) (fun _ => none) H = H := by
      funext b
      unfold hid
      rw [if_pos ⟨rfl, rfl⟩]
    rw [e]
    refine .cons (.fix hS ?_) .nil
    induction ns with
    | nil => exact .nil
    | cons n ns ih =>
      refine .cons (.int n) ?_
      clear ih h hS
      induction ns with
      | nil => exact .nil
      | cons m ns ih => exact .cons (.int m) ih
  · subst p
    cases i
    rfl
end Dz

set_option Elab.async false
set_option linter.all false
set_option maxRecDepth 100000
set_option maxHeartbeats 2000000
/-! DzA: split, sorted, *xs in a display, list(xs) that changes, enumerate. -/
namespace Dz
open PySem L2

section
variable {K : PySem.W.Frag} {R : Hp} {μ : Mh} {H : Hp} {P : DV → Mh → Prop} {Q : VK}
/-- a new list that will change -/
theorem Nxt.lstM {xs : List V} {ds : List DV} {p : Addr} (k : Nxt K R μ H P Q) (o : Ok K R μ H) (q : ∀ p, μ p = none → P (.obj p) (updM μ p (.lst ds))) (r : Iss K (hid R μ H) xs ds) (n : H p = none) : Q (.ref p) (upd H p (.lst xs)) := by
  have fm := o.freeM n
  have hs : Same (hid R μ H) (hid R (updM μ p (.lst ds)) (upd H p (.lst xs))) := fun b u e => by
    obtain ⟨e1, e2, e3⟩ := hid_some e
    have ne := ne_of_none e3 n
    rw [hid_at e1 (by rw [updM_ne ne]; exact e2), upd_ne ne]
    exact e3
  obtain ⟨o2, s2⟩ := o.newM (o := .lst xs) (m := .lst ds) n ⟨_, upd_same, r.mono hs⟩ (by intro z; cases z)
  exact k _ _ _ _ (q p fm) o2 s2 (.obj p)
theorem Nxt.dctM0 {p : Addr} (k : Nxt K R μ H P Q) (o : Ok K R μ H) (q : ∀ p, μ p = none → P (.obj p) (updM μ p (.dct []))) (n : H p = none) : Q (.ref p) (upd H p (.dK [])) := by
  have fm := o.freeM n
  have hs : Same (hid R μ H) (hid R (updM μ p (.dct [])) (upd H p (.dK []))) := fun b u e => by
    obtain ⟨e1, e2, e3⟩ := hid_some e
    have ne := ne_of_none e3 n
    rw [hid_at e1 (by rw [updM_ne ne]; exact e2), upd_ne ne]
    exact e3
  obtain ⟨o2, s2⟩ := o.newM (o := .dK []) (m := .dct []) n ⟨[], upd_same, rfl, .nil⟩ (by intro z; cases z)
  exact k _ _ _ _ (q p fm) o2 s2 (.obj p)
end
/-! ### {} and list(xs) that will change -/
def wDct0M : WE := fun _ μ P => ∀ p, μ p = none → P (.obj p) (updM μ p (.dct []))
section
variable {X : Cx} {pos p : Pos} {e : Expr} {w : WE}
theorem d_dct0M : PE X (.Dict [] [] pos) (tD X.K wDct0M) :=
  PE.imp pe_dnewK fun σ H Q ⟨R, ρ, μ, P, a, w, k⟩ => fun p n => k.dctM0 a.ok w n
def newL (ds : List DV) (μ : Mh) (P : DV → Mh → Prop) : Prop := ∀ p, μ p = none → P (.obj p) (updM μ p (.lst ds))
def wListM : WB
  | [.lst ds], μ, P => newL ds μ P
  | [.tup ds], μ, P => newL ds μ P
  | [.obj a], μ, P => match μ a with | some (.lst ds) => newL ds μ P | _ => False
  | _, _, _ => False
theorem listM_rd {K : PySem.W.Frag} : RAD K (fun xs H Q => ∃ p ys, xs = [.ref p] ∧ (SqL K H p ys ∨ SqT K H p ys) ∧ ∀ l, H l = none → Q (.ref l) (upd H l (.lst ys))) wListM := by
  intro R μ H vs ds P Q o i w k
  match ds, w with
  | [.lst ds], w =>
    obtain ⟨v, rfl, i1⟩ := i.one
    cases i1 with | lst hx rx => exact ⟨_, _, rfl, .inl (SqL.of (hid_le _ _ hx)), fun l n => k.lstM o w rx n⟩
  | [.tup ds], w =>
    obtain ⟨v, rfl, i1⟩ := i.one
    cases i1 with | tup hx rx => exact ⟨_, _, rfl, .inr (Same.seqT hid_le hx), fun l n => k.lstM o w rx n⟩
  | [.obj a], w =>
    obtain ⟨v, rfl, i1⟩ := i.one
    have w' : (match μ a with | some (.lst ds) => newL ds μ P | _ => False) := w
    split at w'
    · rename_i ds e
      obtain ⟨xs, h1, r⟩ := o.ob a _ e
      cases i1
      exact ⟨_, _, rfl, .inl (SqL.of h1), fun l n => k.lstM o w' r n⟩
    · exact w'.elim
theorem d_listM (hg : Gl X "list") (hm : X.mg "list" = none) (ha : PE X e (tD X.K w)) (hs : starEach [e] X.env = [(false, eval e X.env)] := by rfl) : PE X (.Call (.Name "list" p) [e] [] pos) (tD X.K (wB wListM (wCons w wNil))) :=
  d_callTy call_list_of listM_rd hg hm (by decide +kernel) (da_cons ha da_nil hs) (by decide) (by decide) hs rfl
/-! ### a.split(b) -/
theorem strs_is {K : PySem.W.Frag} {H : Hp} : ∀ ys : List Str, Iss K H (ys.map V.str) (ys.map DV.str)
  | [] => .nil
  | y :: ys => .cons (.str y) (strs_is ys)
def wSplit (wa wb : WE) : WE := fun ρ μ P => wa ρ μ fun x μ1 => match x with
  | .str a => wb ρ μ1 fun y μ2 => match y with
    | .str b => (b.length == 0) = false ∧ a.length + 2 ≤ sizeLine ∧ P (.lst ((Txt.split a b).map .str)) μ2
    | _ => False
  | _ => False
variable {o : Expr} {wo : WE} {apos : Pos}
theorem d_split (ho : PE X o (tD X.K wo)) (he : PE X e (tD X.K w)) (hs : starEach [e] X.env = [(false, eval e X.env)] := by rfl) (hbase : attributeBase o "split" X.env (eval o X.env) = eval o X.env := by rfl) (hline : (apos.endLine == pos.line) = true := by rfl) :
    PE X (.Call (.Attribute o "split" apos) [e] [] pos) (tD X.K (wSplit wo w)) :=
  PE.imp (pe_split ho he hs hbase hline) fun σ H Q ⟨R, ρ, μ, P, a, w, k⟩ => ⟨R, ρ, μ, _, a, w, fun x μ1 v H1 p1 o1 s1 i1 => by
    cases i1 with
    | str z => exact ⟨⟨z, rfl⟩, R, ρ, μ1, _, a.step o1 s1, p1, fun y μ2 u H2 p2 o2 s2 i2 => by
        cases i2 with
        | str b => exact ⟨z, b, rfl, rfl, p2.1, p2.2.1, fun p n => (k.step (s1.trans s2)).lst o2 p2.2.2 (strs_is _) n⟩
        | _ => exact (show False from p2).elim⟩
    | _ => exact (show False from p1).elim⟩
/-! ### *e in a display -/
def wStar (we : WE) (wr : WA) : WA := fun ρ μ P => we ρ μ fun x μ1 => match x with
  | .tup ds => wr ρ μ1 fun es μ2 => P (ds ++ es) μ2
  | .lst ds => wr ρ μ1 fun es μ2 => P (ds ++ es) μ2
  | _ => False
variable {es : List Expr} {wr : WA}
theorem da_star (he : PE X e (tD X.K w)) (hr : PA X es (tDA X.K wr)) (hs : starEach (.Starred e p :: es) X.env = (true, eval e X.env) :: starEach es X.env := by rfl) : PA X (.Starred e p :: es) (tDA X.K (wStar w wr)) :=
  PA.imp (StX.pa_star he hr hs) fun σ H Q ⟨R, ρ, μ, P, a, w, k⟩ => ⟨R, ρ, μ, _, a, w, fun x μ1 v H1 p1 o1 s1 i1 => by
    cases i1 with
    | tup hx rx => exact ⟨_, _, rfl, .inl (Same.seqT hid_le hx), R, ρ, μ1, _, a.step o1 s1, p1, fun ds μ2 vs H2 p2 o2 s2 i2 => k _ μ2 _ H2 p2 o2 (s1.trans s2) ((rx.mono s2).append i2)⟩
    | lst hx rx => exact ⟨_, _, rfl, .inr (SqL.of (hid_le _ _ hx)), R, ρ, μ1, _, a.step o1 s1, p1, fun ds μ2 vs H2 p2 o2 s2 i2 => k _ μ2 _ H2 p2 o2 (s1.trans s2) ((rx.mono s2).append i2)⟩
    | _ => exact (show False from p1).elim⟩
end

/-! ### sorted(xs) of data that can be compared place by place -/
def allAlike (ds : List DV) : Bool := ds.all fun d => ds.all fun e => PySem.W.alike (toPy d) (toPy e)
def sortable (ds : List DV) : Bool := (ds.all fun d => match d with | .tup (_ :: _) => true | _ => false) || ds.all fun d => match d with | .int _ => true | .str _ => true | _ => false
def leD (a b : DV) : Bool := !PySem.W.dataLt (toPy b) (toPy a)
def sortW (ds : List DV) (μ : Mh) (P : DV → Mh → Prop) : Prop := noObjs ds = true ∧ allAlike ds = true ∧ sortable ds = true ∧ (∀ d ∈ ds, (toPy d).depth ≤ 60) ∧ ds.length ≤ sizeLine ∧ ∀ es : List DV, es.Perm ds → es.Pairwise (fun a b => leD a b = true) → P (.lst es) μ
def wSorted : WB
  | [.lst ds], μ, P => sortW ds μ P
  | [.obj a], μ, P => match μ a with | some (.lst ds) => sortW ds μ P | _ => False
  | _, _, _ => False
def rSortedD (K : PySem.W.Frag) : List V → Hp → VK → Prop := fun vs H Q => ∃ (a : Addr) (xs : List V) (ds : List DV), vs = [V.ref a] ∧ SqL K H a xs ∧ Iss K H xs ds ∧ noObjs ds = true ∧ allAlike ds = true ∧ sortable ds = true ∧ (∀ d ∈ ds, (toPy d).depth ≤ 60) ∧ ds.length ≤ sizeLine ∧
  ∀ (ps : List (V × DV)) (p : Addr), ps.Perm (xs.zip ds) → (ps.map (·.2)).Pairwise (fun a b => leD a b = true) → H p = none → Q (.ref p) (upd H p (.lst (ps.map (·.1))))
theorem Iss.zipAll {K : PySem.W.Frag} {H : Hp} : ∀ {xs : List V} {ds : List DV}, Iss K H xs ds → ∀ p ∈ xs.zip ds, Is K H p.1 p.2
  | _, _, .nil, p, h => by cases h
  | _, _, .cons h r, p, hp => by
    rcases List.mem_cons.mp hp with rfl | hp
    · exact h
    · exact Iss.zipAll r p hp
theorem Iss.ofAll {K : PySem.W.Frag} {H : Hp} : ∀ {ps : List (V × DV)}, (∀ p ∈ ps, Is K H p.1 p.2) → Iss K H (ps.map (·.1)) (ps.map (·.2))
  | [], _ => .nil
  | p :: ps, h => .cons (h p List.mem_cons_self) (Iss.ofAll fun q hq => h q (List.mem_cons_of_mem _ hq))
theorem zip_snd {α β : Type} : ∀ {xs : List α} {ys : List β}, xs.length = ys.length → (xs.zip ys).map (·.2) = ys
  | [], [], _ => rfl
  | _ :: xs, _ :: ys, h => by
    rw [List.zip_cons_cons, List.map_cons, zip_snd (by simpa using h)]
  | [], _ :: _, h => by cases h
  | _ :: _, [], h => by cases h
section
variable {X : Cx}
theorem each_of {H : Hp} {pins : List (Addr × Obj)} {σ : L2.St} {s : Shared} (I : Inv X pins σ H s) (hs : ∃ o, X.base.get? sysModules = some o) : ∀ {xs : List V} {ds : List DV} {us : List Value}, Iss X.K H xs ds → noObjs ds = true → Vals xs us →
    PySem.W.EachIs (fun (u : Value) (b : V × DV) => RelV b.1 u) us (xs.zip ds) ∧ PySem.W.EachIs (fun (u : Value) (b : V × DV) => ∃ as, Reads s.heap u (toPy b.2) as) us (xs.zip ds)
  | _, _, _, .nil, _, r => by cases r; exact ⟨.nil, .nil⟩
  | _, _, _, .cons h rr, n, r => by
    cases r with
    | cons r1 r2 =>
      have n' := Bool.and_eq_true_iff.mp n
      obtain ⟨e1, e2⟩ := each_of I hs rr n'.2 r2
      obtain ⟨as, q, _⟩ := Is.reads I hs h n'.1 r1
      exact ⟨.cons r1 e1, .cons ⟨as, q⟩ e2⟩
theorem vals_of_each : ∀ {us : List Value} {ps : List (V × DV)}, PySem.W.EachIs (fun (u : Value) (b : V × DV) => RelV b.1 u) us ps → Vals (ps.map (·.1)) us
  | _, _, .nil => .nil
  | _, _, .cons h r => .cons h (vals_of_each r)
theorem call_sortedD {k : Nat} (hr : Room k X.A) (hs : ∃ o, X.base.get? sysModules = some o) : CallR X (.builtin "sorted") (rSortedD X.K) := by
  intro pins s σ H vs us Q I r h
  obtain ⟨a, xs, ds, rfl, hl, ri, no, al, so, dp, sz, q⟩ := h
  obtain ⟨its, rv, hl2, _⟩ := I.list hl
  rw [Vals.ref1 r]
  obtain ⟨e1, e2⟩ := each_of I hs ri no rv
  have hlen : (xs.zip ds).length = ds.length := by rw [List.length_zip, ri.length, Nat.min_self]
  have hsnd : (xs.zip ds).map (fun b => toPy b.2) = ds.map toPy := by
    have := congrArg (List.map toPy) (zip_snd ri.length)
    rw [List.map_map] at this
    exact this
  have hmem : ∀ b ∈ xs.zip ds, b.2 ∈ ds := fun b hb => by
    have := List.mem_map_of_mem (f := (·.2)) hb
    rw [zip_snd ri.length] at this
    exact this
  refine PySem.W.sorted_data (enc := fun b : V × DV => toPy b.2) hl2.isList e1 e2 ?_ ?_ (by rw [hlen]; exact sz) (fun b hb => ?_) fun out h1 h2 => ?_
  · rw [hsnd]
    intro d hd d' hd'
    rw [List.mem_map] at hd hd'
    obtain ⟨x, hx, rfl⟩ := hd
    obtain ⟨y, hy, rfl⟩ := hd'
    unfold allAlike at al
    rw [List.all_eq_true] at al
    have := al x hx
    rw [List.all_eq_true] at this
    exact this y hy
  · rw [hsnd]
    unfold sortable at so
    rw [Bool.or_eq_true, List.all_eq_true, List.all_eq_true] at so
    rcases so with so | so
    · refine .inl fun d hd => ?_
      rw [List.mem_map] at hd
      obtain ⟨x, hx, rfl⟩ := hd
      have := so x hx
      match x, this with
      | .tup (y :: ys), _ => exact ⟨toPy y, toPys ys, rfl⟩
    · refine .inr fun d hd => ?_
      rw [List.mem_map] at hd
      obtain ⟨x, hx, rfl⟩ := hd
      have := so x hx
      match x, this with
      | .int i, _ => exact ⟨fun z => (by cases z), fun xs z => (by cases z)⟩
      | .str i, _ => exact ⟨fun z => (by cases z), fun xs z => (by cases z)⟩
  · have h1 := dp b.2 (hmem b hb)
    have := hr.un
    show X.A.units + 2 + (toPy b.2).depth < cLine
    omega
  · obtain ⟨ep, he'⟩ := PyProof.Rows.sortedAll_at s.heap its out.toArray
    have rv2 := vals_of_each h2
    have pw := List.pairwise_mergeSort (le := PySem.W.dataLe false fun b : V × DV => toPy b.2) (PySem.W.sortLe_total _ false _).trans (fun a b => by
      rw [Bool.or_eq_true]
      exact (PySem.W.sortLe_total (PyProof.Rows.listOrd PyProof.Rows.itemOrd) false fun b : V × DV => PySem.W.keyToks (toPy b.2)).total a b) (xs.zip ds)
    have pm := List.mergeSort_perm (xs.zip ds) (PySem.W.dataLe false fun b : V × DV => toPy b.2)
    generalize hms : (xs.zip ds).mergeSort (PySem.W.dataLe false fun b : V × DV => toPy b.2) = ps at rv2 pm pw
    have hz : (ps.map (·.1)).length ≤ sizeLine := by
      rw [List.length_map, pm.length_eq, hlen]
      exact sz
    refine ⟨.ref _, upd H (s.heap.objs.size + 1) (.lst (ps.map (·.1))), I.laid (t' := s.toks) (fun _ _ => PyProof.Rows.sortedAll_old) (Nat.le_succ _) ⟨hz, out, ep, rv2, he'⟩, rfl, q ps _ pm ?_ (I.hok.fresh (Nat.le_succ _))⟩
    rw [List.pairwise_map]
    exact pw.imp fun {a b} h => h
end
section
variable {X : Cx} {p pos : Pos} {e : Expr} {w : WE}
theorem Iss.noLen {K : PySem.W.Frag} {H : Hp} {ps : List (V × DV)} (h : ∀ q ∈ ps, Is K H q.1 q.2) : Iss K H (ps.map (·.1)) (ps.map (·.2)) := Iss.ofAll h
theorem sorted_rd {K : PySem.W.Frag} : RAD K (rSortedD K) wSorted := by
  intro R μ H vs ds P Q o i w k
  have go : ∀ (a : Addr) (xs : List V) (ds : List DV), SqL K H a xs → Iss K (hid R μ H) xs ds → sortW ds μ P → rSortedD K [.ref a] H Q := by
    rintro a xs ds hx rx ⟨no, al, so, dp, sz, w⟩
    refine ⟨a, xs, ds, rfl, hx, rx.mono hid_le, no, al, so, dp, sz, fun ps p pm pw n => ?_⟩
    have hall : ∀ q ∈ ps, Is K (hid R μ H) q.1 q.2 := fun q hq => Iss.zipAll rx q (pm.mem_iff.mp hq)
    have hp2 : (ps.map (·.2)).Perm ds := by
      have := pm.map (·.2)
      rw [zip_snd rx.length] at this
      exact this
    exact k.lst o (w _ hp2 pw) (Iss.ofAll hall) n
  match ds, w with
  | [.lst ds], w =>
    obtain ⟨v, rfl, i1⟩ := i.one
    cases i1 with
    | @lst a xs _ hx rx => exact go a xs ds (SqL.of (hid_le _ _ hx)) rx w
  | [.obj a], w =>
    obtain ⟨v, rfl, i1⟩ := i.one
    have w' : (match μ a with | some (.lst ds) => sortW ds μ P | _ => False) := w
    split at w'
    · rename_i ds e
      obtain ⟨xs, h1, r⟩ := o.ob a _ e
      cases i1
      exact go a xs ds (SqL.of h1) r w'
    · exact w'.elim
theorem d_sorted {k : Nat} (hr : Room k X.A) (hsm : ∃ o, X.base.get? sysModules = some o) (hg : Gl X "sorted") (hm : X.mg "sorted" = none) (ha : PE X e (tD X.K w)) (hs : starEach [e] X.env = [(false, eval e X.env)] := by rfl) :
    PE X (.Call (.Name "sorted" p) [e] [] pos) (tD X.K (wB wSorted (wCons w wNil))) :=
  d_callB (call_sortedD hr hsm) sorted_rd hg hm (by decide +kernel) (da_cons ha da_nil hs) (by decide) (by decide) hs rfl
end

end Dz

set_option Elab.async false
set_option linter.all false
set_option maxRecDepth 100000
set_option maxHeartbeats 4000000
namespace Dz
open PySem L2 PyProof.Rows

/-! ### enumerate of a tuple or a list -/
def enumD : Nat → List DV → List DV
  | _, [] => []
  | i, d :: ds => .tup [.int (i : Nat), d] :: enumD (i + 1) ds
theorem enumD_len : ∀ (k : Nat) (ds : List DV), (enumD k ds).length = ds.length
  | _, [] => rfl
  | k, _ :: ds => congrArg (· + 1) (enumD_len (k + 1) ds)
theorem enumD_get : ∀ (k : Nat) (ds : List DV) (i : Nat) {d : DV}, ds[i]? = some d → (enumD k ds)[i]? = some (.tup [.int ((k + i : Nat)), d])
  | _, [], _, _, h => by simp at h
  | k, e :: ds, 0, d, h => by
    have : e = d := by simpa using h
    subst this
    rfl
  | k, _ :: ds, i + 1, d, h => by
    have := enumD_get (k + 1) ds i (by simpa using h)
    have e : k + 1 + i = k + (i + 1) := by omega
    rw [e] at this
    simpa [enumD] using this
set_option maxHeartbeats 4000000 in
theorem newEnumB {v : Value} {ob : Obj} {HH : Heap → Prop} (B : Begins v ob HH) :
    Meets (Builtin.«enumerate.__new__» ⟨[.type "enumerate", v], []⟩) (fun _ R s => HH s.heap ∧
      R (.ok (.ret (.ref (s.heap.push ob).objs.size))) { s with heap := (s.heap.push ob).push { cls := .type "enumerate", data := .fields #[.none, .bool false, .ref s.heap.objs.size, rawInt 0, .none, .none] } }) :=
  .of_wp fun prog w A R s h => by
    obtain ⟨hp, g, d, tk, os⟩ := s
    obtain ⟨hb, h⟩ := h
    have hsub := sub_enumerate
    have begin_ : ∀ {A' : Around} {E : Value → Shared → Prop} {Q : Value → Shared → Prop}, Q (.ref hp.objs.size) ⟨hp.push ob, g, d, tk, os⟩ → wpAny (model prog w) A' (pyIter v) Q E ⟨hp, g, d, tk, os⟩ :=
      fun q => B.iter prog w _ _ ⟨hp, g, d, tk, os⟩ _ hb q
    wp_walk using begin_
    refine wpAny_stack_any fun st => wpAny_pure ?_
    split
    · rename_i cl _ _ _ _ _
      cases (cl == Value.type "enumerate")
      all_goals
        wp_walk using begin_
        exact ⟨_, rfl, h⟩
    · wp_walk using begin_
      exact ⟨_, rfl, h⟩
theorem call_enumB {prog : Program} {w : World} {A : Around} {E : Value → Shared → Prop} {s : Shared} {v : Value} {ob : Obj} {HH : Heap → Prop} {Q : Value → Shared → Prop} (B : Begins v ob HH) (hb : HH s.heap)
    (h : ∀ h', IsEnum h' (s.heap.objs.size + 1) s.heap.objs.size 0 .none → h'.get? s.heap.objs.size = some ob → h'.objs.size = s.heap.objs.size + 2 →
      (∀ b o, s.heap.get? b = some o → h'.get? b = some o) → Q (.ref (s.heap.objs.size + 1)) { s with heap := h' }) : wpAny (model prog w) A (call (.type "enumerate") [v]) Q E s := by
  refine callType_new F.called_enumerate (by decide) (F.typeCall_enumerate_1 _) (F.newCall_enumerate_1 _) (fun obj => F.args_object_init_2 obj _) F.entry_enumerate_new (newEnumB B) ⟨hb, ?_⟩
  have size1 : (s.heap.push ob).objs.size = s.heap.objs.size + 1 := Heap.size_push ..
  show _ ∧ _
  rw [size1]
  have made : IsEnum ((s.heap.push ob).push { cls := .type "enumerate", data := .fields #[.none, .bool false, .ref s.heap.objs.size, rawInt 0, .none, .none] }) (s.heap.objs.size + 1) s.heap.objs.size 0 .none := by
    have z := Heap.get?_push_size (s.heap.push ob) (o := { cls := .type "enumerate", data := .fields #[.none, .bool false, .ref s.heap.objs.size, rawInt 0, .none, .none] }) rfl
    rw [size1] at z
    exact z
  refine ⟨⟨_, made, rfl⟩, h _ made (Heap.get?_push_of_some _ (Heap.get?_push_size _ B.free)) (by rw [Heap.size_push, size1]) fun b o x => Heap.get?_push_of_some _ (Heap.get?_push_of_some _ x)⟩

/-- a tuple walked with places -/
def IteT (K : PySem.W.Frag) (a : Addr) : It where
  go := fun i H => ∃ (xs : List V) (x : V), SqT K H a xs ∧ xs[i]? = some x
  yld := fun i H v H' => ∃ T x, v = .ref T ∧ H T = none ∧ H' = upd H T (.tup [.int (i : Nat), x]) ∧ ∀ xs, SqT K H a xs → xs[i]? = some x
  stop := fun i H => ∃ xs : List V, SqT K H a xs ∧ xs.length ≤ i
theorem turn_enumT {P : Program} {w : World} {K : PySem.W.Frag} {elts : List Expr} {kk : Nat} {tpos : Pos} (a e it : Addr) :
    Turn P w K (.Tuple elts kk tpos) (IteT K a) [e, it] e (fun i h => (∃ old, IsEnum h e it ((i : Nat) : Int) old) ∧ h.IsTupleIter it a i ∧ e ≠ it) where
  mem := by simp
  obj := fun i h st b hb => by
    obtain ⟨⟨old, he⟩, ⟨o, ho, hc, hd⟩, _⟩ := st
    rcases (show b = e ∨ b = it by simpa using hb) with rfl | rfl
    · exact ⟨_, he, fun v q => nomatch q⟩
    · exact ⟨o, ho, fun v q => by rw [hd] at q; cases q⟩
  keep := fun i h h' st k => by
    obtain ⟨⟨old, he⟩, hi, hne⟩ := st
    exact ⟨⟨old, k e (by simp) _ he⟩, hi.at fun o q => k it (by simp) o q, hne⟩
  item := by
    intro X hP hw hK hc i pins s σ H E I hf st hg
    subst hP hw hK
    obtain ⟨⟨old, he⟩, hit, hne⟩ := st
    obtain ⟨xs, x, hq, hx⟩ := hg
    obtain ⟨its, rv, p, hz⟩ := I.tuple hq
    obtain ⟨u, hu, ru⟩ := rv.get hx
    have hel : e < s.heap.objs.size := Heap.lt_size he
    have hil : it < s.heap.objs.size := by obtain ⟨_, q, _⟩ := hit; exact Heap.lt_size q
    have pT : s.heap.IsTuple a its.toArray := p
    have hai : a ≠ it := fun z => by
      obtain ⟨o1, g1, c1, _⟩ := hit
      obtain ⟨o2, g2, c2, _⟩ := pT
      rw [z, g1] at g2
      cases g2
      rw [c1] at c2
      injection c2 with q
      exact absurd q (by decide)
    have hae : e ≠ a := fun z => by
      obtain ⟨o2, g2, c2, _⟩ := pT
      rw [← z, he] at g2
      cases g2
      injection c2 with q
      exact absurd q (by decide)
    refine wpAny_pyNext_enum_itemD (Draws.tuple (prog := X.prog) (w := X.w) (A := X.A.in1) (I.ok.hd hc) it a hai its.toArray) he ⟨hit, pT⟩ ?_ hne ?_ fun x' h' tk hx' ho hst' hT hsz hk => ?_
    · obtain ⟨hi, _⟩ := List.getElem?_eq_some_iff.mp hu
      simpa using hi
    · intro hm
      rcases (show e = it ∨ e = a by simpa using hm) with z | z
      · exact hne z
      · exact hae z
    · have ex : x' = u := by
        have e1 : its.toArray[i]? = some x' := hx'
        have e2 : its.toArray[i]? = some u := by simpa using hu
        rw [e1] at e2
        exact Option.some.inj e2
      subst ex
      refine ⟨_, rfl, wpAny_letOwnedTupleGo_enum (s := { s with heap := h', toks := tk + 1 }) ho fun h'' he' sb => ?_⟩
      have hT2 : h''.get? s.heap.objs.size = some { cls := .type "tuple", data := .seq #[.int i tk, x'] } := (sb.2 _ (Nat.ne_of_gt hel)).trans hT
      have new : ObjOk X.prog X.w (upd H s.heap.objs.size (.tup [.int (i : Nat), x])) h'' s.heap.objs.size (.tup [.int (i : Nat), x]) :=
        ⟨by show 2 ≤ sizeLine; decide, [.int i tk, x'], .cons ⟨_, rfl⟩ (.cons ru .nil), ⟨_, hT2, rfl, _, rfl⟩⟩
      have I1 : Inv X pins σ (upd H s.heap.objs.size (.tup [.int (i : Nat), x])) { s with heap := h'', toks := tk + 1 } :=
        I.turnedNew (ch := [e, it]) (fun b ob hb q => (sb.2 b (fun z => hb (by simp [z]))).trans (hk b ob (fun z => hb (by simp [z])) (fun z => hb (by simp [z])) q)) hf (Nat.le_refl _) new
      refine ⟨.ref s.heap.objs.size, _, I1, rfl, ⟨_, x, rfl, I.hok.fresh (Nat.le_refl _), rfl, fun ys hy => by rw [I.tuple_inj hy hq]; exact hx⟩, ⟨⟨x', ?_⟩, hst'.1.at fun o q => (sb.2 it (Ne.symm hne)).trans q, hne⟩, fun b hb => ?_⟩
      · rw [show ((i + 1 : Nat) : Int) = (i : Int) + 1 by omega]
        exact he'
      · have hb' : b < s.heap.objs.size := by
          rcases (show b = e ∨ b = it by simpa using hb) with rfl | rfl
          · exact hel
          · exact hil
        rw [upd_ne (Nat.ne_of_lt hb')]
        exact (hf b hb).1
  done := by
    intro X hP hw hK hc i pins s σ H E I hf st hg
    subst hP hw hK
    obtain ⟨⟨old, he⟩, hit, hne⟩ := st
    obtain ⟨xs, hq, hx⟩ := hg
    obtain ⟨its, rv, p, hz⟩ := I.tuple hq
    obtain ⟨f0, f1, f2, f3, f4, f5⟩ := hf it (by simp)
    have pT : s.heap.IsTuple a its.toArray := p
    have hl := rv.length
    have D : Draws X.prog X.w X.A.in1 it [it, a] i (fun _ _ => False) (fun j h => j = i ∧ h.IsTupleIter it a j ∧ h.IsTuple a its.toArray) := {
      live := fun _ _ st => let ⟨o, ho, _⟩ := st.2.1; ⟨o, ho⟩
      frame := fun _ _ _ st hk => ⟨st.1, st.2.1.at fun o e => hk it (by simp) o e, st.2.2.at fun o e => hk a (by simp) o e⟩
      item := fun j s Q E hj st _ => absurd hj (by rw [st.1]; exact Nat.lt_irrefl _)
      done := fun s Q E st hE => wpAny_nextOf_tuple_end (A := X.A.in1) (I.ok.hd hc) st.2.1 st.2.2 (by simp; omega) hE }
    exact wpAny_pyNext_enum_endD D he ⟨rfl, hit, pT⟩ fun h' eb => ⟨rfl, I.turned (t' := s.toks) (fun b o hb q => eb b o hb q) f0 f1 f3 f4 f5⟩
  self := fun A i s Q E st h => let ⟨⟨_, he⟩, _⟩ := st; wpAny_pyIter_enum he h
def iEnumT (K : PySem.W.Frag) (ta : TA) : TI := fun σ H R => ta σ H fun vs H1 => ∃ a xs, vs = [V.ref a] ∧ SqT K H1 a xs ∧ R (IteT K a) H1
theorem pi_enumT {X : Cx} {e : Expr} {ta : TA} {p pos tpos : Pos} {elts : List Expr} {kk : Nat} (hg : Gl X "enumerate") (hm : X.mg "enumerate" = none) (ha : PA X [e] ta) (hs : starEach [e] X.env = [(false, eval e X.env)] := by rfl) :
    PI X (.Tuple elts kk tpos) (.Call (.Name "enumerate" p) [e] [] pos) (iEnumT X.K ta) := by
  refine ⟨fun pins s σ H R I h => Call_ (ld_blt I hg hm boot_enumerate (PyProof.Rows.callWith_type1 (thn (ha.run pos pins s σ H _ I h) fun us s1 ⟨vs, H1, I1, r1, q1⟩ => ?_) hs rfl))⟩
  obtain ⟨a, xs, ex, hq, q⟩ := q1
  subst ex
  cases r1 with
  | cons r rr =>
    cases rr
    cases r
    obtain ⟨its, rv, p', hz⟩ := I1.tuple hq
    have pT : s1.heap.IsTuple a its.toArray := p'
    refine call_enumB (begins_tuple a its.toArray) pT fun h' he hit hsz hk => wpAny_pyIter_enum he ?_
    have I2 : Inv X pins σ H1 { s1 with heap := h' } := I1.kept (t' := s1.toks) hk
    refine ⟨s1.heap.objs.size + 1, [s1.heap.objs.size + 1, s1.heap.objs.size], _, _, H1, rfl, I2, turn_enumT a (s1.heap.objs.size + 1) s1.heap.objs.size, ⟨⟨.none, he⟩, ⟨_, hit, rfl, rfl⟩, Nat.succ_ne_self _⟩, fun b hb => ?_, q⟩
    have hle : s1.heap.objs.size ≤ b := by
      rcases (show b = s1.heap.objs.size + 1 ∨ b = s1.heap.objs.size by simpa using hb) with z | z
      · rw [z]; exact Nat.le_add_right _ _
      · rw [z]; exact Nat.le_refl _
    exact I1.fpOk hle (I1.hok.fresh hle)
theorem ItD.enumT {K : PySem.W.Frag} {Hm : Hp} {a : Addr} {vs : List V} {xs : List DV} (h : SqT K Hm a vs) (r : Iss K Hm vs xs) : ItD K Hm (IteT K a) (enumD 0 xs) where
  go := fun R μ H i o s hi => by
    rw [enumD_len] at hi
    obtain ⟨v, e, _⟩ := r.get (List.getElem?_eq_getElem hi)
    exact ⟨vs, v, Same.seqT (s.trans hid_le) h, e⟩
  yld := fun R μ H i x H' o s y hi => by
    obtain ⟨T, u, rfl, n, rfl, y⟩ := y
    have e := y vs (Same.seqT (s.trans hid_le) h)
    obtain ⟨d, e2, k⟩ := r.getV e
    have e3 := enumD_get 0 xs i e2
    rw [Nat.zero_add] at e3
    exact ⟨_, e3, o.new n, o.sameNew n, isTup o n (.cons (.int _) (.cons (k.mono s) .nil))⟩
  stop := fun R μ H i o s hi => ⟨vs, Same.seqT (s.trans hid_le) h, by rw [r.length]; rw [enumD_len] at hi; exact hi⟩
theorem ItD.enumL {K : PySem.W.Frag} {Hm : Hp} {a : Addr} {vs : List V} {xs : List DV} (h : Hm a = some (.lst vs)) (r : Iss K Hm vs xs) : ItD K Hm (Ite K a) (enumD 0 xs) where
  go := fun R μ H i o s hi => by
    rw [enumD_len] at hi
    obtain ⟨v, e, _⟩ := r.get (List.getElem?_eq_getElem hi)
    exact ⟨vs, v, SqL.of (hid_le _ _ (s _ _ h)), e⟩
  yld := fun R μ H i x H' o s y hi => by
    obtain ⟨T, u, rfl, n, rfl, y⟩ := y
    have e := y vs (SqL.of (hid_le _ _ (s _ _ h)))
    obtain ⟨d, e2, k⟩ := r.getV e
    have e3 := enumD_get 0 xs i e2
    rw [Nat.zero_add] at e3
    exact ⟨_, e3, o.new n, o.sameNew n, isTup o n (.cons (.int _) (.cons (k.mono s) .nil))⟩
  stop := fun R μ H i o s hi => ⟨vs, SqL.of (hid_le _ _ (s _ _ h)), by rw [r.length]; rw [enumD_len] at hi; exact hi⟩
def sEnumT (w : WE) : WI := fun ρ μ P => w ρ μ fun d μ1 => match d with | .tup xs => P (enumD 0 xs) μ1 | _ => False
def sEnumL (w : WE) : WI := fun ρ μ P => w ρ μ fun d μ1 => match d with | .lst xs => P (enumD 0 xs) μ1 | _ => False
section
variable {X : Cx} {e : Expr} {w : WE} {p pos tpos : Pos} {elts : List Expr} {kk : Nat}
theorem di_enumT (hg : Gl X "enumerate") (hm : X.mg "enumerate" = none) (h : PE X e (tD X.K w)) (hs : starEach [e] X.env = [(false, eval e X.env)] := by rfl) : PI X (.Tuple elts kk tpos) (.Call (.Name "enumerate" p) [e] [] pos) (tDI X.K (sEnumT w)) :=
  PI.imp (pi_enumT hg hm (pa_cons h pa_nil hs) hs) fun σ H RR ⟨R, ρ, μ, P, a, w, k⟩ => ⟨R, ρ, μ, _, a, w, fun d μ1 v H1 p1 o1 s1 i1 => by
    cases i1 with
    | tup hx rx => exact ⟨_, _, rfl, Same.seqT hid_le hx, k _ μ1 H1 _ p1 o1 s1 (.enumT hx rx)⟩
    | _ => exact (show False from p1).elim⟩
theorem di_enumL (hg : Gl X "enumerate") (hm : X.mg "enumerate" = none) (h : PE X e (tD X.K w)) (hs : starEach [e] X.env = [(false, eval e X.env)] := by rfl) : PI X (.Tuple elts kk tpos) (.Call (.Name "enumerate" p) [e] [] pos) (tDI X.K (sEnumL w)) :=
  PI.imp (pi_enum hg hm (pa_cons h pa_nil hs) hs) fun σ H RR ⟨R, ρ, μ, P, a, w, k⟩ => ⟨R, ρ, μ, _, a, w, fun d μ1 v H1 p1 o1 s1 i1 => by
    cases i1 with
    | lst hx rx => exact ⟨_, _, rfl, SqL.of (hid_le _ _ hx), k _ μ1 H1 _ p1 o1 s1 (.enumL hx rx)⟩
    | _ => exact (show False from p1).elim⟩
end
end Dz

set_option Elab.async false
set_option linter.all false
set_option maxRecDepth 100000
set_option maxHeartbeats 2000000
/-! DzM: the deck of the other shape (field mixed). -/
namespace Dz
open PySem L2

def wDraw2 (A B C E F G I J L M : Int) : WS :=
  (wSeq (wDPut (wVar 0) (wC (.str "draws")) (wBin wAdd (wBin wDGet (wVar 0) (wC (.str "draws"))) (wC (.int 1))))
    (wSeq (wAsg (wC (.int 0)) (wgName 2))
    (wSeq (wIfS (wTest (wBin wNeL (wBin wDGet (wVar 0) (wC (.str "cells"))) (wLst wNil))) (wSeq (wAsg (wUn wPop (wBin wDGet (wVar 0) (wC (.str "cells")))) (wgName 2))
    (wIfS (wTest (wBin wGe (wVar 2) (wBin wPow (wC (.int 10)) (wC (.int 18))))) (wSeq (wDrop (wApp (wBin wDGet (wVar 0) (wC (.str "cells"))) (wBin wDiv (wVar 2) (wVar 1))))
    (wRet (wBin wMod (wVar 2) (wVar 1)))) wNext)) wNext)
    (wSeq (wAsg (wBin wDGet (wVar 0) (wC (.str "draws"))) (wgName 3))
    (wSeq (wAsg (wBin wAdd (wBin wAdd (wBin wDGet (wVar 0) (wC (.str "mixed"))) (wBin wMod (wVar 2) (wC (.int A)))) (wBin wMul (wBin wMul (wC (.int B)) (wVar 3)) (wVar 3))) (wgName 4))
    (wSeq (wAsg (wBin wMod (wBin wMul (wVar 4) (wC (.int C))) (wC (.int E))) (wgName 4))
    (wSeq (wAsg (wBin wMod (wBin wAdd (wBin wAdd (wBin wMul (wVar 4) (wVar 4)) (wBin wMul (wC (.int F)) (wVar 4))) (wVar 3)) (wC (.int G))) (wgName 4))
    (wRet (wBin wMod (wBin wDiv (wBin wMod (wBin wMul (wVar 4) (wBin wAdd (wBin wDiv (wVar 4) (wC (.int I))) (wC (.int J)))) (wC (.int L))) (wC (.int M))) (wVar 1))))))))))
theorem dput_e {E : DEnds} {ρ : Rho} {μ : Mh} {a : Addr} {kvs : List (Key × DV)} {y v : DV} {k : Key} {i : Nat} {wv : WE} (h : μ a = some (.dct kvs)) (hk : keyD y = some k) (l : kvs.length < sizeLine) (h1 : ρ[i]? = some (some (.obj a))) (hw : ∀ P : DV → Mh → Prop, P v μ → wv ρ μ P) (q : E.nx ρ (updM μ a (.dct (putD kvs k v)))) : wDPut (wVar i) (wC y) wv E ρ μ := by
  unfold wDPut
  refine hw _ ?_
  unfold wVar wC
  simp only [h, h1, hk, atW]
  exact ⟨l, q⟩
theorem draw2_ok {A B C E F G I J L M : Int} (hA : sm A) (hB : sm B) (hC : sm C) (hE : sm E) (hF : sm F) (hG : sm G) (hI : sm I) (hL : sm L) (hM : sm M) (ds : List DV) (μ : Mh) (Q : DV → Mh → Prop) (hl : ds.length = 2) (h : wfDraw "mixed" ds μ Q) :
    wDraw2 A B C E F G I J L M { nx := fun _ μ' => Q .none μ', rt := Q } (ds.map some ++ List.replicate 3 none) μ := by
  obtain ⟨a, c, m, many, rfl, h0, h64, ⟨ne, t, n, cells, ha, hc, t0, t1, n0, n1, cl⟩, q⟩ := h
  have na : a ≠ c := fun z => ne z.symm
  let kv1 : List (Key × DV) := [(.inr "cells", .obj c), (.inr "mixed", .int t), (.inr "draws", .int (n + 1))]
  let μ1 : Mh := updM μ a (.dct kv1)
  have ha1 : μ1 a = some (.dct kv1) := updM_same
  have hc1 : μ1 c = some (.lst (cells.map .int)) := (updM_ne ne).trans hc
  have lg : ∀ x : Int, 0 < x → x < 2 ^ 64 → x.natAbs.log2 < 9000 := fun x x0 x1 => by
    have : x.natAbs < 2 ^ 64 := by omega
    exact (Nat.log2_lt (n := x.natAbs) (k := 9000) (by omega)).mpr (Nat.lt_of_lt_of_le this (Nat.pow_le_pow_right (by decide) (by decide)))
  have dm : ∀ x : Int, CDivW x many := fun x => ⟨h0, lg many h0 h64⟩
  have dM : ∀ x : Int, CDivW x M := fun x => ⟨hM.1, lg M hM.1 (by have := hM.2; omega)⟩
  have dI : ∀ x : Int, CDivW x I := fun x => ⟨hI.1, lg I hI.1 (by have := hI.2; omega)⟩
  have fin : ∀ (μ2 : Mh) (cs : List Int), μ2 a = μ1 a → μ2 c = some (.lst (cs.map .int)) → cs.length ≤ 63 → (∀ b, b ≠ a → b ≠ c → μ2 b = μ b) → ∀ r, 0 ≤ r → r < many → Q (.int r) μ2 := fun μ2 cs e1 e2 e3 e4 r r0 r1 =>
    q r μ2 r0 r1 ⟨ne, t, n + 1, cs, e1.trans ha1, e2, t0, t1, by omega, by omega, e3⟩ e4
  have v4 : putD [(.inr "cells", .obj c), (.inr "mixed", .int t), (.inr "draws", .int n)] (.inr "draws") (.int (n + 1)) = kv1 := rfl
  have bE : ∀ x : Int, CMul (x % E) (x % E) := fun x => by
    left
    have p1 := Int.emod_nonneg x (show E ≠ 0 by have := hE.1; omega)
    have p2 := Int.emod_lt_of_pos x hE.1
    have := hE.2
    omega
  have bG : ∀ x y : Int, CMul (x % G) y := fun x y => by
    left
    have p1 := Int.emod_nonneg x (show G ≠ 0 by have := hG.1; omega)
    have p2 := Int.emod_lt_of_pos x hG.1
    have := hG.2
    omega
  have bn : ∀ x : Int, CMul x (n + 1) := fun x => by right; omega
  have G1 := @dget_o
  have G2 := @dput_e
  have G3 := @neL_o
  have G4 := @pop_o
  -- the last rows
  have tail : ∀ (cell : Int) (z3 z4 : Option DV) (μ2 : Mh), μ2 a = some (.dct kv1) → (∀ r, 0 ≤ r → r < many → Q (.int r) μ2) →
      (wSeq (wAsg (wBin wDGet (wVar 0) (wC (.str "draws"))) (wgName 3))
    (wSeq (wAsg (wBin wAdd (wBin wAdd (wBin wDGet (wVar 0) (wC (.str "mixed"))) (wBin wMod (wVar 2) (wC (.int A)))) (wBin wMul (wBin wMul (wC (.int B)) (wVar 3)) (wVar 3))) (wgName 4))
    (wSeq (wAsg (wBin wMod (wBin wMul (wVar 4) (wC (.int C))) (wC (.int E))) (wgName 4))
    (wSeq (wAsg (wBin wMod (wBin wAdd (wBin wAdd (wBin wMul (wVar 4) (wVar 4)) (wBin wMul (wC (.int F)) (wVar 4))) (wVar 3)) (wC (.int G))) (wgName 4))
    (wRet (wBin wMod (wBin wDiv (wBin wMod (wBin wMul (wVar 4) (wBin wAdd (wBin wDiv (wVar 4) (wC (.int I))) (wC (.int J)))) (wC (.int L))) (wC (.int M))) (wVar 1))))))) { nx := fun _ μ' => Q .none μ', rt := Q } [some (.obj a), some (.int many), some (.int cell), z3, z4] μ2 := by
    intro cell z3 z4 μ2 e2 k
    generalize wDGet = g1 at G1 ⊢
    refine G1 (y := .str "draws") e2 rfl (show valD kv1 _ = some (.int (n + 1)) from rfl) ?_
    refine G1 (y := .str "mixed") e2 rfl (show valD kv1 _ = some (.int t) from rfl) ?_
    exact ⟨hA.1, cm_l hB, bn _, cm_r hC, hE.1, bE _, cm_l hF, hG.1, dI _, bG _ _, hL.1, dM _, h0, k _ (Int.emod_nonneg _ (by omega)) (Int.emod_lt_of_pos _ h0)⟩
  unfold wDraw2
  generalize wDPut = g2 at G2 ⊢
  generalize wNeL = g3 at G3 ⊢
  generalize wPop = g4 at G4 ⊢
  refine G2 (v := .int (n + 1)) (kvs := [(.inr "cells", .obj c), (.inr "mixed", .int t), (.inr "draws", .int n)]) ha rfl (Nat.le_of_ble_eq_true rfl) rfl (fun P hP => ?_) ?_
  · have G1' := @dget_o
    generalize wDGet = g1 at G1' ⊢
    exact G1' (y := .str "draws") ha rfl (show valD _ _ = some (.int n) from rfl) hP
  · rw [v4]
    generalize hg1 : wDGet = g1 at G1 ⊢
    refine G1 (y := .str "cells") ha1 rfl (show valD kv1 _ = some (.obj c) from rfl) ?_
    refine ⟨Nat.zero_le _, ?_⟩
    cases cells with
    | nil =>
      refine G3 (es := []) hc1 rfl rfl ?_
      subst hg1
      exact tail 0 none none μ1 ha1 (fin μ1 [] rfl hc1 (Nat.zero_le _) fun b x y => updM_ne x)
    | cons y ys =>
      refine G3 (es := []) hc1 (shaped_ints _) rfl ?_
      refine G1 (y := .str "cells") ha1 rfl (show valD kv1 _ = some (.obj c) from rfl) ?_
      have hlast : ∃ z, ((y :: ys).map DV.int)[((y :: ys).map DV.int).length - 1]? = some (.int z) := by
        refine ⟨(y :: ys).getLast (by intro z; cases z), ?_⟩
        rw [List.length_map, List.getElem?_map, List.getLast_eq_getElem, List.getElem?_eq_getElem (by simp)]
        rfl
      obtain ⟨z, hz⟩ := hlast
      refine G4 hc1 hz ?_
      have hdl : ((y :: ys).map DV.int).dropLast = (y :: ys).dropLast.map DV.int := by rw [List.map_dropLast]
      have ldl : (y :: ys).dropLast.length ≤ 62 := by rw [List.length_dropLast]; omega
      generalize (y :: ys).dropLast = cs at hdl ldl
      rw [hdl]
      let μ2 : Mh := updM μ1 c (.lst (cs.map .int))
      have ha2 : μ2 a = some (.dct kv1) := (updM_ne na).trans ha1
      have hc2 : μ2 c = some (.lst (cs.map .int)) := updM_same
      refine ⟨cpow_ten (by decide) (by decide), ?_⟩
      cases hge : decide ((10 : Int) ^ 18 ≤ z) with
      | true =>
        have e : decide ((10 : Int) ^ (18 : Int).toNat ≤ z) = true := hge
        show (match decide ((10 : Int) ^ (18 : Int).toNat ≤ z) with | true => _ | false => _)
        rw [e]
        refine G1 (y := .str "cells") ha2 rfl (show valD kv1 _ = some (.obj c) from rfl) ?_
        refine ⟨?_, dm z, ?_⟩
        · show isLstM (.obj c) μ2
          unfold isLstM
          simp only [hc2]
        · show (match μ2 c with | some (.lst ds) => _ | _ => False)
          rw [hc2]
          refine ⟨by rw [List.length_map, sizeLine_eq]; omega, h0, ?_⟩
          refine fin _ (cs ++ [z / many]) ((updM_ne na).trans ((updM_ne na).trans rfl)) ?_ (by simp; omega) (fun b x y => (updM_ne y).trans ((updM_ne y).trans (updM_ne x))) _ (Int.emod_nonneg _ (by omega)) (Int.emod_lt_of_pos _ h0)
          rw [updM_same, List.map_append]
          rfl
      | false =>
        have e : decide ((10 : Int) ^ (18 : Int).toNat ≤ z) = false := hge
        show (match decide ((10 : Int) ^ (18 : Int).toNat ≤ z) with | true => _ | false => _)
        rw [e]
        subst hg1
        exact tail z none none μ2 ha2 (fin μ2 cs (updM_ne na) hc2 (by omega) fun b x y => (updM_ne y).trans (updM_ne x))

def wDeck2 (S B A C M : Int) : WS :=
  (wSeq (wAsg (wB wList (wCons (wSl (wVar 0) wNoPart (wPart (wC (.int 63)))) wNil)) (wgName 1))
    (wSeq (wAsg (wC (.int S)) (wgName 2))
    (wSeq (wFor (sLst (wVar 1)) (wgName 3) (wAsg (wBin wMod (wBin wAdd (wBin wAdd (wBin wMul (wVar 2) (wC (.int B))) (wBin wMod (wVar 3) (wC (.int A)))) (wC (.int C))) (wC (.int M))) (wgName 2)))
    (wRet (wDctM [((.inr "cells"), (wRevM (wVar 1))), ((.inr "mixed"), (wVar 2)), ((.inr "draws"), (wC (.int 0)))])))))
theorem deck2_ok {S B A C M : Int} (hS : 0 ≤ S) (hS2 : S < 2 ^ 32) (hB : sm B) (hA : sm A) (hM : sm M) (ds : List DV) (μ : Mh) (Q : DV → Mh → Prop) (hl : ds.length = 1) (h : wfDeck "mixed" ds μ Q) :
    wDeck2 S B A C M { nx := fun _ μ' => Q .none μ', rt := Q } (ds.map some ++ List.replicate 3 none) μ := by
  obtain ⟨ns, rfl, q⟩ := h
  have hcut : cutD (ns.map DV.int) none (some 63) = (ns.take 63).map DV.int := by
    have e0 : HT.sIx (ns.map DV.int).length 0 none = 0 := rfl
    have e1 : min (HT.sIx (ns.map DV.int).length (ns.map DV.int).length (some 63)) (ns.map DV.int).length = min 63 (ns.map DV.int).length := by
      show min (min (63 : Nat) _) _ = _
      omega
    unfold cutD
    rw [e0, List.drop_zero, Nat.sub_zero, List.take_eq_take_min, e1, ← List.take_eq_take_min, List.map_take]
  have hlen : (ns.take 63).length ≤ 63 := by rw [List.length_take]; omega
  have key : ∀ xs : List Int, xs.length ≤ 63 → ∀ t : Int, 0 ≤ t → t < 2 ^ 32 → ∀ z, wRet (wDctM [((.inr "cells"), (wRevM (wVar 1))), ((.inr "mixed"), (wVar 2)), ((.inr "draws"), (wC (.int 0)))]) { nx := fun _ μ' => Q .none μ', rt := Q } [some (.fix (ns.map .int)), some (.lst (xs.map .int)), some (.int t), z] μ := fun xs hx t t0 t1 z => by
    intro c hc a ha
    have nac : a ≠ c := fun e => by
      subst e
      have : updM μ a _ a = none := ha
      rw [updM_same] at this
      cases this
    have ha' : μ a = none := by
      have h1 : updM μ c _ a = none := ha
      rw [updM_ne nac] at h1
      exact h1
    refine q a c _ ha' hc ⟨fun e => nac e.symm, t, 0, xs.reverse, updM_same, ?_, t0, t1, by omega, by omega, by simp; omega⟩ fun b x y => (updM_ne x).trans (updM_ne y)
    rw [updM_ne fun e => nac e.symm, updM_same, List.map_reverse]
  have loop : ∀ (ys : List Int) (t : Int) (z : Option DV), 0 ≤ t → t < 2 ^ 32 → forW (wgName 3) (wAsg (wBin wMod (wBin wAdd (wBin wAdd (wBin wMul (wVar 2) (wC (.int B))) (wBin wMod (wVar 3) (wC (.int A)))) (wC (.int C))) (wC (.int M))) (wgName 2))
      { nx := wRet (wDctM [((.inr "cells"), (wRevM (wVar 1))), ((.inr "mixed"), (wVar 2)), ((.inr "draws"), (wC (.int 0)))]) { nx := fun _ μ' => Q .none μ', rt := Q }, rt := Q } (ys.map .int) [some (.fix (ns.map .int)), some (.lst ((ns.take 63).map .int)), some (.int t), z] μ := by
    intro ys
    induction ys with
    | nil => exact fun t z t0 t1 => key _ hlen t t0 t1 z
    | cons y ys ih =>
      intro t z t0 t1
      refine ⟨cm_r hB, hA.1, hM.1, ih _ _ (Int.emod_nonneg _ (by have := hM.1; omega)) (Int.lt_trans (Int.emod_lt_of_pos _ hM.1) hM.2)⟩
  show forW _ _ _ (cutD (ns.map DV.int) none (some 63)) [some (.fix (ns.map .int)), some (.lst (cutD (ns.map DV.int) none (some 63))), some (.int S), none] μ
  rw [hcut]
  exact loop _ S none hS hS2
end Dz

set_option Elab.async false
set_option linter.all false
set_option maxRecDepth 100000
set_option maxHeartbeats 2000000
/-! DzB: match of a text against written texts. -/
namespace Dz
open PySem L2

section
variable {X : Cx}
/-- the pattern takes exactly the texts cs, and binds nothing -/
def PatIs (X : Cx) (p : Pattern) (cs : List Str) : Prop := ∀ (pins : List (Addr × Obj)) (s : Shared) (σ : L2.St) (H : Hp) (z : Str) (t : Tok), Inv X pins σ H s →
  wpAny (model X.prog X.w) X.A (matchPattern p X.env (.str z t)) (fun r s' => Inv X pins σ H s' ∧ r = if cs.contains z = true then some [] else none) X.xe s
def FirstIs (X : Cx) (ps : List Pattern) (cs : List Str) : Prop := ∀ (pins : List (Addr × Obj)) (s : Shared) (σ : L2.St) (H : Hp) (z : Str) (t : Tok), Inv X pins σ H s →
  wpAny (model X.prog X.w) X.A (matchFirst ps X.env (.str z t)) (fun r s' => Inv X pins σ H s' ∧ r = if cs.contains z = true then some [] else none) X.xe s
theorem pat_val {c : Str} {k : Nat} {p pos : Pos} : PatIs X (.MatchValue (.Constant (.str c) k p) pos) [c] := by
  intro pins s σ H z t I
  refine wpAny_matchPattern_Value (thn ((pe_str (X := X) (x := c)).run pins s σ H (fun v H' => v = .str c ∧ H' = H) I ⟨rfl, rfl⟩) fun u s1 ⟨v, H1, I1, r1, e1, e2⟩ => ?_)
  subst e1 e2
  refine thn (op_eq (X := X) pins s1 σ H1 (.str z) (.str c) (.str z t) u (fun v H' => v = .bl (decide (z = c)) ∧ H' = H1) I1 ⟨t, rfl⟩ r1 ⟨rfl, ?_, rfl⟩) fun b s2 ⟨v, H2, I2, r2, e1, e2⟩ => ?_
  · congr 1
    exact decide_eq_decide.mpr ⟨fun h => V.str.inj h, fun h => by rw [h]⟩
  · subst e1 e2
    cases r2
    have hc : ([c] : List Str).contains z = decide (z = c) := by
      rw [List.contains_cons]
      show (z == c || false) = _
      rw [Bool.or_false]
      exact Bool.beq_eq_decide_eq z c
    rw [hc]
    refine wpAny_pure ?_
    cases h : decide (z = c) with
    | true => exact ⟨I2, rfl⟩
    | false => exact ⟨I2, rfl⟩
theorem first_nil : FirstIs X [] [] := fun pins s σ H z t I => wpAny_matchFirst_nil ⟨I, rfl⟩
theorem first_cons {p : Pattern} {ps : List Pattern} {cs ds : List Str} (h : PatIs X p cs) (hr : FirstIs X ps ds) : FirstIs X (p :: ps) (cs ++ ds) := by
  intro pins s σ H z t I
  refine wpAny_matchFirst_cons (thn (h pins s σ H z t I) fun r s1 ⟨I1, e⟩ => ?_)
  subst e
  have ec : (cs ++ ds).contains z = (cs.contains z || ds.contains z) := by simp
  rw [ec]
  cases h1 : cs.contains z with
  | true =>
    rw [if_pos rfl]
    exact ⟨I1, rfl⟩
  | false =>
    rw [if_neg Bool.false_ne_true, Bool.false_or]
    exact hr pins s1 σ H z t I1
theorem pat_or {ps : List Pattern} {cs : List Str} {pos : Pos} (h : FirstIs X ps cs) : PatIs X (.MatchOr ps pos) cs := by
  intro pins s σ H z t I
  refine wpAny_matchPattern_Or (thn (h pins s σ H z t I) fun r s1 ⟨I1, e⟩ => ?_)
  subst e
  cases h1 : cs.contains z with
  | true =>
    rw [if_pos rfl]
    refine ⟨I1, ?_⟩
    simp
  | false =>
    rw [if_neg Bool.false_ne_true]
    exact ⟨I1, rfl⟩
structure PMs (X : Cx) (cases_ : List MatchCase) (t : Str → TS) : Prop where
  run : ∀ (pins : List (Addr × Obj)) (s : Shared) (σ : L2.St) (H : Hp) (z : Str) (tk : Tok) (first : Bool) (D : Ends), Inv X pins σ H s → t z D σ H → wpAny (model X.prog X.w) X.A (matchCases cases_ X.env (.str z tk) first) (SP X pins D) X.xe s
theorem pm_nil : PMs X [] (fun _ => tNext) := ⟨fun pins s σ H z tk first D I h => wpAny_matchCases_nil ⟨σ, H, I, h⟩⟩
theorem pm_cons {p : Pattern} {cs : List Str} {body : List Stmt} {rest : List MatchCase} {tb : TS} {tr : Str → TS} (hp : PatIs X p cs) (hb : PSs X body tb) (hr : PMs X rest tr) : PMs X (⟨p, none, body⟩ :: rest) (fun z D σ H => if cs.contains z = true then tb D σ H else tr z D σ H) := by
  refine ⟨fun pins s σ H z tk first D I h => ?_⟩
  refine wpAny_matchCases_cons (thn (hp pins s σ H z tk I) fun r s1 ⟨I1, e⟩ => ?_)
  subst e
  cases h1 : cs.contains z with
  | true =>
    rw [if_pos rfl]
    rw [if_pos h1] at h
    exact wpAny_assignInOrder_none (hb.run pins s1 σ H D I1 h)
  | false =>
    rw [if_neg Bool.false_ne_true]
    rw [if_neg (by rw [h1]; exact Bool.false_ne_true)] at h
    exact hr.run pins s1 σ H z tk false D I1 h
/-! over data -/
def mW (z : Str) : List (List Str × WS) → WS
  | [] => wNext
  | (cs, b) :: r => fun E ρ μ => if cs.contains z = true then b E ρ μ else mW z r E ρ μ
def wMatch (w : WE) (cs : List (List Str × WS)) : WS := fun E ρ μ => w ρ μ fun d μ1 => match d with | .str z => mW z cs E ρ μ1 | _ => False
theorem dm_nil : PMs X [] (fun z => tDS X.K (mW z [])) := ⟨fun pins s σ H z tk first D I ⟨R, ρ, μ, E, a, w, k⟩ => pm_nil.run pins s σ H z tk first D I (k.nx ρ μ σ H w a (Same.refl _))⟩
theorem dm_cons {p : Pattern} {cs : List Str} {body : List Stmt} {rest : List MatchCase} {b : WS} {r : List (List Str × WS)} (hp : PatIs X p cs) (hb : PSs X body (tDS X.K b)) (hr : PMs X rest (fun z => tDS X.K (mW z r))) : PMs X (⟨p, none, body⟩ :: rest) (fun z => tDS X.K (mW z ((cs, b) :: r))) := by
  refine ⟨fun pins s σ H z tk first D I ⟨R, ρ, μ, E, a, w, k⟩ => (pm_cons hp hb hr).run pins s σ H z tk first D I ?_⟩
  have w' : if cs.contains z = true then b E ρ μ else mW z r E ρ μ := w
  show if cs.contains z = true then tDS X.K b D σ H else tDS X.K (mW z r) D σ H
  by_cases h1 : cs.contains z = true
  · rw [if_pos h1] at w' ⊢
    exact ⟨R, ρ, μ, E, a, w', k⟩
  · rw [if_neg h1] at w' ⊢
    exact ⟨R, ρ, μ, E, a, w', k⟩
theorem ds_match {e : Expr} {w : WE} {cases_ : List MatchCase} {cs : List (List Str × WS)} {pos : Pos} (he : PE X e (tD X.K w)) (hm : PMs X cases_ (fun z => tDS X.K (mW z cs))) : PS X (.Match e cases_ pos) (tDS X.K (wMatch w cs)) := by
  refine ⟨fun pins s σ H D I ⟨R, ρ, μ, E, a, w', k⟩ => ?_⟩
  refine wpAny_Match (thn (he.run pins s σ H (fun v H1 => ∃ z, v = .str z ∧ tDS X.K (mW z cs) D σ H1) I ⟨R, ρ, μ, _, a, w', fun d μ1 v H1 p1 o1 s1 i1 => ?_⟩) fun u s1 ⟨v, H1, I1, r1, z, ev, q⟩ => ?_)
  · cases i1 with
    | str z => exact ⟨z, rfl, R, ρ, μ1, E, a.step o1 s1, p1, k.step s1⟩
    | _ => exact (show False from p1).elim
  · subst ev
    obtain ⟨t, rfl⟩ := r1
    exact hm.run pins s1 σ H1 z t true D I1 q
end
end Dz

set_option Elab.async false
set_option linter.all false
set_option maxRecDepth 100000
set_option maxHeartbeats 2000000
/-! DzC: tuples written at the module's level. -/
namespace Dz
open PySem L2

/-- a value of the top that is data whatever the heap is -/
def CI (K : PySem.W.Frag) (u : Value) (d : DV) : Prop := ∃ v, RelV v u ∧ ∀ H, Is K H v d
inductive CIs (K : PySem.W.Frag) : List Value → List DV → Prop
  | nil : CIs K [] []
  | cons {u : Value} {us : List Value} {d : DV} {ds : List DV} : CI K u d → CIs K us ds → CIs K (u :: us) (d :: ds)
theorem CIs.vals {K : PySem.W.Frag} : ∀ {us : List Value} {ds : List DV}, CIs K us ds → ∃ xs, Vals xs us ∧ ∀ H, Iss K H xs ds
  | _, _, .nil => ⟨[], .nil, fun _ => .nil⟩
  | _, _, .cons ⟨v, r, i⟩ h => by
    obtain ⟨xs, r2, i2⟩ := CIs.vals h
    exact ⟨v :: xs, .cons r r2, fun H => .cons (i H) (i2 H)⟩
theorem ci_str {K : PySem.W.Frag} {x : Str} {t : Tok} : CI K (.str x t) (.str x) := ⟨.str x, ⟨t, rfl⟩, fun _ => .str x⟩
theorem ci_int {K : PySem.W.Frag} {i : Int} {t : Tok} : CI K (.int i t) (.int i) := ⟨.int i, ⟨t, rfl⟩, fun _ => .int i⟩
theorem ci_non {K : PySem.W.Frag} : CI K .none .none := ⟨.non, rfl, fun _ => .none⟩
theorem ci_tup {K : PySem.W.Frag} {a : Addr} {od : Option Addr} {its : Array Value} {n : Nat} {sl : Array (Option Value)} {ds : List DV} (l : K.lookup a = some ⟨.type "tuple", od, .seq its n, sl⟩) (hz : its.size ≤ sizeLine) (h : CIs K its.toList ds) : CI K (.ref a) (.tup ds) := by
  obtain ⟨xs, r, i⟩ := h.vals
  exact ⟨.ref a, rfl, fun H => .tup (.inr ⟨_, its, n, l, rfl, rfl, hz, r⟩) (i H)⟩
/-- a name of the top that is a constant -/
def GlobIs (K : PySem.W.Frag) (mg : Str → Option Value) (x : Str) (d : DV) : Prop := ∃ u, mg x = some u ∧ CI K u d
theorem glob_of {K : PySem.W.Frag} {h : Heap} {mg : Str → Option Value} {x : Str} {u : Value} {d : DV} (X : K.In h) (G : h.Ns mainGlobals mg) (a : PySem.W.nsIn K mainGlobals x = some (some u)) (c : CI K u d) : GlobIs K mg x d := ⟨u, PySem.W.mg_of X G a, c⟩
theorem d_globE {X : Cx} {x : Str} {d : DV} {pos : Pos} (hg : Gl X x) (h : GlobIs X.K X.mg x d) (hd : (x == ("__debug__" : Str)) = false := by decide) : PE X (.Name x pos) (tD X.K (wC d)) := by
  obtain ⟨u, hm, v, r, i⟩ := h
  exact d_glob hg ⟨u, hm, r⟩ i hd
end Dz

set_option Elab.async false
set_option linter.all false
set_option maxRecDepth 100000
set_option maxHeartbeats 2000000
/-! DzI: xs.index(y), d.get(k), d.get(k, x). -/
namespace Dz
open PySem L2

section
variable {X : Cx} {oe e f : Expr} {pos apos : Pos} {wo we wf : WE}
theorem toPys_get : ∀ {ds : List DV} {j : Nat}, (toPys ds)[j]? = ds[j]?.map toPy
  | ds, j => by rw [toPys_map, List.getElem?_map]
/-- the first place of an equal one -/
def wIndex (wo we : WE) : WE := fun ρ μ P => wo ρ μ fun x μ1 => match x with
  | .lst ds => we ρ μ1 fun y μ2 => shapedD (.lst ds) = true ∧ shapedD y = true ∧ ∃ j z, ds[j]? = some z ∧ deepEq z y = true ∧ (∀ m z', m < j → ds[m]? = some z' → deepEq z' y = false) ∧ P (.int (j : Nat)) μ2
  | _ => False
theorem d_index {k : Nat} (hr : Room k X.A) (ho : PE X oe (tD X.K wo)) (he : PE X e (tD X.K we)) (hs : starEach [e] X.env = [(false, eval e X.env)] := by rfl) (hbase : attributeBase oe "index" X.env (eval oe X.env) = eval oe X.env := by rfl)
    (hfew : ((backTo pos (starEach [e] X.env)).all (fun x => !x.1) && (backToKw pos (keywordEach [] X.env)).all (fun x => x.1.isSome) && decide (([e] : List Expr).length + ([] : List Keyword).length + (if ([] : List Keyword).isEmpty then 0 else 1) < 30)) = true := by rfl) (hline : (apos.endLine == pos.line) = true := by rfl) :
    PE X (.Call (.Attribute oe "index" apos) [e] [] pos) (tD X.K (wIndex wo we)) :=
  PE.imp (pe_bm PySem.F.plainAttrs_list PySem.F.slot_list_index PySem.F.type_list_index (mt_indexD (by have := hr.un; omega)) ho (pa_cons he pa_nil hs) hbase hfew hline hs) fun σ H Q ⟨R, ρ, μ, P, a, w, k⟩ => ⟨R, ρ, μ, _, a, w, fun x μ1 v H1 p1 o1 s1 i1 => by
    cases i1 with
    | @lst b xs ds hx rx =>
      refine ⟨.inl ⟨rfl, xs, SqL.of (hid_le _ _ hx)⟩, R, ρ, μ1, _, a.step o1 s1, p1, fun y μ2 u H2 p2 o2 s2 i2 => ?_⟩
      obtain ⟨sl1, sy, j, z, hj, hz, hno, q⟩ := p2
      have hl2 : Is X.K H2 (.ref b) (.lst ds) := (Is.mono s2 (Is.lst hx rx)).mono hid_le
      have hy2 := i2.mono hid_le
      have d1 := hl2.dpS sl1
      have d2 := hy2.dpS sy
      refine ⟨b, u, toPy y, toPys ds, j, toPy z, rfl, rfl, d1.1, d2.1, d1.2, d2.2, by rw [toPys_get, hj]; rfl, hz, fun m z' hm hz' => ?_, (k.step (s1.trans s2)).val o2 q (.int _)⟩
      rw [toPys_get] at hz'
      cases hd : ds[m]? with
      | none => rw [hd] at hz'; cases hz'
      | some d =>
        rw [hd] at hz'
        have : toPy d = z' := Option.some.inj hz'
        rw [← this]
        exact hno m d hm hd
    | _ => exact (show False from p1).elim⟩
/-! d.get -/
theorem valV_none {kvs : List (Key × V)} {ds : List (Key × DV)} {k : Key} (e : kvs.map (·.1) = ds.map (·.1)) (h : valD ds k = none) : valV kvs k = none := by
  have hd : ∀ d ∈ ds, ¬ d.1 = k := by
    unfold valD at h
    rw [Option.map_eq_none_iff, List.find?_eq_none] at h
    intro d hd
    simpa using h d hd
  unfold valV
  rw [Option.map_eq_none_iff, List.find?_eq_none]
  intro x hx
  have : x.1 ∈ ds.map (·.1) := by rw [← e]; exact List.mem_map_of_mem hx
  obtain ⟨d, h1, h2⟩ := List.mem_map.mp this
  have := hd d h1
  rw [h2] at this
  simpa using this
def isDct (x : DV) (μ : Mh) : Prop := match x with
  | .obj a => match μ a with | some (.dct _) => True | _ => False
  | .dct _ => True
  | _ => False
def getW (kvs : List (Key × DV)) (y z : DV) (μ : Mh) (P : DV → Mh → Prop) : Prop := atW (keyD y) fun k => match valD kvs k with | some d => P d μ | none => P z μ
def wGet2 (wd wk wx : WE) : WE := fun ρ μ P => wd ρ μ fun x μ1 => isDct x μ1 ∧ wk ρ μ1 fun y μ2 => wx ρ μ2 fun z μ3 => match x with
  | .obj a => match μ3 a with
    | some (.dct kvs) => getW kvs y z μ3 P
    | _ => False
  | .dct kvs => getW kvs y z μ3 P
  | _ => False
theorem isD_of {K : PySem.W.Frag} {R : Hp} {μ : Mh} {H : Hp} {v : V} {x : DV} (o : Ok K R μ H) (i : Is K (hid R μ H) v x) (h : isDct x μ) : ∃ a, v = .ref a ∧ IsD H a := by
  cases i with
  | obj a =>
    have h' : (match μ a with | some (.dct _) => True | _ => False) := h
    split at h'
    · rename_i kvs e
      obtain ⟨ks, h3, _⟩ := o.ob a _ e
      exact ⟨a, rfl, .inl ⟨ks, .inl h3⟩⟩
    · exact h'.elim
  | dct h4 h5 h6 => exact ⟨_, rfl, .inl ⟨_, .inl (hid_le _ _ h4)⟩⟩
  | _ => exact h.elim
theorem get_core {K : PySem.W.Frag} {R : Hp} {μ : Mh} {H Hm : Hp} {ks : List (Key × V)} {kvs : List (Key × DV)} {y z : DV} {u v : V} {P : DV → Mh → Prop} {Q : VK} {b : Addr} (o : Ok K R μ H) (k : Nxt K R μ H P Q) (j : Is K (hid R μ H) u y) (i : Is K (hid R μ H) v z) (h3 : H b = some (.dK ks)) (h4 : ks.map (·.1) = kvs.map (·.1)) (h5 : Iss K (hid R μ H) (ks.map (·.2)) (kvs.map (·.2))) (w : getW kvs y z μ P) : ∃ q, DGet H b u q ∧ Q (q.getD v) H := by
  obtain ⟨key, h1, w2⟩ := atW_of w
  rw [keyD_of j h1]
  refine ⟨valV ks key, DGet.k h3, ?_⟩
  cases hd : valD kvs key with
  | none =>
    rw [hd] at w2
    rw [valV_none h4 hd]
    exact k.val o w2 i
  | some d =>
    rw [hd] at w2
    obtain ⟨x, h6, h7⟩ := Iss.val h4 h5 hd
    rw [h6]
    exact k.val o w2 h7
theorem d_get2 {k : Nat} (hr : Room k X.A) (ho : PE X oe (tD X.K wo)) (he : PE X e (tD X.K we)) (hf : PE X f (tD X.K wf)) (m : M2 X oe "get" apos e f pos) : PE X (.Call (.Attribute oe "get" apos) [e, f] [] pos) (tD X.K (wGet2 wo we wf)) :=
  PE.imp (pe_dget2 (by have := hr.un; omega) ho he hf m) fun σ H Q ⟨R, ρ, μ, P, a, w, k⟩ => ⟨R, ρ, μ, _, a, w, fun x μ1 v H1 p1 o1 s1 i1 => by
    obtain ⟨b, rfl, hd⟩ := isD_of o1 i1 p1.1
    refine ⟨b, rfl, hd, R, ρ, μ1, _, a.step o1 s1, p1.2, fun y μ2 u H2 p2 o2 s2 i2 => ⟨R, ρ, μ2, _, a.step o2 (s1.trans s2), p2, fun z μ3 zv H3 p3 o3 s3 i3 => ?_⟩⟩
    have k3 := k.step ((s1.trans s2).trans s3)
    have i1' := i1.mono (s2.trans s3)
    cases i1' with
    | obj =>
      have p3' : (match μ3 b with | some (.dct kvs) => getW kvs y z μ3 P | _ => False) := p3
      split at p3'
      · rename_i kvs e
        obtain ⟨ks, h3, h4, h5⟩ := o3.ob b _ e
        exact get_core (Hm := H3) o3 k3 (i2.mono s3) i3 h3 h4 h5 p3'
      · exact p3'.elim
    | dct h4 h5 h6 => exact get_core (Hm := H3) o3 k3 (i2.mono s3) i3 (hid_le _ _ h4) h5 h6 p3
    | _ => exact (show False from p3).elim⟩
def wGet1 (wd wk : WE) : WE := fun ρ μ P => wd ρ μ fun x μ1 => isDct x μ1 ∧ wk ρ μ1 fun y μ2 => match x with
  | .obj a => match μ2 a with
    | some (.dct kvs) => getW kvs y .none μ2 P
    | _ => False
  | .dct kvs => getW kvs y .none μ2 P
  | _ => False
theorem d_get1 {k : Nat} (hr : Room k X.A) (ho : PE X oe (tD X.K wo)) (he : PE X e (tD X.K we)) (m : M1 X oe "get" apos e pos) : PE X (.Call (.Attribute oe "get" apos) [e] [] pos) (tD X.K (wGet1 wo we)) :=
  PE.imp (pe_dget1 (by have := hr.un; omega) ho he m) fun σ H Q ⟨R, ρ, μ, P, a, w, k⟩ => ⟨R, ρ, μ, _, a, w, fun x μ1 v H1 p1 o1 s1 i1 => by
    obtain ⟨b, rfl, hd⟩ := isD_of o1 i1 p1.1
    refine ⟨b, rfl, hd, R, ρ, μ1, _, a.step o1 s1, p1.2, fun y μ2 u H2 p2 o2 s2 i2 => ?_⟩
    have k2 := k.step (s1.trans s2)
    have i1' := i1.mono s2
    cases i1' with
    | obj =>
      have p2' : (match μ2 b with | some (.dct kvs) => getW kvs y .none μ2 P | _ => False) := p2
      split at p2'
      · rename_i kvs e
        obtain ⟨ks, h3, h4, h5⟩ := o2.ob b _ e
        exact get_core (Hm := H2) o2 k2 i2 .none h3 h4 h5 p2'
      · exact p2'.elim
    | dct h4 h5 h6 => exact get_core (Hm := H2) o2 k2 i2 .none (hid_le _ _ h4) h5 h6 p2
    | _ => exact (show False from p2).elim⟩
end
end Dz

set_option Elab.async false
set_option linter.all false
set_option maxRecDepth 100000
set_option maxHeartbeats 2000000
/-! DzJ: dicts written at the module's level, by text. -/
namespace Dz
open PySem L2

/-- a name of the top that is a written dict -/
def DctIs (K : PySem.W.Frag) (w : World) (mg : Str → Option Value) (x : Str) (f : List (Str × DV)) : Prop := ∃ p, mg x = some (.ref p) ∧ ∀ e ∈ f, ∃ v, KDct K w p e.1 v ∧ ∀ H, Is K H v e.2
def lookD (f : List (Str × DV)) (z : Str) : Option DV := (f.find? fun e => decide (e.1 = z)).map (·.2)
def wIxK (f : List (Str × DV)) (wb : WE) : WE := fun ρ μ P => wb ρ μ fun y μ1 => match y with
  | .str z => atW (lookD f z) fun d => P d μ1
  | _ => False
theorem d_ixK {X : Cx} {x : Str} {f : List (Str × DV)} {b : Expr} {wb : WE} {pos p2 : Pos} (hg : Gl X x) (h : DctIs X.K X.w X.mg x f) (hb : PE X b (tD X.K wb)) (hs : PlainIx b := by exact fun _ _ => rfl) (hd : (x == ("__debug__" : Str)) = false := by decide) :
    PE X (.Subscript (.Name x p2) b pos) (tD X.K (wIxK f wb)) := by
  obtain ⟨p, hm, hf⟩ := h
  refine PE.imp (pe_ix ix_kdict (pe_glob (v := .ref p) hg hm rfl hd) hb hs) fun σ H Q ⟨R, ρ, μ, P, a, w, k⟩ => ?_
  refine ⟨R, ρ, μ, _, a, w, fun y μ1 u H1 p1 o1 s1 i1 => ?_⟩
  cases i1 with
  | str z =>
    obtain ⟨d, hl, q⟩ := atW_of (show atW (lookD f z) _ from p1)
    unfold lookD at hl
    cases hfz : f.find? fun e => decide (e.1 = z) with
    | none => rw [hfz] at hl; cases hl
    | some e =>
      rw [hfz] at hl
      have ed : e.2 = d := Option.some.inj hl
      have ez : e.1 = z := of_decide_eq_true (List.find?_some (p := fun e : Str × DV => decide (e.1 = z)) hfz)
      obtain ⟨v, kd, iv⟩ := hf e (List.mem_of_find?_eq_some hfz)
      rw [ez] at kd
      rw [ed] at iv
      exact ⟨p, z, v, rfl, rfl, kd, (k.step s1).val o1 q (iv _)⟩
  | _ => exact (show False from p1).elim
theorem dct_of {K : PySem.W.Frag} {h : Heap} {w : World} {mg : Str → Option Value} {x : Str} {p : Addr} {es : Array DictEntry} {n : Nat} {f : List (Str × DV)} (X : K.In h) (G : h.Ns mainGlobals mg) (a : PySem.W.nsIn K mainGlobals x = some (some (.ref p)))
    (l : K.lookup p = some ⟨.type "dict", none, .dict es n, #[]⟩) (hk : PySem.W.KeysLit w.params es.toList) (hf : ∀ e ∈ f, ∃ u, PySem.W.nsIn K p e.1 = some (some u) ∧ CI K u e.2) : DctIs K w mg x f := by
  refine ⟨p, PySem.W.mg_of X G a, fun e he => ?_⟩
  obtain ⟨u, h1, v, h2, h3⟩ := hf e he
  exact ⟨v, ⟨es, n, u, l, hk, h1, h2⟩, h3⟩
end Dz

set_option Elab.async false
set_option linter.all false
set_option maxRecDepth 100000
set_option maxHeartbeats 2000000
/-! DzO: sets of texts, raw: add, made from a list, sorted. -/
namespace Dz
open PySem PySem.Spec L2 PySem.Froz PyProof.Rows

def keyT (e : Int × Value) : Str := match e.2 with | .str k _ => k | _ => ⟨#[]⟩

/-- the payload of a set that holds the texts l -/
structure TxSet (P : Program) (w : World) (D : SD) (l : List Str) : Prop where
  ok : TxOk P w D l
  str : ∀ e ∈ D.1.toList, ∃ k u, e.2 = Value.str k u
  pm : (D.1.toList.map keyT).Perm l
  nd : l.Nodup
  ris : Ris D.2.2.place.toList
  led : w.params.followText "set-order" = true ∨ D.2.2.led = true

section
variable {P : Program} {w : World} {A : Around} {E : Value → Shared → Prop} {s : Shared}

theorem tail_perm {ep : Nat} {es1 : Array (Int × Value)} {t2 : SetTable} {wd : Bool} : (tailTx ep es1 t2 wd).1.toList.Perm es1.toList := by
  unfold tailTx
  split
  · exact relayAll_perm t2 es1 _
  · exact List.Perm.refl _
theorem tail_ris {ep : Nat} {es1 : Array (Int × Value)} {t2 : SetTable} {wd : Bool} (r : Ris t2.place.toList) : Ris (tailTx ep es1 t2 wd).2.2.place.toList := by
  unfold tailTx
  split
  · exact relayAll_ris t2 es1 _
  · exact r
theorem tail_led {ep : Nat} {es1 : Array (Int × Value)} {t2 : SetTable} {wd : Bool} : (tailTx ep es1 t2 wd).2.2.led = t2.led := by
  unfold tailTx
  split
  · exact relayAll_led t2 es1 _
  · rfl

theorem TxSet.add {D : SD} {l : List Str} {k : Str} (u : Tok) (F : TxSet P w D l) (hk : k ∉ l) : TxSet P w (addTx (hashStr w k) (.str k u) D) (k :: l) := by
  obtain ⟨ok, st, pm, nd, r, ld⟩ := F
  have ok' := add_ok (k := k) u ok
  obtain ⟨es, ep, t⟩ := D
  have hp := layNew_perm t es (hashStr w k) (.str k u)
  rw [Array.toList_push] at hp
  have hr := layNew_ris t es (hashStr w k) (.str k u) r
  have hl := layNew_led t es (hashStr w k) (.str k u)
  have tp : (addTx (hashStr w k) (.str k u) (es, ep, t)).1.toList.Perm (es.toList ++ [(hashStr w k, .str k u)]) := List.Perm.trans tail_perm hp
  refine ⟨ok', fun e he => ?_, ?_, List.nodup_cons.mpr ⟨hk, nd⟩, ?_, ?_⟩
  · rcases List.mem_append.mp (tp.mem_iff.mp he) with h | h
    · exact st e h
    · rw [List.mem_singleton] at h
      exact ⟨k, u, by rw [h]⟩
  · have q := tp.map keyT
    rw [List.map_append] at q
    refine q.trans ?_
    show (es.toList.map keyT ++ [k]).Perm (k :: l)
    exact (List.perm_append_singleton _ _).trans (List.Perm.cons k pm)
  · refine tail_ris ?_
    split
    · exact hr
    · exact hr
  · refine ld.imp id fun z => ?_
    refine tail_led.trans ?_
    split
    · exact hl.trans z
    · exact hl.trans z

theorem TxSet.fresh (w : World) : TxSet P w (#[], 0, .fresh 0 0 (!w.params.followText "set-order")) [] :=
  ⟨TxOk.nil (by rfl), fun e he => by simp at he, List.Perm.refl _, List.nodup_nil, List.Pairwise.nil, by
    show _ ∨ (!w.params.followText "set-order") = true
    cases w.params.followText "set-order"
    · exact .inr rfl
    · exact .inl rfl⟩

/-- a text that is there already -/
theorem had_x {a : Addr} {T : String} {D : SD} {l : List Str} {k : Str} {u : Tok} {Q : Bool → Shared → Prop} (ho : s.heap.get? a = some (sObj T D)) (F : TxOk P w D l) (hk : k ∈ l) (hb : l.length < scanBound)
    (h : Q false s) : wpAny (model P w) A (setAddHashed a (.str k u) (hashStr w k)) Q E s := by
  obtain ⟨es, ep, t⟩ := D
  have hd : (sObj T (es, ep, t)).data = .set es ep t := rfl
  have hf : t.fits es.size = true := F.fit
  have hel : ElemsOf (strKind P w) es.toList := F.el
  have hb0 : es.size < scanBound := by have e : es.size = l.length := F.sz; omega
  have hkey : (strKind P w).is k (.str k u) = true := is_str k u
  unfold setAddHashed setAddHashedIn
  refine wpAny_holding (wpAny_bind (wpAny_setState_of ho hd hf ?_))
  dsimp only
  rw [byScan_of rfl hb0 hel]
  simp only [↓reduceIte]
  unfold setAddByScan
  refine wpAny_bind ?_
  refine wpAny_bind (wpAny_rule ?_)
  refine wpAny_bind (wpAny_setScan_of (knd := strKind P w) (k := k) hkey ho hd hf hel ?_)
  cases hr : List.findIdx? (fun e => (strKind P w).is k e.2) es.toList with
  | none =>
    obtain ⟨e, he, q⟩ := (F.mem k).mp hk
    have c := List.findIdx?_eq_none_iff.mp hr e he
    rw [q] at c
    cases c
  | some j =>
    dsimp only
    exact wpAny_pure (wpAny_pure h)

/-- the set at a holds the texts l -/
def SetT (P : Program) (w : World) (h : Heap) (a : Addr) (l : List Str) : Prop := ∃ D, h.get? a = some (sObj "set" D) ∧ TxSet P w D l
theorem SetT.at {h h' : Heap} {a : Addr} {l : List Str} (x : SetT P w h a l) (k : ∀ o, h.get? a = some o → h'.get? a = some o) : SetT P w h' a l := by
  obtain ⟨D, e, f⟩ := x
  exact ⟨D, k _ e, f⟩
/-- the set with k put in -/
def putT (k : Str) (l : List Str) : List Str := if k ∈ l then l else k :: l
theorem putT_len (k : Str) (l : List Str) : (putT k l).length ≤ l.length + 1 := by
  unfold putT
  split
  · exact Nat.le_succ _
  · exact Nat.le_refl _
theorem put_x {a : Addr} {l : List Str} {k : Str} {u : Tok} {Q : Bool → Shared → Prop} (x : SetT P w s.heap a l) (hb : l.length + 1 < scanBound)
    (h : ∀ b h', (∀ c, c ≠ a → h'.get? c = s.heap.get? c) → h'.objs.size = s.heap.objs.size → SetT P w h' a (putT k l) → Q b { s with heap := h' }) :
    wpAny (model P w) A (setAddHashed a (.str k u) (hashStr w k)) Q E s := by
  obtain ⟨D, ho, F⟩ := x
  by_cases hk : k ∈ l
  · refine had_x ho F.ok hk (by omega) ?_
    refine h false s.heap (fun _ _ => rfl) rfl ⟨D, ho, ?_⟩
    unfold putT
    rw [if_pos hk]
    exact F
  · refine add_x ho F.ok hk hb ?_
    refine h true _ (fun c hc => Heap.get?_update_other _ _ (Ne.symm hc)) (by rw [Heap.size_after_update]) ⟨_, get_upd _ ho rfl, ?_⟩
    unfold putT
    rw [if_neg hk]
    exact F.add u hk
end
end Dz

set_option Elab.async false
set_option linter.all false
set_option maxRecDepth 100000
set_option maxHeartbeats 4000000
/-! DzP: set(list of texts); set.add of a text; sorted of a set of texts. -/
namespace Dz
open PySem PySem.Spec L2 PySem.Froz PyProof.Rows

def putAll (l ts : List Str) : List Str := ts.foldl (fun l k => putT k l) l
theorem putAll_take {ts : List Str} {i : Nat} (h : i < ts.length) : putAll [] (ts.take (i + 1)) = putT ts[i] (putAll [] (ts.take i)) := by
  unfold putAll
  rw [List.take_succ_eq_append_getElem h, List.foldl_append] <;> rfl
theorem putAll_len : ∀ (ts l : List Str), (putAll l ts).length ≤ l.length + ts.length
  | [], l => Nat.le_refl _
  | t :: ts, l => by
    have a := putAll_len ts (putT t l)
    have b := putT_len t l
    show (putAll (putT t l) ts).length ≤ l.length + (ts.length + 1)
    omega
theorem mem_putT {x k : Str} {l : List Str} : x ∈ putT k l ↔ x ∈ l ∨ x = k := by
  unfold putT
  split
  · rename_i h
    exact ⟨.inl, fun z => z.elim id fun e => e ▸ h⟩
  · rw [List.mem_cons]
    exact Or.comm
theorem mem_putAll : ∀ (ts l : List Str) {x : Str}, x ∈ putAll l ts ↔ x ∈ l ∨ x ∈ ts
  | [], l, x => by simp [putAll]
  | t :: ts, l, x => by
    show x ∈ putAll (putT t l) ts ↔ _
    rw [mem_putAll ts (putT t l), mem_putT, List.mem_cons, or_assoc]
theorem putT_nodup {k : Str} {l : List Str} (h : l.Nodup) : (putT k l).Nodup := by
  unfold putT
  split
  · exact h
  · rename_i q
    exact List.nodup_cons.mpr ⟨q, h⟩

section
variable {P : Program} {w : World} {A : Around} {E : Value → Shared → Prop} {s : Shared}

section
variable {R : Result → Shared → Prop} {I : Addr} {fp wr : List Addr} {G : Array GenState → Array GenState → Prop} {n : Nat} {Pv : Nat → Value → Prop} {St : Nat → Shared → Prop}
theorem update_loopT (W : WalksS P w A.in1 I fp wr G n Pv St) (S : Addr) (hSf : S ∉ fp) (ts : List Str) (hn : ts.length = n)
    (hval : ∀ i v (h : i < ts.length), Pv i v → ∃ u, v = .str ts[i] u) (hb : n + 1 < scanBound) :
    ∀ (k i : Nat) (s : Shared), n - i = k → i ≤ n → St i s → SetT P w s.heap S (putAll [] (ts.take i)) →
      (∀ s', Moved (S :: wr) G s s' → SetT P w s'.heap S (putAll [] ts) → R (.ok (.ret .none)) s') →
      codeAny (model P w) A (.builtin "set.update.loop" ⟨[.ref S, .ref I], []⟩) R s := by
  have hSw : S ∉ wr := fun h => hSf (W.sub _ h)
  have hsub : ∀ b ∈ wr, b ∈ S :: wr := fun b hb => List.mem_cons_of_mem _ hb
  intro k
  induction k with
  | zero =>
    intro i s hk hi hst hS hR
    have hin : i = n := by omega
    subst hin
    refine codeAny_builtin F.entry_set_update_loop ?_
    rw [Around.under_plainId F.plain_set_update_loop _]
    show wpAny _ A.in1 (pyNext (.ref I) >>= _) _ _ s
    refine wpAny_bind (W.done s _ _ hst fun s' hm => ?_)
    show wpAny _ A.in1 (ret Value.none) _ _ s'
    rw [← hn, List.take_length] at hS
    exact wpAny_pure (hR s' (hm.mono hsub) (hS.at fun o e => hm.heap S _ hSw e))
  | succ k ih =>
    intro i s hk hi hst hS hR
    have hlt : i < n := by omega
    have hlt' : i < ts.length := by omega
    refine codeAny_builtin F.entry_set_update_loop ?_
    rw [Around.under_plainId F.plain_set_update_loop _]
    show wpAny _ A.in1 (pyNext (.ref I) >>= _) _ _ s
    refine wpAny_bind (W.item i s _ _ hlt hst fun v s' hP hst' hm => ?_)
    obtain ⟨u, rfl⟩ := hval i v hlt' hP
    have hS' : SetT P w s'.heap S (putAll [] (ts.take i)) := hS.at fun o e => hm.heap S _ hSw e
    show wpAny _ A.in1 (holding [Value.str ts[i] u] (setAdd S (.str ts[i] u)) >>= _) _ _ s'
    refine wpAny_bind (wpAny_holding ?_)
    unfold setAdd
    refine wpAny_holding ?_
    refine wpAny_bind (wpAny_pyHash_str ?_)
    have hroom : (putAll [] (ts.take i)).length + 1 < scanBound := by
      have a := putAll_len (ts.take i) []
      rw [List.length_take] at a
      have : ([] : List Str).length = 0 := rfl
      omega
    refine put_x (s := { s' with toks := s'.toks + 1 }) hS' hroom fun b h' hk' hz hS2 => ?_
    rw [← putAll_take hlt'] at hS2
    refine wpAny_pure ⟨plainId_quiet F.plain_set_update_loop _, ih (i + 1) _ (by omega) hlt (W.frame _ s' _ _ hst' (Nat.le_succ _) fun b hb o e => ?_) hS2 fun s'' hm'' hS'' => ?_⟩
    · show h'.get? b = some o
      rw [hk' b (fun h : b = S => hSf (by rw [← h]; exact hb))]; exact e
    · refine hR s'' (Moved.trans W.gtrans ((hm.mono hsub).then_heap (Nat.le_succ _) fun b o hb e => ?_) hm'') hS''
      show h'.get? b = some o
      rw [hk' b (fun h : b = S => hb (by rw [h]; exact List.mem_cons_self))]; exact e
end

theorem code_set_of {a : Value} {Q₁ : Value → Shared → Prop}
    (h : Q₁ (.ref s.heap.objs.size) { s with heap := s.heap.push (sObj "set" (#[], 0, .fresh 0 0 (!w.params.followText "set-order"))) }) :
    codeAny (model P w) A (.call (.builtin "set.__new__") ⟨[.type "set", a], []⟩) (wants Q₁ E) s := by
  refine codeAny_of_tree ?_
  show wpAny _ A.in1 (do checkBuiltinCall "set.__new__" ⟨[.type "set", a], []⟩; again (.builtin "set.__new__" ⟨[.type "set", a], []⟩)) _ _ s
  refine wpAny_bind (wpAny_of_eq (F.newCall_set_1 a) (wpAny_pure ⟨plainId_quiet F.plain_set_new _, codeAny_builtin F.entry_set_new ?_⟩))
  rw [Around.under_plainId F.plain_set_new _]
  unfold Builtin.«set.__new__» Builtin.Frozenset.newClass
  have hsub := sub_set_self
  obtain ⟨hp, g, d, tk, os⟩ := s
  dsimp only
  wp_walk
  refine wpAny_askSetting (wpAny_pure ?_)
  dsimp only
  simp only [newObj]
  refine wpAny_bind (wpAny_alloc (wpAny_pure ?_))
  exact wpAny_pure h

/-- set(xs), xs a list of texts -/
theorem call_setT {l : Addr} {items : Array Value} {ts : List Str} {Q : Value → Shared → Prop}
    (hh : A.handled = none) (hl : s.heap.IsList l items) (hn : ts.length = items.size) (hi : ∀ i v (h : i < ts.length), items[i]? = some v → ∃ u, v = .str ts[i] u) (hb : items.size + 1 < scanBound)
    (h : ∀ (h' : Heap) (tk : Nat), SetT P w h' s.heap.objs.size (putAll [] ts) → (∀ b o, b < s.heap.objs.size → s.heap.get? b = some o → h'.get? b = some o) → s.heap.objs.size ≤ h'.objs.size → s.toks ≤ tk →
      Q (.ref s.heap.objs.size) { s with heap := h', toks := tk }) :
    wpAny (model P w) A (call (.type "set") [.ref l]) Q E s := by
  obtain ⟨c, tl, hmro⟩ := F.called_set.mro
  have hmade := F.called_set.made
  have hsub := F.called_set.sub
  refine wpAny_call (codeAny_of_tree ?_)
  show wpAny _ _ (callAny (.type "set") _) _ _ _
  refine wpAny_pure ⟨Code.quiet_builtin _ (by decide +kernel), codeAny_builtin F.entry_type_call ?_⟩
  rw [Around.under_plain (weight_type_call_type "set" [.ref l] []) rfl]
  have h1 := F.called_set.notType
  have h2 := F.called_set.canCreate
  have hct := F.typeCall_set_1 (.ref l)
  repeat (any_goals (first | assumption | wp_step))
  have hT0 : TxSet P w (#[], 0, .fresh 0 0 (!w.params.followText "set-order")) [] := TxSet.fresh w
  have hcode := fun Q₁ => code_set_of (P := P) (w := w) (A := A.in1) (E := E) (s := s) (a := .ref l) (Q₁ := Q₁)
  generalize (!w.params.followText "set-order") = led at hT0 hcode
  refine codeAny_mono (hcode (fun obj s₁ => obj = .ref s.heap.objs.size ∧ s₁ = { s with heap := s.heap.push { cls := .type "set", dict := none, data := .set #[] 0 (.fresh 0 0 led) } }) ⟨rfl, rfl⟩) fun r s₁ hr => ?_
  cases r with
  | error e => exact hr
  | ok fl =>
    cases fl with
    | ret obj =>
      obtain ⟨rfl, rfl⟩ := hr
      have hS : (s.heap.push { cls := .type "set", dict := none, data := .set #[] 0 (.fresh 0 0 led) }).get? s.heap.objs.size = some { cls := .type "set", dict := none, data := .set #[] 0 (.fresh 0 0 led) } := Heap.get?_push_size _ rfl
      have hT : Shared.TypeIs { s with heap := s.heap.push { cls := .type "set", dict := none, data := .set #[] 0 (.fresh 0 0 led) } } (.ref s.heap.objs.size) "set" := ⟨_, hS, rfl⟩
      have hli := F.called_set.init.lookup
      have hbi := F.called_set.init.bind (.ref s.heap.objs.size)
      repeat (any_goals (first | assumption | wp_step))
      refine codeAny_mono (codeAny_call_builtin (R := wants (fun r s₂ => r = .none ∧ ∃ h' tk, s₂ = { s with heap := h', toks := tk } ∧
          SetT P w h' s.heap.objs.size (putAll [] ts) ∧
          (∀ b o, b < s.heap.objs.size → s.heap.get? b = some o → h'.get? b = some o) ∧ s.heap.objs.size ≤ h'.objs.size ∧ s.toks ≤ tk) E) F.called_set.init.plain F.entry_set_init (check_set_init_1 hT ?_)) fun r₂ s₂ hr₂ => ?_
      · obtain ⟨ol, hol, hcl, nl, hdl⟩ := hl
        obtain ⟨ocls, odict, odata, oslots⟩ := ol
        simp only at hcl hdl
        subst hcl; subst hdl
        have hol' : (s.heap.push { cls := .type "set", dict := none, data := .set #[] 0 (.fresh 0 0 led) }).get? l = some { cls := .type "list", dict := odict, data := .seq items nl, slots := oslots } := Heap.get?_push_of_some _ hol
        have hsls := F.sub_list_set
        have hslf := F.sub_list_frozenset
        have hne : (Value.type "list" == Value.type "dict") = false := by decide
        have hl1 : (s.heap.push { cls := .type "set", dict := none, data := .set #[] 0 (.fresh 0 0 led) }).IsList l items := ⟨_, hol', rfl, nl, rfl⟩
        unfold Builtin.«set.__init__» noKeywords Builtin.Frozenset.updateFrom
        generalize hPI : pyIter = PI
        wp_walk
        subst hPI
        refine wpAny_pyIter_list hl1 ?_
        refine wpAny_bind (wpAny_runValue ?_)
        have hlS : l < s.heap.objs.size := Heap.lt_size hol
        have hh3 : A.in1.in1.in1.handled = none := by simp [hh]
        have hneI : l ≠ (s.heap.push { cls := .type "set", dict := none, data := .set #[] 0 (.fresh 0 0 led) }).objs.size := by
          rw [Heap.size_push]; exact Nat.ne_of_lt (Nat.lt_succ_of_lt hlS)
        have hSf : s.heap.objs.size ∉ [(s.heap.push { cls := .type "set", dict := none, data := .set #[] 0 (.fresh 0 0 led) }).objs.size, l] := by
          rw [Heap.size_push]; simp only [List.mem_cons, List.mem_singleton, List.not_mem_nil, or_false, not_or]
          exact ⟨Nat.ne_of_lt (Nat.lt_succ_self _), Nat.ne_of_gt hlS⟩
        refine update_loopT ((Walks.list hh3 _ l hneI items).toS) s.heap.objs.size
          hSf ts hn hi hb (items.size - 0) 0 _ (by omega) (Nat.zero_le _)
          ⟨⟨_, Heap.get?_push_size _ rfl, rfl, rfl⟩, (hl1.push _)⟩ ?hS0 ?hR
        case hS0 =>
          exact ⟨(#[], 0, .fresh 0 0 led), Heap.get?_push_of_some _ hS, hT0⟩
        case hR =>
          intro s' hm hS'
          obtain ⟨h', g', d', tk', os'⟩ := s'
          have eg : g' = s.gens := hm.gens
          have ed : d' = s.drawn := hm.drawn
          have eo : os' = s.os := hm.os
          have et : s.toks ≤ tk' := hm.toks
          subst eg; subst ed; subst eo
          show wpAny _ _ _ _ _ _
          refine wpAny_pure ?_
          show wpAny _ _ (ret Value.none) _ _ _
          refine wpAny_pure ⟨rfl, h', tk', rfl, hS', fun b o hb e => ?_, ?_, et⟩
          · have hb1 : b ≠ s.heap.objs.size := Nat.ne_of_lt hb
            have hb2 : b ≠ (s.heap.push { cls := .type "set", dict := none, data := .set #[] 0 (.fresh 0 0 led) }).objs.size := by
              rw [Heap.size_push]; exact Nat.ne_of_lt (Nat.lt_succ_of_lt hb)
            exact hm.heap b o (by simp only [List.mem_cons, List.mem_singleton, List.not_mem_nil, or_false, not_or]; exact ⟨hb1, hb2⟩) (Heap.get?_push_of_some _ (Heap.get?_push_of_some _ e))
          · obtain ⟨D, hD, _⟩ := hS'
            exact Nat.le_of_lt (Heap.lt_size hD)
      · cases r₂ with
        | error e => exact hr₂
        | ok fl₂ =>
          cases fl₂ with
          | ret r =>
            obtain ⟨rfl, h', tk, rfl, hS', hk', hz, ht⟩ := hr₂
            repeat (any_goals (first | assumption | wp_step))
            exact h _ _ hS' hk' hz ht
          | _ => exact hr₂.elim
    | _ => exact hr.elim

/-- found.add(k) -/
theorem call_addT {a : Addr} {l : List Str} {k : Str} {u : Tok} {Q : Value → Shared → Prop} (R : SetT P w s.heap a l) (room : l.length + 1 < scanBound)
    (hQ : ∀ h', (∀ c, c ≠ a → h'.get? c = s.heap.get? c) → h'.objs.size = s.heap.objs.size → SetT P w h' a (putT k l) → Q .none { s with heap := h', toks := s.toks + 1 }) :
    wpAny (model P w) A (call (.builtin "set.add") [.ref a, .str k u]) Q E s := by
  have hT : s.TypeIs (.ref a) "set" := by
    obtain ⟨D, ho, _⟩ := R
    exact ⟨_, ho, rfl⟩
  refine wpAny_call_entry F.slot_set_add hT F.entry_set_add ?_ (F.args_set_add_2 _ _)
  unfold Builtin.«set.add» Builtin.Frozenset.oneOther
  simp only [List.isEmpty_nil, bind_assoc]
  unfold Builtin.Frozenset.addrOf setAdd
  refine wpAny_bind (wpAny_pure ?_)
  try dsimp only
  refine wpAny_bind (wpAny_pure ?_)
  try dsimp only
  refine wpAny_bind ?_
  refine wpAny_holding ?_
  refine wpAny_bind (wpAny_pyHash_str ?_)
  refine put_x (s := { s with toks := s.toks + 1 }) R room fun b h' hk hz x => ?_
  show wpAny _ _ (ret Value.none) _ _ _
  exact wpAny_pure ⟨_, rfl, hQ h' hk hz x⟩
end
end Dz

set_option Elab.async false
set_option linter.all false
set_option maxRecDepth 100000
set_option maxHeartbeats 4000000
/-! DzQ: sorted(set(xs)) of texts. -/
namespace Dz
open PySem PySem.Spec L2 PySem.Froz PyProof.Rows

def strOfV (v : Value) : Str := match v with | .str k _ => k | _ => ⟨#[]⟩
theorem strs_of_all : ∀ {vs : List Value}, (∀ v ∈ vs, ∃ k u, v = Value.str k u) → StrsAre vs (vs.map strOfV)
  | [], _ => .nil
  | v :: vs, h => by
    obtain ⟨k, u, rfl⟩ := h v List.mem_cons_self
    exact .cons k u (strs_of_all fun x hx => h x (List.mem_cons_of_mem _ hx))
theorem strs_get : ∀ {vs : List Value} {ks : List Str}, StrsAre vs ks → ∀ i v (h : i < ks.length), vs[i]? = some v → ∃ u, v = .str ks[i] u
  | _, _, .nil, i, v, h, e => by cases h
  | _, _, .cons n t hr, 0, v, h, e => by simp at e; exact ⟨t, by rw [← e] <;> rfl⟩
  | _, _, .cons n t hr, i + 1, v, h, e => by
    simp only [List.getElem?_cons_succ] at e
    obtain ⟨u, q⟩ := strs_get hr i v (Nat.lt_of_succ_lt_succ h) e
    exact ⟨u, by rw [q] <;> rfl⟩
theorem strs_len : ∀ {vs : List Value} {ks : List Str}, StrsAre vs ks → vs.length = ks.length
  | _, _, .nil => rfl
  | _, _, .cons _ _ h => congrArg (· + 1) (strs_len h)

/-- a set of texts, as an object of the abstract heap -/
def setO (P : Program) (w : World) (p : Addr) (l : List Str) : HO := .ext fun h => SetT P w h p l
section
variable {X : Cx}
def rMkSet (P : Program) (w : World) (K : PySem.W.Frag) : List V → Hp → VK → Prop := fun xs H Q => ∃ (a : Addr) (ks : List Str), xs = [.ref a] ∧ SqL K H a (ks.map V.str) ∧ ks.length + 1 < scanBound ∧
  ∀ p, H p = none → Q (.ref p) (upd H p (setO P w p (putAll [] ks)))
theorem setO_ok {P : Program} {w : World} {H : Hp} {h : Heap} {p : Addr} {l : List Str} (x : SetT P w h p l) : ObjOk P w H h p (setO P w p l) := by
  refine ⟨x, ?_, fun h1 h2 y k => SetT.at y k⟩
  obtain ⟨D, e, _⟩ := x
  exact ⟨_, e⟩
theorem cr_setT (hc : X.calm = true) : CallR X (.type "set") (rMkSet X.prog X.w X.K) := by
  intro pins s σ H xs us Q I r q
  obtain ⟨a, ks, ex, hl, hz, q⟩ := q
  subst ex
  obtain ⟨its, rv, hp, _⟩ := I.list hl
  rw [Vals.ref1 r]
  have hS := rv.strs
  have hlen := strs_len hS
  refine call_setT (items := its.toArray) (ts := ks) (I.ok.hd hc) hp.isList (by rw [List.size_toArray]; exact hlen.symm) (fun i v h e => strs_get hS i v h (by simpa using e)) (by rw [List.size_toArray, hlen]; exact hz) fun h' tk x k z t => ?_
  exact ⟨.ref _, upd H s.heap.objs.size (setO X.prog X.w s.heap.objs.size (putAll [] ks)), I.laid (fun b u e => k b u (Heap.lt_size e) e) (Nat.le_refl _) (setO_ok x), rfl, q _ (I.hok.fresh (Nat.le_refl _))⟩

def rSortSet (P : Program) (w : World) : List V → Hp → VK → Prop := fun xs H Q => ∃ (a : Addr) (l : List Str), xs = [.ref a] ∧ H a = some (setO P w a l) ∧ l.length < 64 ∧
  ∀ ys p, List.Perm ys l → l.Nodup → sortedS ys = true → H p = none → Q (.ref p) (upd H p (.lst (ys.map V.str)))
theorem cr_sortSet (hc : X.calm = true) : CallR X (.builtin "sorted") (rSortSet X.prog X.w) := by
  intro pins s σ H xs us Q I r q
  obtain ⟨a, l, ex, ha, h64, q⟩ := q
  subst ex
  have x : ObjOk X.prog X.w H s.heap a (setO X.prog X.w a l) := I.hok a _ ha
  obtain ⟨D, hD, F⟩ := x.1
  obtain ⟨es, ep, t⟩ := D
  rw [Vals.ref1 r]
  have hsz : es.size = l.length := F.ok.sz
  refine Calls.call_function_entry PyProof.Rows.kind_sorted PyProof.Rows.plain_sorted PyProof.Rows.entry_sorted (PyProof.Rows.args_sorted1 _) ?_
  unfold Builtin.«sorted»
  refine wpAny_bind (m := checkCount "sorted" 1 1 _) (wpAny_pure ?_)
  refine wpAny_bind (collect_set (A := X.A.in1) (I.ok.hd hc) ⟨_, hD, rfl, rfl⟩ F.ok.fit (by show es.size < 4096; omega) F.ris F.led fun s1 vs k1 hz g1 o1 pm => ?_)
  have hall : ∀ v ∈ vs, ∃ k u, v = Value.str k u := fun v hv => by
    obtain ⟨e, he, z⟩ := List.mem_map.mp (pm.mem_iff.mp hv)
    obtain ⟨k, u, z2⟩ := F.str e he
    exact ⟨k, u, z.symm.trans z2⟩
  have hS := strs_of_all hall
  have pk : (vs.map strOfV).Perm l := by
    have z := pm.map strOfV
    rw [List.map_map] at z
    exact z.trans F.pm
  have hvl : vs.length = l.length := by rw [← List.length_map (f := strOfV), pk.length_eq]
  refine wpAny_bind (wpAny_newList ?_ (by rw [hvl, sizeLine_eq]; omega))
  have hoL : (s1.heap.push (seqObj "list" vs.toArray 0)).get? s1.heap.objs.size = some (seqObj "list" vs.toArray 0) := Heap.get?_push_size _ rfl
  refine wpAny_bind (wpAny_holding (wpAny_call_entry PyProof.Rows.slot_list_sort ⟨_, hoL, rfl⟩ PyProof.Rows.entry_list_sort
    (list_sort_treeK strKind_oneLt (s := { s1 with heap := s1.heap.push (seqObj "list" vs.toArray 0) }) hoL hS.keysOf (fun v₁ v₂ rest e => keyKind_strs (by rw [← e]; exact hS)) (by rw [hvl]; exact h64) fun st' hp hs => ⟨_, rfl, ?_⟩)
    (PyProof.Rows.args_list_sort _)))
  obtain ⟨ys, g1', g2, g3⟩ := sorted_out_str hS hp hs
  obtain ⟨c, he⟩ := PyProof.Rows.sortedHeap_at (vs := vs) (out := (arrOf st').map (·.2)) hoL
  have hlen : (ys.map V.str).length ≤ sizeLine := by
    rw [List.length_map, g2.length_eq, List.length_map, hvl, sizeLine_eq]; omega
  have hn : H s1.heap.objs.size = none := I.hok.fresh hz
  have keep : ∀ b u, s.heap.get? b = some u → (PyProof.Rows.sortedHeap (s1.heap.push (seqObj "list" vs.toArray 0)) s1.heap.objs.size vs ((arrOf st').map (·.2))).get? b = some u := fun b u e => by
    have q := k1 b u e
    have hlt := Heap.lt_size q
    rw [PyProof.Rows.sortedHeap_old (Nat.ne_of_lt hlt) (by rw [size_push']; exact Nat.lt_succ_of_lt hlt)]
    exact Heap.get?_push_of_some _ q
  have J : Inv X pins σ (upd H s1.heap.objs.size (.lst (ys.map V.str))) { s with heap := PyProof.Rows.sortedHeap (s1.heap.push (seqObj "list" vs.toArray 0)) s1.heap.objs.size vs ((arrOf st').map (·.2)), gens := s1.gens, drawn := s1.drawn, toks := s1.toks } :=
    I.call (ch := []) (Un.laid keep hz hn) (I.hok.laid keep hz ⟨hlen, ((arrOf st').map (·.2)).toList, c, vals_of_strs g1', by rw [Array.toArray_toList]; exact he⟩) (by rw [g1]; exact I.bare) (fun _ z => nomatch z)
  have e : ({ s1 with heap := PyProof.Rows.sortedHeap (s1.heap.push (seqObj "list" vs.toArray 0)) s1.heap.objs.size vs ((arrOf st').map (·.2)) } : Shared) = { s with heap := PyProof.Rows.sortedHeap (s1.heap.push (seqObj "list" vs.toArray 0)) s1.heap.objs.size vs ((arrOf st').map (·.2)), gens := s1.gens, drawn := s1.drawn, toks := s1.toks } := by
    cases s1
    cases s
    cases o1
    rfl
  refine wpAny_pure ⟨_, rfl, ?_⟩
  show EP X pins σ Q _ ({ s1 with heap := PyProof.Rows.sortedHeap (s1.heap.push (seqObj "list" vs.toArray 0)) s1.heap.objs.size vs ((arrOf st').map (·.2)) } : Shared)
  rw [e]
  exact ⟨.ref s1.heap.objs.size, _, J, rfl, q ys _ (g2.trans pk) F.nd g3 hn⟩
end
end Dz

set_option Elab.async false
set_option linter.all false
set_option maxRecDepth 100000
set_option maxHeartbeats 4000000
/-! DzR: sorted(set(e)) of texts, as a rule over data. -/
namespace Dz
open PySem PySem.Spec L2 PySem.Froz PyProof.Rows

theorem Iss.strs {K : PySem.W.Frag} {H : Hp} : ∀ {ks : List Str} {vs : List V}, Iss K H vs (ks.map DV.str) → vs = ks.map V.str
  | [], _, .nil => rfl
  | k :: ks, _, .cons h r => by
    cases h
    rw [Iss.strs r] <;> rfl
theorem Iss.ofStrs {K : PySem.W.Frag} {H : Hp} : ∀ (ks : List Str), Iss K H (ks.map V.str) (ks.map DV.str)
  | [] => .nil
  | k :: ks => .cons (.str k) (Iss.ofStrs ks)
/-- the distinct texts of ks, rising -/
structure Distinct (ys ks : List Str) : Prop where
  nd : ys.Nodup
  up : sortedS ys = true
  mem : ∀ k, k ∈ ys ↔ k ∈ ks
def wSortSet (we : WE) : WE := fun ρ μ P => we ρ μ fun x μ1 => match x with
  | .lst ds => ∃ ks : List Str, ds = ks.map DV.str ∧ ks.length < 64 ∧ ∀ ys, Distinct ys ks → P (.lst (ys.map .str)) μ1
  | _ => False
theorem putAll_nodup : ∀ (ts l : List Str), l.Nodup → (putAll l ts).Nodup
  | [], _, h => h
  | t :: ts, l, h => putAll_nodup ts (putT t l) (putT_nodup h)
section
variable {X : Cx} {p p2 pos pos2 : Pos} {e : Expr} {w : WE}
theorem d_sortSet (hg : Gl X "sorted") (hm : X.mg "sorted" = none) (hg2 : Gl X "set") (hm2 : X.mg "set" = none) (ha : PE X e (tD X.K w)) (hc : X.calm = true := by rfl)
    (hs : starEach [e] X.env = [(false, eval e X.env)] := by rfl)
    (hs2 : starEach [.Call (.Name "set" p2) [e] [] pos2] X.env = [(false, eval (.Call (.Name "set" p2) [e] [] pos2) X.env)] := by rfl) :
    PE X (.Call (.Name "sorted" p) [.Call (.Name "set" p2) [e] [] pos2] [] pos) (tD X.K (wSortSet w)) :=
  PE.imp (pe_callB (cr_sortSet hc) hg hm (by decide +kernel) (pa_cons (pe_callTy (cr_setT hc) hg2 hm2 (by decide +kernel) (pa_cons ha pa_nil hs) (by decide) (by decide) hs rfl) pa_nil hs2) (by decide) (by decide) hs2 rfl)
    fun σ H Q ⟨R, ρ, μ, P, a, w, k⟩ => ⟨R, ρ, μ, _, a, w, fun x μ1 v H1 p1 o1 s1 i1 => by
      cases i1 with
      | @lst b xs ds hx rx =>
        obtain ⟨ks, rfl, hk, q⟩ := p1
        have ex := rx.strs
        subst ex
        have hle := putAll_len ks []
        refine ⟨b, ks, rfl, SqL.of (hid_le _ _ hx), Nat.lt_of_lt_of_le (Nat.succ_lt_succ hk) (by decide), fun p hp => ⟨p, _, rfl, upd_same, Nat.lt_of_le_of_lt (by simpa using hle) hk, fun ys p' pm nd up hp' => ?_⟩⟩
        have o2 := o1.new (o := setO X.prog X.w p (putAll [] ks)) hp
        refine (k.step (s1.trans (o1.sameNew hp))).lst o2 (q ys ⟨pm.nodup_iff.mpr nd, up, fun k => ?_⟩) (Iss.ofStrs ys) hp'
        rw [pm.mem_iff, mem_putAll]
        simp
      | _ => exact (show False from p1).elim⟩
end
end Dz

set_option Elab.async false
set_option linter.all false
set_option maxRecDepth 100000
set_option maxHeartbeats 4000000
/-! DzU: a set comprehension of texts. -/
namespace Dz
open PySem PySem.Spec L2 PySem.Froz PyProof.Rows

section
variable {X : Cx}
/-- set.add of a text -/
theorem addT_ok {pins : List (Addr × Obj)} {σ : L2.St} {H : Hp} {s : Shared} {E : Value → Shared → Prop} {D : Addr} {l : List Str} {k : Str} {u : Tok} {Q : Value → Shared → Prop} (I : Inv X pins σ H s) (hD : H D = some (setO X.prog X.w D l)) (room : l.length + 1 < scanBound)
    (h : ∀ s', Inv X pins σ (upd H D (setO X.prog X.w D (putT k l))) s' → Q .none s') : wpAny (model X.prog X.w) X.A (call (.builtin "set.add") [.ref D, .str k u]) Q E s := by
  have x : ObjOk X.prog X.w H s.heap D (setO X.prog X.w D l) := I.hok D _ hD
  refine call_addT x.1 room fun h' sb hz new => ?_
  have he : ∃ o, h'.get? D = some o := by
    obtain ⟨o, e, _⟩ := new
    exact ⟨_, e⟩
  exact h _ (I.write (e := D) (t' := s.toks + 1) (by rw [hD]; trivial) (.inl rfl) (fun b o hb ho => (sb b hb).trans ho) he (setO_ok new))

/-- the new set, as it is made -/
def newS (w : World) : Obj := { cls := .type "set", dict := none, data := .set #[] 0 (.fresh 0 0 (!w.params.followText "set-order")) }
theorem newS_ok {P : Program} {w : World} {H : Hp} {h : Heap} : ObjOk P w H (h.push (newS w)) h.objs.size (setO P w h.objs.size []) :=
  setO_ok ⟨_, Heap.get?_push_size _ rfl, TxSet.fresh w⟩

/-- {elt for target in iter if ..} over texts; D the new set, Nx what the turn leaves -/
def tScT (P : Program) (w : World) (wi : TI) (g : TG) (tt : TT) (te : TE) (vs : List Nat) : TE := fun σ H Q => wi σ H fun J H1 => ∀ D, H1 D = none → ∃ W : Nat → Nat → Hp → Prop, (∃ m, W 0 m (upd H1 D (setO P w D []))) ∧ ∀ i m H, W i m H →
  (J.stop i H ∧ Q (.ref D) H) ∨ (J.go i H ∧ ∃ Nx : Hp → Prop, (∀ H', Nx H' → ∃ m', m' < m ∧ W (i + 1) m' H') ∧ ∀ x H', J.yld i H x H' → g x (wipe σ vs) H' fun σ2 H2 => wipe σ2 vs = wipe σ vs ∧ tt σ2 H2 fun b H3 =>
    if b = true then te σ2 H3 fun y H4 => ∃ (k : Str) (l : List Str), y = .str k ∧ H4 D = some (setO P w D l) ∧ l.length + 1 < scanBound ∧ Nx (upd H4 D (setO P w D (putT k l))) else Nx H3)

theorem pe_scT {elt tg iter : Expr} {ifs : List Expr} {scope : Scope} {own : List (PySem.Str × Nat)} {pos : Pos} {wi : TI} {g : TG} {tt : TT} {te : TE} (hc : X.calm = true) (hN : X.N.Nodup) (hi : PI X tg iter wi) (ok : BlkOk X.N X.env.scope scope own)
    (hg : ∀ (s : Shared) (H : Hp) (C : Addr) (cl : List (PySem.Str × Addr)) (fp : List Addr), PG (X.blk s H scope (compEnvC scope cl C X.env) fp) tg g) (ht : ∀ (s : Shared) (H : Hp) (C : Addr) (cl : List (PySem.Str × Addr)) (fp : List Addr), PTs (X.blk s H scope (compEnvC scope cl C X.env) fp) ifs tt)
    (he : ∀ (s : Shared) (H : Hp) (C : Addr) (cl : List (PySem.Str × Addr)) (fp : List Addr), PE (X.blk s H scope (compEnvC scope cl C X.env) fp) elt te) (hs : ∀ x, foldedSetIterable iter X.env x = pure x := by intro _; rfl) :
    PE X (.SetComp elt [⟨tg, iter, ifs, 0⟩] scope pos) (tScT X.prog X.w wi g tt te (own.map (·.2))) := by
  refine ⟨fun pins s σ H Q I h => ?_⟩
  rw [PpSet.eval_SetComp]
  have closed : ∀ y ∈ scope.names, y.2 = .free → ∃ c, X.env.cells.lookup y.1 = some c := fun y hy e =>
    (ok.free y hy e).elim (fun k => I.ok.has _ (.inl k)) fun k => I.ok.has _ (.inr k)
  refine wpAny_comprehension_free (use := none) rfl hs (closure_ok closed) ok.kind (fun y hy e => by rw [ok.uniq y hy, e]) (thn (hi.run pins s σ H _ I h) fun _ s1 h1 => thn h1 fun _ s2 h2 => ?_)
  obtain ⟨it, fp, tn, J, Ha, rfl, Ia, T, sta, fa, turns⟩ := h2
  refine PpSet.newSet_ok (newEnv_comp ?_)
  have D0 : Ha s2.heap.objs.size = none := Ia.hok.fresh (Nat.le_refl _)
  obtain ⟨W, ⟨m0, w0⟩, turn⟩ := turns _ D0
  -- the set stands
  have Ib : Inv X pins σ (upd Ha s2.heap.objs.size (setO X.prog X.w s2.heap.objs.size [])) { s2 with heap := s2.heap.push (newS X.w) } :=
    Ia.laid (t' := s2.toks) (fun b o e => Heap.get?_push_of_some _ e) (Nat.le_refl _) newS_ok
  have old : ∀ b ∈ fp, b < s2.heap.objs.size := fun b hb => by
    obtain ⟨o, e, _⟩ := T.obj _ _ sta b hb
    exact Heap.lt_size e
  have stb : tn 0 (s2.heap.push (newS X.w)) := T.keep _ _ _ sta fun b _ o e => Heap.get?_push_of_some _ e
  generalize hD : s2.heap.objs.size = D at *
  generalize hH3 : upd Ha D (setO X.prog X.w D []) = H3 at *
  have fb : ∀ b ∈ fp, FpOk X pins H3 b ∧ b < (s2.heap.push (newS X.w)).objs.size := fun b hb => by
    refine ⟨⟨?_, (fa b hb).2⟩, by rw [Heap.size_push, hD]; exact Nat.lt_succ_of_lt (old b hb)⟩
    rw [← hH3, upd_ne (Nat.ne_of_lt (old b hb))]
    exact (fa b hb).1
  have Ic := block_start Ib ok hN fb
  have e3 : s2.heap.push { cls := .type "set", dict := none, data := .set #[] 0 (.fresh 0 0 (!X.w.params.followText "set-order")) } = s2.heap.push (newS X.w) := rfl
  rw [e3]
  generalize hs3 : ({ s2 with heap := s2.heap.push (newS X.w) } : Shared) = s3 at *
  have h3 : s2.heap.push (newS X.w) = s3.heap := by rw [← hs3]
  show codeAny _ _ (.compStart (.SetComp elt [⟨tg, iter, ifs, 0⟩] scope pos) 0 (.ref it) (.ref D) (compEnvC scope (cellsFrom (s3.heap.objs.size + 1) scope.names (cloFrom X.env.cells scope.names [])) s3.heap.objs.size X.env)) (compPost (model X.prog X.w) X.A X.xe none (EP X pins σ Q) (.ref D) s3.heap.objs.size) { s3 with heap := pushCells (s3.heap.push { cls := .type "dict", data := .dict #[] }) scope.names }
  rw [h3] at stb fb
  have stc : tn 0 (pushCells (s3.heap.push { cls := .type "dict", data := .dict #[] }) scope.names) := T.keep _ _ _ stb fun b _ o e => pushCells_keeps _ _ _ _ (Heap.get?_push_of_some _ e)
  have pg := hg s3 H3 s3.heap.objs.size (cellsFrom (s3.heap.objs.size + 1) scope.names (cloFrom X.env.cells scope.names [])) fp
  have pt := ht s3 H3 s3.heap.objs.size (cellsFrom (s3.heap.objs.size + 1) scope.names (cloFrom X.env.cells scope.names [])) fp
  have pe := he s3 H3 s3.heap.objs.size (cellsFrom (s3.heap.objs.size + 1) scope.names (cloFrom X.env.cells scope.names [])) fp
  generalize hce : compEnvC scope (cellsFrom (s3.heap.objs.size + 1) scope.names (cloFrom X.env.cells scope.names [])) s3.heap.objs.size X.env = ce at Ic pg pt pe ⊢
  have cL : ce.locals = s3.heap.objs.size := by subst hce; rfl
  generalize hs4 : ({ s3 with heap := pushCells (s3.heap.push { cls := .type "dict", data := .dict #[] }) scope.names } : Shared) = s4 at Ic ⊢
  have st4 : tn 0 s4.heap := by rw [← hs4]; exact stc
  have apart : ∀ {σ' : L2.St} {H' : Hp} {s' : Shared}, Inv (X.blk s3 H3 scope ce fp) [] σ' H' s' → (∀ b ∈ fp, H' b = none) → ∀ b ∈ fp, FpOk (X.blk s3 H3 scope ce fp) [] H' b := fun {σ' H' s'} I' n b hb =>
    ⟨n b hb, (I'.ok.exf b hb).1, I'.ok.exfs b hb, .inl hb, fun x c e => (I'.ok.exf b hb).2 x c e, fun p hp => nomatch (show p ∈ ([] : List (Addr × Obj)) from hp)⟩
  let Live (m : Nat) (s' : Shared) : Prop := ∃ i H', Inv (X.blk s3 H3 scope ce fp) [] (wipe σ (own.map (·.2))) H' s' ∧ tn i s'.heap ∧ (∀ b ∈ fp, H' b = none) ∧ W i m H'
  have run : codeAny (model X.prog X.w) X.A (.compLoop (.SetComp elt [⟨tg, iter, ifs, 0⟩] scope pos) 0 (.ref it) (.ref D) ce) (compPost (model X.prog X.w) X.A X.xe none (EP X pins σ Q) (.ref D) s3.heap.objs.size) s4 := by
    refine PpSet.compLoopS_any Live ?_ m0 ⟨0, H3, Ic, st4, fun b hb => (fb b hb).1.1, w0⟩
    rintro n s5 ⟨i, H5, I5, st5, n5, w5⟩
    rcases turn i n H5 w5 with ⟨stop, qq⟩ | ⟨go, Nx, hNx, step⟩
    · refine thnF (T.done (X.blk s3 H3 scope ce fp) rfl rfl rfl hc i [] s5 _ H5 (fun _ _ => False) I5 (apart I5 n5) st5 stop) fun r s6 ⟨hr, I6⟩ => ?_
      subst hr
      have I7 : Inv X pins σ H5 s6 := Ib.call' (ch := fp) I6.os I6.base I6.hok I6.bare fun b hb => ⟨(fb b hb).1.2.2.2.1, (fb b hb).1.2.1, (fb b hb).1.2.2.2.2.1, (fb b hb).1.2.2.2.2.2⟩
      have nC : H5 s3.heap.objs.size = none := by
        have z : H5 ce.locals = none := I6.free
        rw [cL] at z
        exact z
      obtain ⟨m, hn, _⟩ := I6.loc
      have hn : s6.heap.Ns ce.locals m := hn
      rw [cL] at hn
      obtain ⟨f0, f1, f2, f3, f4, f5⟩ := Ib.fpOk (H' := H5) (Nat.le_refl _) nC
      exact ⟨m, hn, fun h'' sb => ⟨.ref D, H5, I7.turned (t' := s6.toks) (fun b o hb e => (sb.2 b hb).trans e) f0 f1 f3 f4 f5, rfl, qq⟩⟩
    · refine thnF (T.item (X.blk s3 H3 scope ce fp) rfl rfl rfl hc i [] s5 _ H5 (fun _ _ => False) I5 (apart I5 n5) st5 go) fun r s6 ⟨u, hr, h6⟩ => ?_
      subst hr
      refine thnF h6 fun _ s7 ⟨x, H7, I7, r7, y7, st7, n7⟩ => ?_
      refine thnF (pg.run _ s7 _ H7 x u _ (I7.pinned (apart I7 n7) (T.obj _ _ st7)) r7 (step x H7 y7)) fun _ s8 ⟨σ8, H8, I8, hw8, q8⟩ => ?_
      refine thnF (pt.run _ s8 σ8 H8 _ I8 q8) fun b s9 ⟨H9, I9, q9⟩ => ?_
      have fin : ∀ {s' : Shared} {H' : Hp}, Inv (X.blk s3 H3 scope ce fp) ([] ++ pinsAt fp s7.heap) σ8 H' s' → Nx H' → ∃ m, m < n ∧ Live m s' := fun {s' H'} I' nx => by
        obtain ⟨m', hm, w'⟩ := hNx H' nx
        have still : ∀ b ∈ fp, ∀ o, s7.heap.get? b = some o → s'.heap.get? b = some o ∧ H' b = none := fun b hb o e =>
          (I'.pin (b, o) (List.mem_append_right _ (List.mem_append_right _ (mem_pinsAt hb e)))).imp id fun z => z.1
        refine ⟨m', hm, i + 1, H', (I'.unpinned (pins := [])).weak (by rw [← hw8, wipe_length]) (fun j v e => ?_), T.keep _ _ _ st7 fun b hb o e => (still b hb o e).1, fun b hb => ?_, w'⟩
        · rw [← hw8] at e
          exact (wipe_some e).1
        · obtain ⟨o, e, _⟩ := T.obj _ _ st7 b hb
          exact (still b hb o e).2
      cases b with
      | false =>
        simp only [Bool.false_eq_true, if_false] at q9 ⊢
        exact fin I9 q9
      | true =>
        simp only [if_true] at q9 ⊢
        refine thnF (pe.run _ s9 σ8 H9 _ I9 q9) fun z s10 ⟨yv, H10, I10, r10, k, l, ey, hD10, hz10, nx⟩ => ?_
        subst ey
        obtain ⟨tk, rfl⟩ := (show ∃ tk, z = Value.str k tk from r10)
        exact addT_ok (X := X.blk s3 H3 scope ce fp) I10 hD10 hz10 fun s11 I11 => fin I11 nx
  exact PpSet.codeAny_compStart_set run (T.self X.A 0 _ _ _ st4 run)
end
end Dz

set_option Elab.async false
set_option linter.all false
set_option maxRecDepth 100000
set_option maxHeartbeats 4000000
/-! DzV: sorted({elt for target in iter if ..}) of texts, as a rule over data. -/
namespace Dz
open PySem PySem.Spec L2 PySem.Froz PyProof.Rows

def compS (g : WG) (t : WT) (e : WE) (ρ : Rho) : List DV → List Str → Mh → (List Str → Mh → Prop) → Prop
  | [], acc, μ, P => P acc μ
  | x :: xs, acc, μ, P => g x ρ fun ρ1 => t ρ1 μ fun b μ1 => match b with
    | true => e ρ1 μ1 fun y μ2 => ∃ k, y = .str k ∧ acc.length < 63 ∧ compS g t e ρ xs (acc ++ [k]) μ2 P
    | false => compS g t e ρ xs acc μ1 P
def wSortSc (ws : WI) (g : WG) (t : WT) (e : WE) (vs : List Nat) : WE := fun ρ μ P => ws ρ μ fun xs μ1 => compS g t e (wipeD ρ vs) xs [] μ1 fun ks μ2 => ∀ ys, Distinct ys ks → P (.lst (ys.map .str)) μ2
/-- with a function that gives the texts -/
theorem compS_pure {g : WG} {t : WT} {e : WE} {ρ : Rho} {μ : Mh} (b : DV → Bool) (f : DV → Str) : ∀ (xs : List DV) (acc : List Str) (P : List Str → Mh → Prop),
    (∀ x ∈ xs, ∀ (acc : List Str) (P : List Str → Mh → Prop), acc.length < 63 → (if b x = true then P (acc ++ [f x]) μ else P acc μ) →
      g x ρ fun ρ1 => t ρ1 μ fun b μ1 => match b with
        | true => e ρ1 μ1 fun y μ2 => ∃ k, y = .str k ∧ acc.length < 63 ∧ P (acc ++ [k]) μ2
        | false => P acc μ1) →
    acc.length + xs.length ≤ 63 → P (acc ++ (xs.filter b).map f) μ → compS g t e ρ xs acc μ P
  | [], acc, P, _, _, q => by
    have q' : P (acc ++ []) μ := q
    rw [List.append_nil] at q'
    exact q'
  | x :: xs, acc, P, hx, hl, q => by
    rw [List.length_cons] at hl
    refine hx x List.mem_cons_self acc (fun ac μ' => compS g t e ρ xs ac μ' P) (by omega) ?_
    by_cases hb : b x = true
    · rw [if_pos hb]
      rw [List.filter_cons_of_pos hb, List.map_cons] at q
      refine compS_pure b f xs (acc ++ [f x]) P (fun z hz => hx z (List.mem_cons_of_mem _ hz)) (by simp; omega) ?_
      rw [List.append_assoc]
      exact q
    · rw [if_neg hb]
      rw [List.filter_cons_of_neg hb] at q
      exact compS_pure b f xs acc P (fun z hz => hx z (List.mem_cons_of_mem _ hz)) (by omega) q
theorem putAll_snoc (ks : List Str) (k : Str) : putAll [] (ks ++ [k]) = putT k (putAll [] ks) := by
  unfold putAll
  rw [List.foldl_append] <;> rfl
section
variable {X : Cx} {elt tg iter : Expr} {ifs : List Expr} {scope : Scope} {own : List (Str × Nat)} {p pos pos2 : Pos} {ws : WI} {g : WG} {t : WT} {e : WE} {sl : List Nat}
theorem sc_imp {P' : Program} {w' : World} {K : PySem.W.Frag} {vs : List Nat} (hv : ∀ i ∈ sl, i ∈ vs) : ∀ σ H Q, tD K (wSortSc ws g t e vs) σ H Q → tCB (rSortSet P' w') (tCons (tScT P' w' (tDI K ws) (tDG K sl g) (tDT K t) (tD K e) vs) tNil) σ H Q := fun σ H Q ⟨R, ρ, μ, P, a, w, k⟩ =>
  ⟨R, ρ, μ, _, a, w, fun xs μ1 H1 J p1 o1 s1 it => fun D n => by
    have rn := o1.freeR n
    refine ⟨fun i m H' => m = xs.length - i ∧ i ≤ xs.length ∧ ∃ μ' ks, ks.length ≤ 63 ∧ Ok K (upd R D (setO P' w' D (putAll [] ks))) μ' H' ∧ Same (hid R μ1 H1) (hid (upd R D (setO P' w' D (putAll [] ks))) μ' H') ∧
      compS g t e (wipeD ρ vs) (xs.drop i) ks μ' fun ks μ2 => ∀ ys, Distinct ys ks → P (.lst (ys.map .str)) μ2, ?_, ?_⟩
    · obtain ⟨o2, e2⟩ := o1.frame (o := setO P' w' D []) n
      exact ⟨_, rfl, Nat.zero_le _, μ1, [], by decide, o2, by rw [show putAll [] [] = [] from rfl, e2]; exact Same.refl _, p1⟩
    rintro i m H2 ⟨rfl, hi, μ2, ks, h63, o2, s2, w2⟩
    by_cases hlt : i < xs.length
    · refine .inr ⟨it.go _ μ2 H2 i o2 s2 hlt, fun H' => ∃ μ' ks, ks.length ≤ 63 ∧ Ok K (upd R D (setO P' w' D (putAll [] ks))) μ' H' ∧ Same (hid R μ1 H1) (hid (upd R D (setO P' w' D (putAll [] ks))) μ' H') ∧
        compS g t e (wipeD ρ vs) (xs.drop (i + 1)) ks μ' fun ks μ2 => ∀ ys, Distinct ys ks → P (.lst (ys.map .str)) μ2, fun H' ⟨μ', ks', z', o', s', w'⟩ => ⟨_, ?_, rfl, hlt, μ', ks', z', o', s', w'⟩, fun x H3 y => ?_⟩
      · omega
      · obtain ⟨d, hd, o3, s3, r3⟩ := it.yld _ μ2 H2 i x H3 o2 s2 y hlt
        rw [drop_at hd] at w2
        have sl3 : Sl K (hid (upd R D (setO P' w' D (putAll [] ks))) μ2 H3) (wipe σ vs) (wipeD ρ vs) := (a.sl.mono ((s1.trans s2).trans s3)).wipe vs
        refine ⟨_, wipeD ρ vs, μ2, d, _, ⟨o3, sl3⟩, r3, w2, fun ρ4 σ4 w4 sl4 ww => ⟨by rw [ww vs hv, wipe_wipe], _, ρ4, μ2, _, ⟨o3, sl4⟩, w4, fun b μ5 H5 p5 o5 s5 => ?_⟩⟩
        cases b with
        | false => exact iteF ⟨μ5, ks, h63, o5, (s2.trans s3).trans s5, p5⟩
        | true =>
          refine iteT ⟨_, ρ4, μ5, _, ⟨o5, sl4.mono s5⟩, p5, fun y μ6 v H6 p6 o6 s6 r6 => ?_⟩
          obtain ⟨k, rfl, hk, p6⟩ := p6
          cases r6
          have hle := putAll_len ks []
          obtain ⟨o7, e7⟩ := o6.reframe (o' := setO P' w' D (putT k (putAll [] ks)))
          refine ⟨k, putAll [] ks, rfl, o6.fr D _ upd_same, ?_, μ6, ks ++ [k], by rw [List.length_append]; simp; omega, ?_, ?_, p6⟩
          · show (putAll [] ks).length + 1 < 4096
            have : ([] : List Str).length = 0 := rfl
            omega
          · rw [putAll_snoc]
            exact o7
          · rw [putAll_snoc, e7]
            exact ((s2.trans s3).trans s5).trans s6
    · have e' : i = xs.length := by omega
      subst e'
      rw [List.drop_length] at w2
      have hset : H2 D = some (setO P' w' D (putAll [] ks)) := o2.fr D _ upd_same
      obtain ⟨o4, s4, h4⟩ := o2.unframe rn
      refine .inl ⟨it.stop _ μ2 H2 _ o2 s2 (Nat.le_refl _), D, putAll [] ks, rfl, hset, ?_, fun ys p' pm nd up hp' => ?_⟩
      · have hle := putAll_len ks []
        have : ([] : List Str).length = 0 := rfl
        omega
      · refine (k.step (s1.trans (s2.trans s4))).lst o4 (w2 ys ⟨pm.nodup_iff.mpr nd, up, fun k => ?_⟩) (Iss.ofStrs ys) hp'
        rw [pm.mem_iff, mem_putAll]
        simp⟩
theorem d_sortSc (hgl : Gl X "sorted") (hm : X.mg "sorted" = none) (hi : PI X tg iter (tDI X.K ws)) (ok : BlkOk X.N X.env.scope scope own)
    (hg : ∀ (s : Shared) (H : Hp) (C : Addr) (cl : List (Str × Addr)) (fp : List Addr), PG (X.blk s H scope (compEnvC scope cl C X.env) fp) tg (tDG X.K sl g)) (ht : ∀ (s : Shared) (H : Hp) (C : Addr) (cl : List (Str × Addr)) (fp : List Addr), PTs (X.blk s H scope (compEnvC scope cl C X.env) fp) ifs (tDT X.K t))
    (he : ∀ (s : Shared) (H : Hp) (C : Addr) (cl : List (Str × Addr)) (fp : List Addr), PE (X.blk s H scope (compEnvC scope cl C X.env) fp) elt (tD X.K e)) (hN : X.N.Nodup) (hv : ∀ i ∈ sl, i ∈ own.map (·.2) := by decide) (hc : X.calm = true := by rfl) (hs : ∀ x, foldedSetIterable iter X.env x = pure x := by intro _; rfl)
    (hs2 : starEach [.SetComp elt [⟨tg, iter, ifs, 0⟩] scope pos2] X.env = [(false, eval (.SetComp elt [⟨tg, iter, ifs, 0⟩] scope pos2) X.env)] := by rfl) :
    PE X (.Call (.Name "sorted" p) [.SetComp elt [⟨tg, iter, ifs, 0⟩] scope pos2] [] pos) (tD X.K (wSortSc ws g t e (own.map (·.2)))) :=
  PE.imp (pe_callB (cr_sortSet hc) hgl hm (by decide +kernel) (pa_cons (pe_scT hc hN hi ok hg ht he hs) pa_nil hs2) (by decide) (by decide) hs2 rfl) (sc_imp hv)
end
end Dz

set_option Elab.async false
set_option linter.all false
set_option maxRecDepth 100000
set_option maxHeartbeats 2000000
/-! DzW: an object that changes no more is plain data. -/
namespace Dz
open PySem L2

def delM (μ : Mh) (a : Addr) : Mh := fun b => if b = a then none else μ b
theorem delM_same {μ : Mh} {a : Addr} : delM μ a a = none := by unfold delM; rw [if_pos rfl]
theorem delM_ne {μ : Mh} {a b : Addr} (h : b ≠ a) : delM μ a b = μ b := by unfold delM; rw [if_neg h]
theorem Ok.free {K : PySem.W.Frag} {R : Hp} {μ : Mh} {H : Hp} {a : Addr} {m : MO} (k : Ok K R μ H) (h : μ a = some m) (hn : m ≠ .inner) : Ok K R (delM μ a) H ∧ Same (hid R μ H) (hid R (delM μ a) H) ∧ hid R (delM μ a) H a = H a := by
  have ra : R a = none := by
    cases e : R a with
    | none => rfl
    | some o => rw [k.dj a o e] at h; cases h
  have hs : Same (hid R μ H) (hid R (delM μ a) H) := fun b u e => by
    obtain ⟨e1, e2, e3⟩ := hid_some e
    have ne : b ≠ a := fun z => by subst z; rw [h] at e2; cases e2
    rw [hid_at e1 (by rw [delM_ne ne]; exact e2)]
    exact e3
  refine ⟨⟨k.fr, fun b o e => ?_, fun b u e => ?_⟩, hs, hid_at ra delM_same⟩
  · have := k.dj b o e
    unfold delM
    split
    · rfl
    · exact this
  · by_cases z : b = a
    · subst z
      rw [delM_same] at e
      cases e
    · rw [delM_ne z] at e
      refine (k.ob b u e).mono hs rfl (fun _ _ => rfl) e (fun c q => ?_)
      rw [delM_ne fun w => by subst w; rw [h] at q; cases q; exact hn rfl]
      exact q
/-- e, an object that changes no more -/
def wFrz (w : WE) : WE := fun ρ μ P => w ρ μ fun d μ1 => match d with
  | .obj a => match μ1 a with
    | some (.lst ds) => P (.lst ds) (delM μ1 a)
    | some (.dct ds) => P (.dct ds) (delM μ1 a)
    | _ => False
  | d => P d μ1
theorem d_frz {X : Cx} {e : Expr} {w : WE} (h : PE X e (tD X.K w)) : PE X e (tD X.K (wFrz w)) :=
  PE.imp h fun σ H Q ⟨R, ρ, μ, P, a, w, k⟩ => ⟨R, ρ, μ, _, a, w, fun x μ1 v H1 p1 o1 s1 i1 => by
    cases i1 with
    | obj b =>
      have p2 : (match μ1 b with | some (.lst ds) => P (.lst ds) (delM μ1 b) | some (.dct ds) => P (.dct ds) (delM μ1 b) | _ => False) := p1
      split at p2
      · rename_i ds e
        obtain ⟨xs, h1, r⟩ := o1.ob b _ e
        obtain ⟨o2, s2, e2⟩ := o1.free e (by intro z; cases z)
        exact k _ _ _ _ p2 o2 (s1.trans s2) (.lst (e2.trans h1) (r.mono s2))
      · rename_i ds e
        obtain ⟨xs, h1, q, r⟩ := o1.ob b _ e
        obtain ⟨o2, s2, e2⟩ := o1.free e (by intro z; cases z)
        exact k _ _ _ _ p2 o2 (s1.trans s2) (.dct (e2.trans h1) q (r.mono s2))
      · exact p2.elim
    | none => exact k _ _ _ _ p1 o1 s1 .none
    | bool c => exact k _ _ _ _ p1 o1 s1 (.bool c)
    | int c => exact k _ _ _ _ p1 o1 s1 (.int c)
    | str c => exact k _ _ _ _ p1 o1 s1 (.str c)
    | tup h1 r => exact k _ _ _ _ p1 o1 s1 (.tup h1 r)
    | lst h1 r => exact k _ _ _ _ p1 o1 s1 (.lst h1 r)
    | dct h1 q r => exact k _ _ _ _ p1 o1 s1 (.dct h1 q r)
    | fix h1 r => exact k _ _ _ _ p1 o1 s1 (.fix h1 r)⟩
/-! ### a def that leaves the objects as they were -/
/-- new lists and dicts aside, the same objects -/
def NewOf (μ μ' : Mh) : Prop := ∀ b, μ' b = μ b ∨ (μ b = none ∧ ((∃ ds, μ' b = some (.lst ds)) ∨ ∃ ds, μ' b = some (.dct ds)))
theorem NewOf.refl {μ : Mh} : NewOf μ μ := fun _ => .inl rfl
theorem NewOf.lst {μ μ1 : Mh} {p : Addr} {ds : List DV} (h : NewOf μ μ1) (n : μ p = none) : NewOf μ (updM μ1 p (.lst ds)) := fun b => by
  by_cases e : b = p
  · subst e
    exact .inr ⟨n, .inl ⟨ds, updM_same⟩⟩
  · rw [updM_ne e]
    exact h b
theorem NewOf.dct {μ μ1 : Mh} {p : Addr} {ds : List (Key × DV)} (h : NewOf μ μ1) (n : μ p = none) : NewOf μ (updM μ1 p (.dct ds)) := fun b => by
  by_cases e : b = p
  · subst e
    exact .inr ⟨n, .inr ⟨ds, updM_same⟩⟩
  · rw [updM_ne e]
    exact h b
theorem NewOf.del {μ μ1 : Mh} {p : Addr} (h : NewOf μ μ1) (n : μ p = none) : NewOf μ (delM μ1 p) := fun b => by
  by_cases e : b = p
  · subst e
    exact .inl (by rw [delM_same, n])
  · rw [delM_ne e]
    exact h b
theorem NewOf.none {μ μ1 : Mh} {b : Addr} (h : NewOf μ μ1) (n : μ1 b = none) : μ b = none := by
  rcases h b with e | ⟨e, _⟩
  · rw [← e]; exact n
  · exact e
theorem Ok.restrict {K : PySem.W.Frag} {R : Hp} {μ μ' : Mh} {H : Hp} (k : Ok K R μ' H) (n : NewOf μ μ') : Ok K R μ H ∧ Same (hid R μ' H) (hid R μ H) := by
  have hs : Same (hid R μ' H) (hid R μ H) := fun b u e => by
    obtain ⟨e1, e2, e3⟩ := hid_some e
    rw [hid_at e1 (n.none e2)]
    exact e3
  refine ⟨⟨k.fr, fun b o e => n.none (k.dj b o e), fun b u e => ?_⟩, hs⟩
  have e' : μ' b = some u := by
    rcases n b with z | ⟨z, _⟩
    · rw [z]; exact e
    · rw [z] at e; cases e
  refine (k.ob b u e').mono hs rfl (fun _ _ => rfl) e' (fun c q => ?_)
  rcases n c with z | ⟨_, ⟨ds, z⟩ | ⟨ds, z⟩⟩
  · rw [← z]; exact q
  · rw [z] at q; cases q
  · rw [z] at q; cases q
def wPure (w : WS) : WS := fun E ρ μ => w { nx := fun ρ' μ' => NewOf μ μ' ∧ E.nx ρ' μ, rt := fun d μ' => NewOf μ μ' ∧ E.rt d μ } ρ μ
theorem dss_pure {X : Cx} {body : List Stmt} {w : WS} (h : PSs X body (tDS X.K w)) : PSs X body (tDS X.K (wPure w)) :=
  PSs.imp h fun D σ H ⟨R, ρ, μ, E, a, w, k⟩ => ⟨R, ρ, μ, _, a, w, {
    nx := fun ρ' μ' σ' H' p a' s' => by
      obtain ⟨o2, s2⟩ := a'.ok.restrict p.1
      exact k.nx ρ' μ σ' H' p.2 ⟨o2, a'.sl.mono s2⟩ (s'.trans s2)
    rt := fun d μ' v H' p o' s' i => by
      obtain ⟨o2, s2⟩ := o'.restrict p.1
      exact k.rt d μ v H' p.2 o2 (s'.trans s2) (i.mono s2)
    bk := fun _ _ _ _ p => p.elim
    ct := fun _ _ _ _ p => p.elim }⟩
end Dz

set_option Elab.async false
set_option linter.all false
set_option maxRecDepth 100000
set_option maxHeartbeats 1000000
/-! DzX: what a written dict holds, entry by entry. -/
namespace Dz
open PySem L2

theorem ea_nil {K : PySem.W.Frag} {p : Addr} : ∀ e ∈ ([] : List (Str × DV)), ∃ u, PySem.W.nsIn K p e.1 = some (some u) ∧ CI K u e.2 := fun e h => by cases h
theorem ea_cons {K : PySem.W.Frag} {p : Addr} {k : Str} {d : DV} {f : List (Str × DV)} {u : Value} (h : PySem.W.nsIn K p k = some (some u)) (c : CI K u d) (r : ∀ e ∈ f, ∃ u, PySem.W.nsIn K p e.1 = some (some u) ∧ CI K u e.2) : ∀ e ∈ (k, d) :: f, ∃ u, PySem.W.nsIn K p e.1 = some (some u) ∧ CI K u e.2 := fun e he => by
  rcases List.mem_cons.mp he with rfl | he
  · exact ⟨u, h, c⟩
  · exact r e he
end Dz

set_option Elab.async false
set_option linter.all false
set_option maxRecDepth 100000
set_option maxHeartbeats 1000000
/-! Qz1: data with places. -/
namespace Qz
open PySem L2 Dz

theorem sl {n : Nat} (h : n ≤ 1000000) : n ≤ sizeLine := by rw [sizeLine_eq]; omega
/-- the part at a place -/
def atP : DV → List Nat → Option DV
  | d, [] => some d
  | .tup ds, i :: r => match ds[i]? with | some e => atP e r | none => none
  | _, _ :: _ => none
/-- another part there -/
def repl : DV → List Nat → DV → DV
  | _, [], x => x
  | .tup ds, i :: r, x => match ds[i]? with | some e => .tup (ds.set i (repl e r x)) | none => .tup ds
  | d, _ :: _, _ => d
theorem atP_cons {d y : DV} {i : Nat} {r : List Nat} (h : atP d (i :: r) = some y) : ∃ ds e, d = .tup ds ∧ ds[i]? = some e ∧ atP e r = some y := by
  cases d with
  | tup ds =>
    have h' : (match ds[i]? with | some e => atP e r | none => none) = some y := h
    cases e : ds[i]? with
    | none => rw [e] at h'; cases h'
    | some z => rw [e] at h'; exact ⟨ds, z, rfl, e, h'⟩
  | _ => cases h
theorem repl_cons {ds : List DV} {e x : DV} {i : Nat} {r : List Nat} (h : ds[i]? = some e) : repl (.tup ds) (i :: r) x = .tup (ds.set i (repl e r x)) := by
  show (match ds[i]? with | some e => DV.tup (ds.set i (repl e r x)) | none => .tup ds) = _
  rw [h]
theorem lt_of_get {ds : List DV} {e : DV} {i : Nat} (h : ds[i]? = some e) : i < ds.length := (List.getElem?_eq_some_iff.mp h).1
theorem repl_at : ∀ (r : List Nat) (d x : DV), (∃ y, atP d r = some y) → atP (repl d r x) r = some x
  | [], _, x, _ => rfl
  | i :: r, d, x, ⟨y, h⟩ => by
    obtain ⟨ds, e, rfl, h1, h2⟩ := atP_cons h
    rw [repl_cons h1]
    show (match (ds.set i (repl e r x))[i]? with | some e => atP e r | none => none) = _
    rw [List.getElem?_set_self (lt_of_get h1)]
    exact repl_at r e x ⟨y, h2⟩
theorem repl_repl : ∀ (r : List Nat) (d x y : DV), (∃ z, atP d r = some z) → repl (repl d r x) r y = repl d r y
  | [], _, _, _, _ => rfl
  | i :: r, d, x, y, ⟨z, h⟩ => by
    obtain ⟨ds, e, rfl, h1, h2⟩ := atP_cons h
    rw [repl_cons h1, repl_cons (x := y) h1, repl_cons (e := repl e r x) (List.getElem?_set_self (lt_of_get h1)), List.set_set, repl_repl r e x y ⟨z, h2⟩]
theorem repl_same : ∀ (r : List Nat) (d x : DV), atP d r = some x → repl d r x = d
  | [], d, x, h => (Option.some.inj h).symm
  | i :: r, d, x, h => by
    obtain ⟨ds, e, rfl, h1, h2⟩ := atP_cons h
    rw [repl_cons h1, repl_same r e x h2]
    congr 1
    obtain ⟨hi, he⟩ := List.getElem?_eq_some_iff.mp h1
    rw [← he, List.set_getElem_self]
theorem sizs_get {N p : Nat} : ∀ {ds : List DV} {i : Nat} {e : DV}, Sizs N p ds → ds[i]? = some e → Siz N p e
  | [], i, e, _, h => by simp at h
  | d :: ds, 0, e, s, h => by
    have : d = e := by simpa using h
    subst this
    refine ⟨(Bool.and_eq_true_iff.mp s.no).1, (Bool.and_eq_true_iff.mp s.sh).1, (Bool.and_eq_true_iff.mp s.lv).1, ?_, ?_, (Bool.and_eq_true_iff.mp s.pl).1⟩
    · have : (toPy d).bulk + 1 + PyData.bulkAll (toPys ds) ≤ N := s.bk
      omega
    · have : max (toPy d).depth (PyData.depthAll (toPys ds)) ≤ p := s.dp
      omega
  | d :: ds, i + 1, e, s, h => by
    refine sizs_get (ds := ds) (i := i) ⟨(Bool.and_eq_true_iff.mp s.no).2, (Bool.and_eq_true_iff.mp s.sh).2, (Bool.and_eq_true_iff.mp s.lv).2, ?_, ?_, (Bool.and_eq_true_iff.mp s.pl).2⟩ (by simpa using h)
    · have : (toPy d).bulk + 1 + PyData.bulkAll (toPys ds) ≤ N := s.bk
      omega
    · have : max (toPy d).depth (PyData.depthAll (toPys ds)) ≤ p := s.dp
      omega
theorem sizs_set {M q : Nat} {x : DV} : ∀ {N p : Nat} {ds : List DV} {i : Nat} {e : DV}, Sizs N p ds → ds[i]? = some e → Siz ((toPy e).bulk + M) q x → Sizs (N + M) (max p q) (ds.set i x)
  | N, p, [], i, e, _, h, _ => by simp at h
  | N, p, d :: ds, 0, e, s, h, hx => by
    have : d = e := by simpa using h
    subst this
    have hb : (toPy d).bulk + 1 + PyData.bulkAll (toPys ds) ≤ N := s.bk
    have hd : max (toPy d).depth (PyData.depthAll (toPys ds)) ≤ p := s.dp
    have r : Sizs (PyData.bulkAll (toPys ds)) p ds := ⟨(Bool.and_eq_true_iff.mp s.no).2, (Bool.and_eq_true_iff.mp s.sh).2, (Bool.and_eq_true_iff.mp s.lv).2, Nat.le_refl _, by omega, (Bool.and_eq_true_iff.mp s.pl).2⟩
    exact (Sizs.cons (hx.le (Nat.le_refl _) (Nat.le_max_right p q)) (r.le (Nat.le_refl _) (Nat.le_max_left p q))).le (by omega) (Nat.le_refl _)
  | N, p, d :: ds, i + 1, e, s, h, hx => by
    have hb : (toPy d).bulk + 1 + PyData.bulkAll (toPys ds) ≤ N := s.bk
    have hd : max (toPy d).depth (PyData.depthAll (toPys ds)) ≤ p := s.dp
    have r : Sizs (PyData.bulkAll (toPys ds)) p ds := ⟨(Bool.and_eq_true_iff.mp s.no).2, (Bool.and_eq_true_iff.mp s.sh).2, (Bool.and_eq_true_iff.mp s.lv).2, Nat.le_refl _, by omega, (Bool.and_eq_true_iff.mp s.pl).2⟩
    have h1 : Siz (toPy d).bulk p d := ⟨(Bool.and_eq_true_iff.mp s.no).1, (Bool.and_eq_true_iff.mp s.sh).1, (Bool.and_eq_true_iff.mp s.lv).1, Nat.le_refl _, by omega, (Bool.and_eq_true_iff.mp s.pl).1⟩
    have r2 := sizs_set (M := M) (q := q) r (show ds[i]? = some e by simpa using h) hx
    exact (Sizs.cons (h1.le (Nat.le_refl _) (Nat.le_max_left p q)) r2).le (by omega) (Nat.le_refl _)
theorem siz_tupI {N p : Nat} {ds : List DV} (h : Siz N p (.tup ds)) : ∃ p', p = p' + 1 ∧ Sizs N p' ds := by
  have hd : PyData.depthAll (toPys ds) + 1 ≤ p := h.dp
  exact ⟨p - 1, by omega, ⟨h.no, h.sh, h.lv, h.bk, by omega, h.pl⟩⟩
theorem repl_siz {M q : Nat} {x : DV} (hx : Siz M q x) : ∀ (r : List Nat) {N p : Nat} (d : DV), Siz N p d → (∃ y, atP d r = some y) → Siz (N + M) (p + q) (repl d r x)
  | [], N, p, d, _, _ => hx.le (by omega) (by omega)
  | i :: r, N, p, d, h, ⟨y, hy⟩ => by
    obtain ⟨ds, e, rfl, h1, h2⟩ := atP_cons hy
    rw [repl_cons h1]
    obtain ⟨p', rfl, hs⟩ := siz_tupI h
    have he := sizs_get hs h1
    have he' : Siz (toPy e).bulk p' e := ⟨he.no, he.sh, he.lv, Nat.le_refl _, he.dp, he.pl⟩
    have ih := repl_siz hx r e he' ⟨y, h2⟩
    exact (Siz.tup (sizs_set hs h1 ih)).le (Nat.le_refl _) (by omega)

/-! ### slices -/
theorem cut_to {ds : List DV} (i : Nat) : cutD ds none (some (i : Int)) = ds.take i := by
  unfold cutD
  have e0 : HT.sIx ds.length 0 none = 0 := rfl
  have e1 : HT.sIx ds.length ds.length (some (i : Int)) = min i ds.length := HT.sIx_nat _ _ _
  rw [e0, e1, List.drop_zero, Nat.sub_zero]
  rw [List.take_eq_take_iff]
  omega
theorem cut_from {ds : List DV} (i : Nat) : cutD ds (some (i : Int)) none = ds.drop i := by
  unfold cutD
  have e0 : HT.sIx ds.length 0 (some (i : Int)) = min i ds.length := HT.sIx_nat _ _ _
  have e1 : HT.sIx ds.length ds.length none = ds.length := rfl
  rw [e0, e1]
  by_cases h : i ≤ ds.length
  · rw [Nat.min_eq_left h, List.take_of_length_le (by rw [List.length_drop]; exact Nat.le_refl _)]
  · have h' : ds.length ≤ i := by omega
    rw [Nat.min_eq_right h', List.drop_of_length_le (Nat.le_refl _), List.drop_of_length_le h', List.take_nil]
theorem atI_of {α : Type} {xs : List α} {i : Nat} {x : α} (h : xs[i]? = some x) : atI xs (i : Int) = some x := by
  have hi := (List.getElem?_eq_some_iff.mp h).1
  unfold atI ixN
  rw [if_pos (by omega), if_pos (by omega)]
  exact h
theorem sizs_len {N p : Nat} : ∀ {ds : List DV}, Sizs N p ds → ds.length ≤ N
  | [], _ => Nat.zero_le _
  | d :: ds, s => by
    have hb : (toPy d).bulk + 1 + PyData.bulkAll (toPys ds) ≤ N := s.bk
    have hd : max (toPy d).depth (PyData.depthAll (toPys ds)) ≤ p := s.dp
    have r : Sizs (PyData.bulkAll (toPys ds)) p ds := ⟨(Bool.and_eq_true_iff.mp s.no).2, (Bool.and_eq_true_iff.mp s.sh).2, (Bool.and_eq_true_iff.mp s.lv).2, Nat.le_refl _, by omega, (Bool.and_eq_true_iff.mp s.pl).2⟩
    have := sizs_len r
    rw [List.length_cons]
    omega
theorem shaped_intsT (ns : List Int) : shapedD (.tup (ns.map .int)) = true := by
  have h1 := canLay_ints ns
  have h2 := depth_ints ns
  have h3 := noObjs_ints ns
  show (noObjs (ns.map .int) && (PyData.canLayAll0 (toPys (ns.map .int)) && decide (PyData.depthAll (toPys (ns.map .int)) + 1 ≤ 64))) = true
  rw [h1, h2, h3]
  rfl
def pathL (r : List Nat) : List DV := r.map fun i => .int (i : Nat)
abbrev pathD (r : List Nat) : DV := .tup (pathL r)
theorem shaped_path (r : List Nat) : shapedD (pathD r) = true := by
  have := shaped_intsT (r.map fun i : Nat => (i : Int))
  rw [List.map_map] at this
  exact this
abbrev Thg (d : DV) : Prop := Siz 120000 60 d
theorem thg_in {ds : List DV} {e : DV} {i : Nat} (h : Thg (.tup ds)) (h1 : ds[i]? = some e) : Thg e ∧ ds.length ≤ 120000 := by
  obtain ⟨p', e', hs⟩ := siz_tupI h
  exact ⟨(sizs_get hs h1).le (Nat.le_refl _) (by omega), sizs_len hs⟩

theorem noDcts_mem : ∀ {ds : List DV}, noDcts ds = true → ∀ d ∈ ds, noDct d = true
  | [], _, d, h => by cases h
  | e :: ds, h, d, hd => by
    have h' : (noDct e && noDcts ds) = true := h
    rw [Bool.and_eq_true] at h'
    rcases List.mem_cons.mp hd with rfl | hd
    · exact h'.1
    · exact noDcts_mem h'.2 d hd
theorem noDcts_of : ∀ {ds : List DV}, (∀ d ∈ ds, noDct d = true) → noDcts ds = true
  | [], _ => rfl
  | e :: ds, h => by
    show (noDct e && noDcts ds) = true
    rw [h e List.mem_cons_self, noDcts_of fun d hd => h d (List.mem_cons_of_mem _ hd)]
    rfl
theorem nd_at : ∀ (r : List Nat) {d y : DV}, noDct d = true → atP d r = some y → noDct y = true
  | [], d, y, h, e => by rw [← Option.some.inj e]; exact h
  | i :: r, d, y, h, e => by
    obtain ⟨ds, z, rfl, h1, h2⟩ := atP_cons e
    exact nd_at r (noDcts_mem (show noDcts ds = true from h) z (List.mem_of_getElem? h1)) h2
theorem siz_at {N p : Nat} : ∀ (r : List Nat) {d y : DV}, Siz N p d → atP d r = some y → Siz N p y
  | [], d, y, h, e => by rw [← Option.some.inj e]; exact h
  | i :: r, d, y, h, e => by
    obtain ⟨ds, z, rfl, h1, h2⟩ := atP_cons e
    obtain ⟨p', rfl, hs⟩ := siz_tupI h
    exact (siz_at r (sizs_get hs h1) h2).le (Nat.le_refl _) (by omega)
theorem atP_append : ∀ (r s : List Nat) (d e : DV), atP d r = some e → atP d (r ++ s) = atP e s
  | [], s, d, e, h => by rw [← Option.some.inj h]; rfl
  | i :: r, s, d, e, h => by
    obtain ⟨ds, z, rfl, h1, h2⟩ := atP_cons h
    show (match ds[i]? with | some e => atP e (r ++ s) | none => none) = _
    rw [h1]
    exact atP_append r s z e h2
theorem pathL_append (r s : List Nat) : pathL r ++ pathL s = pathL (r ++ s) := by unfold pathL; rw [List.map_append]
theorem siz_path (r : List Nat) (h : ∀ i ∈ r, i < 1000) : Siz r.length 1 (pathD r) := by
  have hs := Sizs.all (N := 0) (p := 0) (ds := pathL r) (fun d hd => by
    unfold pathL at hd
    rw [List.mem_map] at hd
    obtain ⟨i, hi, rfl⟩ := hd
    have := h i hi
    exact Siz.int (Nat.lt_of_lt_of_le (by simpa using this) (by decide)))
  refine (Siz.tup hs).le ?_ (Nat.le_refl _)
  unfold pathL
  rw [List.length_map]
  omega
theorem nd_path (r : List Nat) : noDct (pathD r) = true := noDcts_of fun d hd => by
  unfold pathL at hd
  rw [List.mem_map] at hd
  obtain ⟨i, hi, rfl⟩ := hd
  rfl
end Qz

set_option Elab.async false
set_option linter.all false
set_option maxRecDepth 100000
set_option maxHeartbeats 1000000
/-! Qz2: terms and conditions as trees: what stands downs a part, all parts, the leaves. -/
namespace Qz
open PySem L2 Dz

/-- the parts right downs a part, each with the way to it -/
inductive Below : DV → List (List Nat × DV) → Prop
  | col {x y : Str} : Below (.tup [.str "column", .str x, .str y]) []
  | val {x : DV} : Below (.tup [.str "value", x]) []
  | b1 {w : Str} {x y : DV} (h : w = "plus" ∨ w = "is") : Below (.tup [.str w, x, y]) [([1], x)]
  | no {x : DV} : Below (.tup [.str "not", x]) [([1], x)]
  | b2 {r c : DV} : Below (.tup [.str "exists", .tup [r, c]]) [([1, 1], c)]
  | b3 {w : Str} {r c t : DV} (h : w = "only" ∨ w = "first") : Below (.tup [.str w, .tup [r, c], t]) [([1, 1], c), ([2], t)]
  | b4 {w : Str} {a b : DV} (h : w = "less" ∨ w = "most" ∨ w = "same" ∨ w = "and" ∨ w = "or") : Below (.tup [.str w, a, b]) [([1], a), ([2], b)]
def downs (d : DV) : List (List Nat × DV) := match d with
  | .tup [.str w, x] => if w = "value" then [] else if w = "not" then [([1], x)] else match x with | .tup [_, c] => [([1, 1], c)] | _ => []
  | .tup [.str w, x, y] => if w = "column" then [] else if w = "plus" ∨ w = "is" then [([1], x)] else if w = "only" ∨ w = "first" then match x with | .tup [_, c] => [([1, 1], c), ([2], y)] | _ => [] else [([1], x), ([2], y)]
  | _ => []
theorem Below.fn {d : DV} {l : List (List Nat × DV)} (h : Below d l) : downs d = l := by
  cases h with
  | col => kernel_rfl
  | val => kernel_rfl
  | b1 h => rcases h with rfl | rfl <;> kernel_rfl
  | no => kernel_rfl
  | b2 => kernel_rfl
  | b3 h => rcases h with rfl | rfl <;> kernel_rfl
  | b4 h => rcases h with rfl | rfl | rfl | rfl | rfl <;> kernel_rfl
def itm (p : List Nat × DV) : DV := .tup [pathD p.1, p.2]
def belowD (l : List (List Nat × DV)) : List DV := l.map itm
inductive Part : Nat → DV → Prop
  | mk {n : Nat} {d : DV} {l : List (List Nat × DV)} (h : Below d l) (r : ∀ p ∈ l, Part n p.2) : Part (n + 1) d
theorem Part.up {n : Nat} {d : DV} (h : Part n d) : Part (n + 1) d := by
  induction h with
  | mk h r ih => exact .mk h ih
theorem Part.le {n m : Nat} {d : DV} (h : Part n d) (l : n ≤ m) : Part m d := by
  induction l with
  | refl => exact h
  | step _ ih => exact ih.up
theorem Part.inv {n : Nat} {d : DV} (h : Part n d) : ∃ m, n = m + 1 ∧ Below d (downs d) ∧ ∀ p ∈ downs d, Part m p.2 := by
  cases h with
  | @mk m _ l h r =>
    have e := h.fn
    subst e
    exact ⟨m, rfl, h, r⟩
theorem Below.head {d : DV} {l : List (List Nat × DV)} (h : Below d l) : ∃ w r, d = .tup (.str w :: r) := by
  cases h <;> exact ⟨_, _, rfl⟩
theorem Part.head {n : Nat} {d : DV} (h : Part n d) : ∃ w r, d = .tup (.str w :: r) := by
  obtain ⟨m, rfl, b, _⟩ := h.inv
  exact b.head
theorem Below.props {d : DV} {l : List (List Nat × DV)} (h : Below d l) : l.length ≤ 2 ∧ ∀ p ∈ l, p.1.length ≤ 2 ∧ (∀ i ∈ p.1, i < 1000) ∧ atP d p.1 = some p.2 := by
  cases h with
  | col => exact ⟨Nat.zero_le _, fun p hp => by cases hp⟩
  | val => exact ⟨Nat.zero_le _, fun p hp => by cases hp⟩
  | no | b1 _ | b2 =>
    refine ⟨Nat.le_of_ble_eq_true rfl, fun p hp => ?_⟩
    rw [List.mem_singleton] at hp
    subst hp
    exact ⟨Nat.le_of_ble_eq_true rfl, (fun i hi => by simp at hi; omega), rfl⟩
  | b3 _ | b4 _ =>
    refine ⟨Nat.le_refl _, fun p hp => ?_⟩
    simp only [List.mem_cons, List.not_mem_nil, or_false] at hp
    rcases hp with rfl | rfl
    · exact ⟨Nat.le_of_ble_eq_true rfl, (fun i hi => by simp at hi; omega), rfl⟩
    · exact ⟨Nat.le_of_ble_eq_true rfl, (fun i hi => by simp at hi; omega), rfl⟩
/-- ways to different parts part at once -/
theorem Below.apart {d : DV} {l : List (List Nat × DV)} (h : Below d l) : ∀ p ∈ l, ∀ q ∈ l, p.1 ≠ [] ∧ (p.1.head? = q.1.head? → p = q) := by
  cases h with
  | col | val => exact fun p hp => by cases hp
  | no | b1 _ | b2 =>
    intro p hp q hq
    rw [List.mem_singleton] at hp hq
    subst hp
    subst hq
    exact ⟨(fun e => by cases e), fun _ => rfl⟩
  | b3 _ | b4 _ =>
    intro p hp q hq
    simp only [List.mem_cons, List.not_mem_nil, or_false] at hp hq
    rcases hp with rfl | rfl <;> rcases hq with rfl | rfl
    all_goals exact ⟨(fun e => by cases e), fun e => by first | rfl | (simp at e)⟩

/-! ### all parts -/
def allF : Nat → DV → List Nat → List (List Nat × DV)
  | 0, _, _ => []
  | n + 1, d, lead => (lead, d) :: (downs d).flatMap fun p => allF n p.2 (lead ++ p.1)
theorem flatMap_same {α β : Type} {f g : α → List β} : ∀ {l : List α}, (∀ x ∈ l, f x = g x) → l.flatMap f = l.flatMap g
  | [], _ => rfl
  | x :: l, h => by
    rw [List.flatMap_cons, List.flatMap_cons, h x List.mem_cons_self, flatMap_same fun y hy => h y (List.mem_cons_of_mem _ hy)]
theorem allF_le : ∀ {n m : Nat} {d : DV} {lead : List Nat}, Part n d → n ≤ m → allF m d lead = allF n d lead
  | 0, _, _, _, h, _ => by obtain ⟨k, e, _⟩ := h.inv; cases e
  | n + 1, 0, _, _, _, l => absurd l (Nat.not_succ_le_zero n)
  | n + 1, m + 1, d, lead, h, l => by
    obtain ⟨k, e, _, r⟩ := h.inv
    cases e
    show (lead, d) :: _ = (lead, d) :: _
    rw [flatMap_same fun p hp => allF_le (lead := lead ++ p.1) (r p hp) (Nat.le_of_succ_le_succ l)]
def allD (d : DV) (lead : List Nat) : List (List Nat × DV) := allF 15 d lead
theorem allD_eq {n : Nat} {d : DV} {lead : List Nat} (h : Part n d) (hn : n ≤ 14) : allD d lead = (lead, d) :: (downs d).flatMap fun p => allD p.2 (lead ++ p.1) := by
  obtain ⟨k, rfl, _, r⟩ := h.inv
  unfold allD
  show (lead, d) :: _ = (lead, d) :: _
  rw [flatMap_same fun p hp => (allF_le (m := 14) (lead := lead ++ p.1) (r p hp) (by omega)).trans (allF_le (m := 15) (lead := lead ++ p.1) (r p hp) (by omega)).symm]
theorem below_flat {d : DV} {l : List (List Nat × DV)} (h : Below d l) {f : List Nat × DV → List (List Nat × DV)} {n : Nat} (hf : ∀ p ∈ l, (f p).length ≤ n) : (l.flatMap f).length ≤ 2 * n := by
  have h2 := h.props.1
  match l, h2, hf with
  | [], _, _ => exact Nat.zero_le _
  | [a], _, hf =>
    rw [List.flatMap_cons, List.flatMap_nil, List.append_nil]
    have := hf a List.mem_cons_self
    omega
  | [a, b], _, hf =>
    rw [List.flatMap_cons, List.flatMap_cons, List.flatMap_nil, List.append_nil, List.length_append]
    have := hf a List.mem_cons_self
    have := hf b (List.mem_cons_of_mem _ List.mem_cons_self)
    omega
theorem allD_len : ∀ {n : Nat} {d : DV} {lead : List Nat}, Part n d → n ≤ 14 → (allD d lead).length + 1 ≤ 2 ^ n
  | 0, _, _, h, _ => by obtain ⟨k, e, _⟩ := h.inv; cases e
  | n + 1, d, lead, h, hn => by
    rw [allD_eq h hn]
    obtain ⟨k, e, b, r⟩ := h.inv
    cases e
    have p1 : 1 ≤ 2 ^ n := Nat.one_le_pow _ _ (by decide)
    have := below_flat b (f := fun p => allD p.2 (lead ++ p.1)) (n := 2 ^ n - 1) (fun p hp => by
      have := allD_len (lead := lead ++ p.1) (r p hp) (by omega)
      omega)
    rw [List.length_cons, Nat.pow_succ]
    omega
/-- what is known of each of them -/
theorem allD_at : ∀ {n : Nat} {d : DV} {lead : List Nat}, Part n d → n ≤ 14 → ∀ e ∈ allD d lead, ∃ rel m, e.1 = lead ++ rel ∧ atP d rel = some e.2 ∧ Part m e.2 ∧ m ≤ n ∧ rel.length ≤ 2 * n ∧ ∀ i ∈ rel, i < 1000
  | 0, _, _, h, _ => by obtain ⟨k, e, _⟩ := h.inv; cases e
  | n + 1, d, lead, h, hn => by
    intro e he
    rw [allD_eq h hn] at he
    obtain ⟨k, ek, b, r⟩ := h.inv
    cases ek
    rcases List.mem_cons.mp he with rfl | he
    · exact ⟨[], n + 1, (List.append_nil _).symm, rfl, h, Nat.le_refl _, Nat.zero_le _, fun i hi => by cases hi⟩
    · rw [List.mem_flatMap] at he
      obtain ⟨p, hp, he⟩ := he
      obtain ⟨rel, m, e1, e2, e3, e4, e5, e6⟩ := allD_at (r p hp) (by omega) e he
      obtain ⟨l2, li, hat⟩ := b.props.2 p hp
      refine ⟨p.1 ++ rel, m, by rw [e1, List.append_assoc], by rw [atP_append _ _ _ _ hat]; exact e2, e3, by omega, by rw [List.length_append]; omega, fun i hi => ?_⟩
      rcases List.mem_append.mp hi with hi | hi
      · exact li i hi
      · exact e6 i hi
theorem allD_self {n : Nat} {d : DV} {lead : List Nat} (h : Part n d) (hn : n ≤ 14) : (lead, d) ∈ allD d lead := by rw [allD_eq h hn]; exact List.mem_cons_self
/-- parts of a part are parts -/
theorem allD_sub : ∀ {n : Nat} {d : DV} {lead : List Nat}, Part n d → n ≤ 14 → ∀ e ∈ allD d lead, ∀ x ∈ allD e.2 e.1, x ∈ allD d lead
  | 0, _, _, h, _ => by obtain ⟨k, e, _⟩ := h.inv; cases e
  | n + 1, d, lead, h, hn => by
    intro e he x hx
    rw [allD_eq h hn] at he ⊢
    obtain ⟨k, ek, b, r⟩ := h.inv
    cases ek
    rcases List.mem_cons.mp he with rfl | he
    · rw [← allD_eq h hn]
      exact hx
    · rw [List.mem_flatMap] at he
      obtain ⟨p, hp, he⟩ := he
      exact List.mem_cons_of_mem _ (List.mem_flatMap.mpr ⟨p, hp, allD_sub (r p hp) (by omega) e he x hx⟩)
theorem prefix_heads {α : Type} {a b s : List α} (h : a <+: s) (h' : b <+: s) (ha : a ≠ []) (hb : b ≠ []) : a.head? = b.head? := by
  obtain ⟨x, rfl⟩ := h
  obtain ⟨y, e⟩ := h'
  cases a with
  | nil => exact absurd rfl ha
  | cons i a => cases b with
    | nil => exact absurd rfl hb
    | cons j b =>
      rw [List.cons_append, List.cons_append] at e
      rw [(List.cons.inj e).1] <;> rfl
/-- what stands at a place behind a part's is a part of it -/
theorem allD_pre : ∀ {n : Nat} {d : DV} {lead : List Nat}, Part n d → n ≤ 14 → ∀ e ∈ allD d lead, ∀ x ∈ allD d lead, e.1 <+: x.1 → x ∈ allD e.2 e.1
  | 0, _, _, h, _ => by obtain ⟨k, e, _⟩ := h.inv; cases e
  | n + 1, d, lead, h, hn => by
    intro e he x hx hpre
    obtain ⟨k, ek, b, r⟩ := h.inv
    cases ek
    have he0 := he
    have hx0 := hx
    rw [allD_eq h hn] at he hx
    rcases List.mem_cons.mp he with rfl | he
    · exact hx0
    · rw [List.mem_flatMap] at he
      obtain ⟨p, hp, he⟩ := he
      obtain ⟨rel, m, e1, _⟩ := allD_at (r p hp) (by omega) e he
      have hne := (b.apart p hp p hp).1
      rcases List.mem_cons.mp hx with rfl | hx
      · exfalso
        rw [e1] at hpre
        have := hpre.length_le
        simp only [List.length_append] at this
        have : p.1.length = 0 := by omega
        exact hne (List.length_eq_zero_iff.mp this)
      · rw [List.mem_flatMap] at hx
        obtain ⟨q, hq, hx⟩ := hx
        obtain ⟨rel2, m2, e2, _⟩ := allD_at (r q hq) (by omega) x hx
        have hpre0 := hpre
        rw [e1, e2, List.append_assoc, List.append_assoc, List.prefix_append_right_inj] at hpre
        have hh := prefix_heads ((List.prefix_append p.1 rel).trans hpre) (List.prefix_append q.1 rel2) hne (b.apart q hq q hq).1
        have epq := (b.apart p hp q hq).2 hh
        subst epq
        exact allD_pre (r p hp) (by omega) e he x hx hpre0

/-! ### leaves -/
def joining (d : DV) : Bool := match d with
  | .tup (.str w :: _) => inF (.str w) [.str "not", .str "and", .str "or"]
  | _ => false
def leavesF : Nat → DV → List Nat → List (List Nat × DV)
  | 0, _, _ => []
  | n + 1, d, lead => if joining d then (downs d).flatMap fun p => leavesF n p.2 (lead ++ p.1) else [(lead, d)]
theorem leavesF_le : ∀ {n m : Nat} {d : DV} {lead : List Nat}, Part n d → n ≤ m → leavesF m d lead = leavesF n d lead
  | 0, _, _, _, h, _ => by obtain ⟨k, e, _⟩ := h.inv; cases e
  | n + 1, 0, _, _, _, l => absurd l (Nat.not_succ_le_zero n)
  | n + 1, m + 1, d, lead, h, l => by
    obtain ⟨k, e, _, r⟩ := h.inv
    cases e
    show (if joining d then _ else _) = (if joining d then _ else _)
    rw [flatMap_same fun p hp => leavesF_le (lead := lead ++ p.1) (r p hp) (Nat.le_of_succ_le_succ l)]
def leavesD (d : DV) (lead : List Nat) : List (List Nat × DV) := leavesF 15 d lead
theorem leavesD_eq {n : Nat} {d : DV} {lead : List Nat} (h : Part n d) (hn : n ≤ 14) : leavesD d lead = if joining d then (downs d).flatMap fun p => leavesD p.2 (lead ++ p.1) else [(lead, d)] := by
  obtain ⟨k, rfl, _, r⟩ := h.inv
  unfold leavesD
  show (if joining d then _ else _) = (if joining d then _ else _)
  rw [flatMap_same fun p hp => (leavesF_le (m := 14) (lead := lead ++ p.1) (r p hp) (by omega)).trans (leavesF_le (m := 15) (lead := lead ++ p.1) (r p hp) (by omega)).symm]
theorem leaves_all : ∀ {n : Nat} {d : DV} {lead : List Nat}, Part n d → n ≤ 14 → ∀ e ∈ leavesD d lead, e ∈ allD d lead ∧ joining e.2 = false
  | 0, _, _, h, _ => by obtain ⟨k, e, _⟩ := h.inv; cases e
  | n + 1, d, lead, h, hn => by
    intro e he
    rw [leavesD_eq h hn] at he
    rw [allD_eq h hn]
    obtain ⟨k, ek, b, r⟩ := h.inv
    cases ek
    by_cases hj : joining d = true
    · rw [if_pos hj, List.mem_flatMap] at he
      obtain ⟨p, hp, he⟩ := he
      have := leaves_all (r p hp) (by omega) e he
      exact ⟨List.mem_cons_of_mem _ (List.mem_flatMap.mpr ⟨p, hp, this.1⟩), this.2⟩
    · rw [if_neg hj, List.mem_singleton] at he
      subst he
      exact ⟨List.mem_cons_self, by simpa using hj⟩
theorem leaves_len : ∀ {n : Nat} {d : DV} {lead : List Nat}, Part n d → n ≤ 14 → (leavesD d lead).length ≤ 2 ^ n
  | 0, _, _, h, _ => by obtain ⟨k, e, _⟩ := h.inv; cases e
  | n + 1, d, lead, h, hn => by
    rw [leavesD_eq h hn]
    obtain ⟨k, ek, b, r⟩ := h.inv
    cases ek
    have p1 : 1 ≤ 2 ^ n := Nat.one_le_pow _ _ (by decide)
    rw [Nat.pow_succ]
    by_cases hj : joining d = true
    · rw [if_pos hj]
      have := below_flat b (f := fun p => leavesD p.2 (lead ++ p.1)) (n := 2 ^ n) (fun p hp => leaves_len (lead := lead ++ p.1) (r p hp) (by omega))
      omega
    · rw [if_neg hj, List.length_singleton]
      omega
end Qz

set_option Elab.async false
set_option linter.all false
set_option maxRecDepth 100000
set_option maxHeartbeats 1000000
/-! Qz3: readings that several laws share (questions, drawn questions of the first sort). -/
namespace Qz
open PySem L2 Dz

def w_part_at : WS :=
  (wSeq (wAsg (wVar 0) (wgName 2))
    (wSeq (wFor (sTup (wVar 1)) (wgName 3) (wAsg (wBin wIx (wVar 2) (wVar 3)) (wgName 2)))
    (wRet (wVar 2))))

def w_straight_parts (f_part_at : WF) : WS :=
  (wRet (wLc (sTup (wIxK [("column", (.tup [])), ("value", (.tup [])), ("plus", (.tup [(.tup [(.int 1)])])), ("less", (.tup [(.tup [(.int 1)]), (.tup [(.int 2)])])), ("most", (.tup [(.tup [(.int 1)]), (.tup [(.int 2)])])), ("same", (.tup [(.tup [(.int 1)]), (.tup [(.int 2)])])), ("is", (.tup [(.tup [(.int 1)])])), ("not", (.tup [(.tup [(.int 1)])])), ("and", (.tup [(.tup [(.int 1)]), (.tup [(.int 2)])])), ("or", (.tup [(.tup [(.int 1)]), (.tup [(.int 2)])])), ("exists", (.tup [(.tup [(.int 1), (.int 1)])])), ("only", (.tup [(.tup [(.int 1), (.int 1)]), (.tup [(.int 2)])])), ("first", (.tup [(.tup [(.int 1), (.int 1)]), (.tup [(.int 2)])]))] (wBin wIx (wVar 0) (wC (.int 0))))) (wgName 1) wYes (wTup (wCons (wVar 1) (wCons (wCall 2 f_part_at (wCons (wVar 0) (wCons (wVar 1) wNil))) wNil))) [1]))

def w_all_parts (f_straight_parts : WF) : WS :=
  wPure (wSeq (wPar 1 2 (wCons (wLstM wNil) (wCons (wLstM (wCons (wTup (wCons (wTup wNil) (wCons (wVar 0) wNil))) wNil)) wNil)))
    (wSeq (wWhile (wTest (wBin wNeL (wVar 2) (wLst wNil))) (wSeq (wAsg (wUn wPop (wVar 2)) (wgTup 2 (wgCons (wgName 3) (wgCons (wgName 4) wgNil))))
    (wSeq (wDrop (wApp (wVar 1) (wTup (wCons (wVar 3) (wCons (wVar 4) wNil)))))
    (wDrop (wExt (wVar 2) (wRev (wLc (sLst (wCall 1 f_straight_parts (wCons (wVar 4) wNil))) (wgTup 2 (wgCons (wgName 5) (wgCons (wgName 6) wgNil))) wYes (wTup (wCons (wBin wAdd (wVar 3) (wVar 5)) (wCons (wVar 6) wNil))) [5, 6])))))))
    (wRet (wFrz (wVar 1)))))

def w_columns_in (f_all_parts : WF) : WS :=
  (wRet (wLc (sLst (wCall 1 f_all_parts (wCons (wVar 0) wNil))) (wgTup 2 (wgCons (wgName 1) (wgCons (wgName 2) wgNil))) (wTest (wBin wEqL (wBin wIx (wVar 2) (wC (.int 0))) (wC (.str "column")))) (wSl (wVar 2) (wPart (wC (.int 1))) wNoPart) [1, 2]))

def w_leaves_of (f_straight_parts : WF) : WS :=
  wPure (wSeq (wPar 2 3 (wCons (wLstM wNil) (wCons (wLstM (wCons (wTup (wCons (wVar 1) (wCons (wVar 0) wNil))) wNil)) wNil)))
    (wSeq (wWhile (wTest (wBin wNeL (wVar 3) (wLst wNil))) (wSeq (wAsg (wUn wPop (wVar 3)) (wgTup 2 (wgCons (wgName 4) (wgCons (wgName 5) wgNil))))
    (wIfS (wTest (wBin wIn (wBin wIx (wVar 5) (wC (.int 0))) (wC (.tup [(.str "not"), (.str "and"), (.str "or")])))) (wDrop (wExt (wVar 3) (wRev (wLc (sLst (wCall 1 f_straight_parts (wCons (wVar 5) wNil))) (wgTup 2 (wgCons (wgName 6) (wgCons (wgName 7) wgNil))) wYes (wTup (wCons (wBin wAdd (wVar 4) (wVar 6)) (wCons (wVar 7) wNil))) [6, 7])))) (wDrop (wApp (wVar 2) (wVar 4))))))
    (wRet (wFrz (wVar 2)))))

def w_main_parts (f_leaves_of : WF) : WS :=
  (wSeq (wAsg (wIf (wTest (wBin wIsN (wBin wIx (wVar 0) (wC (.int 1))) (wC .none))) (wLst wNil) (wCall 2 f_leaves_of (wCons (wBin wIx (wVar 0) (wC (.int 1))) (wCons (wTup (wCons (wC (.int 1)) wNil)) wNil)))) (wgName 1))
    (wRet (wB wTuple (wCons (wBin wAdd (wVar 1) (wLc (sRng1 (wB wLen (wCons (wBin wIx (wVar 0) (wC (.int 2))) wNil))) (wgName 2) wYes (wTup (wCons (wC (.int 2)) (wCons (wVar 2) wNil))) [2])) wNil))))

def w_named (f_columns_in : WF) (f_part_at : WF) : WS :=
  (wSeq (wAsg (wLc (sTup (wBin wIx (wVar 0) (wC (.int 0)))) (wgTup 2 (wgCons (wgName 3) (wgCons (wgName 4) wgNil))) wYes (wVar 3) [3, 4]) (wgName 2))
    (wRet (wB wTuple (wCons (wSortSc (sLst (wCall 1 f_columns_in (wCons (wCall 2 f_part_at (wCons (wVar 0) (wCons (wVar 1) wNil))) wNil))) (wgTup 2 (wgCons (wgName 3) (wgCons (wgName 5) wgNil))) (wTest (wBin wIn (wVar 3) (wVar 2))) (wVar 3) [3, 5]) wNil))))

def w_law_names (f_law_draw : WF) : WS :=
  (wSeq (wAsg (wTup (wCons (wCall 2 f_law_draw (wCons (wVar 0) (wCons (wC (.int 17)) wNil))) (wCons (wCall 2 f_law_draw (wCons (wVar 0) (wCons (wC (.int 2)) wNil))) wNil))) (wgTup 2 (wgCons (wgName 2) (wgCons (wgName 3) wgNil))))
    (wSeq (wAsg (wSplit (wC (.str "less is plus from in only where not first nothing exists or t tell limit and order")) (wC (.str " "))) (wgName 4))
    (wRet (wLc (sRng1 (wVar 1)) (wgName 5) wYes (wBin wIx (wBin wIx (wLst (wCons (wVar 4) (wCons (wC (.str "abcdefghijklmnopq")) wNil))) (wVar 3)) (wBin wMod (wBin wAdd (wVar 2) (wBin wMul (wC (.int 5)) (wVar 5))) (wC (.int 17)))) [5]))))

def w_law_schema (f_law_draw : WF) (f_law_pick : WF) : WS :=
  (wSeq (wAsg (wLstM wNil) (wgName 3))
    (wSeq (wAsg (wLst (wCons (wTup (wCons (wC (.str "number")) wNil)) (wCons (wTup (wCons (wC (.str "number")) (wCons (wC (.str "word")) wNil))) (wCons (wTup (wCons (wC (.str "nothing")) (wCons (wC (.str "number")) (wCons (wC (.str "word")) wNil)))) (wCons (wTup (wCons (wC (.str "word")) wNil)) (wCons (wTup (wCons (wC (.str "nothing")) (wCons (wC (.str "number")) wNil))) wNil)))))) (wgName 4))
    (wSeq (wFor (sRng1 (wVar 2)) (wgName 5) (wSeq (wAsg (wB wTuple (wCons (wLc (sLst (wSl (wVar 1) (wPart (wBin wAdd (wC (.int 5)) (wVar 5))) (wPart (wBin wAdd (wBin wAdd (wC (.int 6)) (wVar 5)) (wCall 2 f_law_draw (wCons (wVar 0) (wCons (wC (.int 3)) wNil))))))) (wgName 9) wYes (wTup (wCons (wVar 9) (wCons (wCall 2 f_law_pick (wCons (wVar 0) (wCons (wVar 4) wNil))) wNil))) [9]) wNil)) (wgName 6))
    (wSeq (wAsg (wIf (wTest (wBin wEqL (wCall 2 f_law_draw (wCons (wVar 0) (wCons (wC (.int 6)) wNil))) (wC (.int 0)))) (wTup (wCons (wBin wIx (wBin wIx (wVar 6) (wC (.int 0))) (wC (.int 0))) wNil)) (wTup wNil)) (wgName 7))
    (wSeq (wAsg (wB wTuple (wCons (wB wSorted (wCons (wLc (sTup (wVar 6)) (wgTup 2 (wgCons (wgName 9) (wgCons (wgName 10) wgNil))) (wTest (wBin wGt (wCall 2 f_law_draw (wCons (wVar 0) (wCons (wC (.int 3)) wNil))) (wC (.int 0)))) (wVar 9) [9, 10]) wNil)) wNil)) (wgName 8))
    (wDrop (wApp (wVar 3) (wTup (wCons (wBin wIx (wVar 1) (wVar 5)) (wCons (wVar 6) (wCons (wVar 7) (wCons (wVar 8) wNil)))))))))))
    (wRet (wB wTuple (wCons (wB wSorted (wCons (wVar 3) wNil)) wNil))))))

def w_law_any_value (f_law_pick : WF) : WS :=
  (wSeq (wAsg (wCall 2 f_law_pick (wCons (wVar 0) (wCons (wVar 1) wNil))) (wgName 2))
    (wSeq (wIfS (wTest (wBin wEqL (wVar 2) (wC (.str "nothing")))) (wRet (wC .none)) wNext)
    (wSeq (wIfS (wTest (wBin wEqL (wVar 2) (wC (.str "word")))) (wRet (wCall 2 f_law_pick (wCons (wVar 0) (wCons (wLst (wCons (wC (.str "a")) (wCons (wC (.str "b")) (wCons (wC (.str "less")) wNil)))) wNil)))) wNext)
    (wRet (wCall 2 f_law_pick (wCons (wVar 0) (wCons (wLst (wCons (wC (.int 0)) (wCons (wC (.int 1)) (wCons (wC (.int 2)) (wCons (wC (.int 2)) (wCons (wC (.int 3)) (wCons (wBin wPow (wC (.int 10)) (wC (.int 12))) (wCons (wBin wSub (wC (.int 1)) (wBin wPow (wC (.int 10)) (wC (.int 12)))) wNil)))))))) wNil)))))))

def w_law_column (f_law_pick : WF) : WS :=
  (wSeq (wAsg (wCall 2 f_law_pick (wCons (wVar 0) (wCons (wVar 2) wNil))) (wgTup 2 (wgCons (wgName 3) (wgCons (wgName 4) wgNil))))
    (wRet (wTup (wCons (wC (.str "column")) (wCons (wVar 3) (wCons (wCall 2 f_law_pick (wCons (wVar 0) (wCons (wBin wDGet (wBin wDGet (wVar 1) (wC (.str "columns"))) (wVar 4)) wNil))) wNil))))))

def w_law_some_term (f_law_draw : WF) (f_law_column : WF) (f_law_any_value : WF) (f_law_some_term : WF) (f_law_pick : WF) : WS :=
  (wSeq (wAsg (wCall 2 f_law_draw (wCons (wVar 0) (wCons (wC (.int 9)) wNil))) (wgName 4))
    (wSeq (wIfS (wTest (wBin wLtA (wVar 4) (wC (.int 5)))) (wRet (wCall 3 f_law_column (wCons (wVar 0) (wCons (wVar 1) (wCons (wVar 2) wNil))))) wNext)
    (wSeq (wIfS (wOrT (wTest (wBin wLtA (wVar 4) (wC (.int 7)))) (wTest (wBin wEqL (wVar 3) (wC (.int 0))))) (wRet (wTup (wCons (wC (.str "value")) (wCons (wCall 2 f_law_any_value (wCons (wVar 0) (wCons (wTup (wCons (wC (.str "nothing")) (wCons (wC (.str "number")) (wCons (wC (.str "number")) (wCons (wC (.str "word")) wNil))))) wNil))) wNil)))) wNext)
    (wRet (wTup (wCons (wC (.str "plus")) (wCons (wCall 4 f_law_some_term (wCons (wVar 0) (wCons (wVar 1) (wCons (wVar 2) (wCons (wBin wSub (wVar 3) (wC (.int 1))) wNil))))) (wCons (wCall 2 f_law_pick (wCons (wVar 0) (wCons (wLst (wCons (wC (.int 1)) (wCons (wUn wNeg (wC (.int 1))) (wCons (wC (.int 2)) (wCons (wBin wPow (wC (.int 10)) (wC (.int 12))) wNil))))) wNil))) wNil))))))))

def w_law_some_leaf (f_law_pick : WF) (f_law_some_term : WF) : WS :=
  (wSeq (wAsg (wCall 2 f_law_pick (wCons (wVar 0) (wCons (wLst (wCons (wC (.str "less")) (wCons (wC (.str "most")) (wCons (wC (.str "same")) (wCons (wC (.str "same")) (wCons (wC (.str "is")) wNil)))))) wNil))) (wgName 4))
    (wSeq (wAsg (wCall 4 f_law_some_term (wCons (wVar 0) (wCons (wVar 1) (wCons (wVar 2) (wCons (wVar 3) wNil))))) (wgName 5))
    (wSeq (wIfS (wTest (wBin wEqL (wVar 4) (wC (.str "is")))) (wRet (wTup (wCons (wC (.str "is")) (wCons (wVar 5) (wCons (wCall 2 f_law_pick (wCons (wVar 0) (wCons (wLst (wCons (wC (.str "nothing")) (wCons (wC (.str "number")) (wCons (wC (.str "word")) wNil)))) wNil))) wNil))))) wNext)
    (wRet (wTup (wCons (wVar 4) (wCons (wVar 5) (wCons (wCall 4 f_law_some_term (wCons (wVar 0) (wCons (wVar 1) (wCons (wVar 2) (wCons (wVar 3) wNil))))) wNil))))))))

def w_law_inner (f_law_pick : WF) (f_law_draw : WF) (f_law_some_leaf : WF) : WS :=
  (wSeq (wAsg (wB wTuple (wCons (wLc (sLst (wSl (wVar 3) wNoPart (wPart (wBin wAdd (wC (.int 1)) (wBin wDiv (wCall 2 f_law_draw (wCons (wVar 0) (wCons (wC (.int 4)) wNil))) (wC (.int 3))))))) (wgName 5) wYes (wTup (wCons (wVar 5) (wCons (wBin wIx (wCall 2 f_law_pick (wCons (wVar 0) (wCons (wBin wDGet (wVar 1) (wC (.str "tables"))) wNil))) (wC (.int 0))) wNil))) [5]) wNil)) (wgName 4))
    (wSeq (wAsg (wCall 4 f_law_some_leaf (wCons (wVar 0) (wCons (wVar 1) (wCons (wBin wAdd (wBin wAdd (wVar 4) (wVar 4)) (wVar 2)) (wCons (wC (.int 1)) wNil))))) (wgName 6))
    (wSeq (wAsg (wCall 2 f_law_pick (wCons (wVar 0) (wCons (wLst (wCons (wC (.str "and")) (wCons (wC (.str "or")) (wCons (wC (.str "")) (wCons (wC (.str "")) (wCons (wC (.str "not")) wNil)))))) wNil))) (wgName 7))
    (wSeq (wIfS (wTest (wBin wEqL (wVar 7) (wC (.str "not")))) (wRet (wTup (wCons (wVar 4) (wCons (wTup (wCons (wC (.str "not")) (wCons (wVar 6) wNil))) wNil)))) wNext)
    (wRet (wTup (wCons (wVar 4) (wCons (wIf (wTest (wBin wEqL (wVar 7) (wC (.str "")))) (wVar 6) (wTup (wCons (wVar 7) (wCons (wVar 6) (wCons (wCall 4 f_law_some_leaf (wCons (wVar 0) (wCons (wVar 1) (wCons (wBin wAdd (wVar 4) (wVar 2)) (wCons (wC (.int 1)) wNil))))) wNil))))) wNil))))))))

def w_law_condition (f_law_draw : WF) (f_law_condition : WF) (f_law_inner : WF) (f_law_pick : WF) (f_law_column : WF) (f_law_some_leaf : WF) : WS :=
  (wSeq (wAsg (wCall 2 f_law_draw (wCons (wVar 0) (wCons (wC (.int 10)) wNil))) (wgName 5))
    (wSeq (wIfS (wAndT (wTest (wBin wGt (wVar 4) (wC (.int 0)))) (wTest (wBin wLtA (wVar 5) (wC (.int 4))))) (wSeq (wAsg (wCall 5 f_law_condition (wCons (wVar 0) (wCons (wVar 1) (wCons (wVar 2) (wCons (wVar 3) (wCons (wBin wSub (wVar 4) (wC (.int 1))) wNil)))))) (wgName 6))
    (wRet (wTup (wCons (wBin wIx (wLst (wCons (wC (.str "and")) (wCons (wC (.str "or")) (wCons (wC (.str "and")) (wCons (wC (.str "or")) wNil))))) (wVar 5)) (wCons (wVar 6) (wCons (wCall 5 f_law_condition (wCons (wVar 0) (wCons (wVar 1) (wCons (wVar 2) (wCons (wVar 3) (wCons (wBin wSub (wVar 4) (wC (.int 1))) wNil)))))) wNil)))))) wNext)
    (wSeq (wIfS (wAndT (wTest (wBin wGt (wVar 4) (wC (.int 0)))) (wTest (wBin wEqL (wVar 5) (wC (.int 4))))) (wRet (wTup (wCons (wC (.str "not")) (wCons (wCall 5 f_law_condition (wCons (wVar 0) (wCons (wVar 1) (wCons (wVar 2) (wCons (wVar 3) (wCons (wBin wSub (wVar 4) (wC (.int 1))) wNil)))))) wNil)))) wNext)
    (wSeq (wIfS (wAndT (wTest (wBin wEqL (wVar 5) (wC (.int 5)))) (wTest (wBin wGt (wB wLen (wCons (wVar 3) wNil)) (wC (.int 1))))) (wSeq (wAsg (wLst (wCons (wUn wPop (wVar 3)) (wCons (wUn wPop (wVar 3)) wNil))) (wgName 7))
    (wSeq (wAsg (wCall 4 f_law_inner (wCons (wVar 0) (wCons (wVar 1) (wCons (wVar 2) (wCons (wVar 7) wNil))))) (wgName 8))
    (wSeq (wAsg (wTup (wCons (wC (.str "column")) (wCons (wBin wIx (wVar 7) (wC (.int 0))) (wCons (wBin wIx (wBin wDGet (wBin wDGet (wVar 1) (wC (.str "columns"))) (wBin wIx (wBin wIx (wBin wIx (wVar 8) (wC (.int 0))) (wC (.int 0))) (wC (.int 1)))) (wC (.int 0))) wNil)))) (wgName 9))
    (wSeq (wAsg (wLst (wCons (wTup (wCons (wC (.str "exists")) (wCons (wVar 8) wNil))) (wCons (wTup (wCons (wC (.str "same")) (wCons (wCall 3 f_law_column (wCons (wVar 0) (wCons (wVar 1) (wCons (wVar 2) wNil)))) (wCons (wTup (wCons (wC (.str "only")) (wCons (wVar 8) (wCons (wVar 9) wNil)))) wNil)))) wNil))) (wgName 10))
    (wRet (wCall 2 f_law_pick (wCons (wVar 0) (wCons (wBin wAdd (wVar 10) (wLst (wCons (wTup (wCons (wC (.str "is")) (wCons (wTup (wCons (wC (.str "first")) (wCons (wVar 8) (wCons (wVar 9) wNil)))) (wCons (wC (.str "number")) wNil)))) wNil))) wNil)))))))) wNext)
    (wRet (wCall 4 f_law_some_leaf (wCons (wVar 0) (wCons (wVar 1) (wCons (wVar 2) (wCons (wC (.int 1)) wNil))))))))))

def w_law_drawn (f_law_pick : WF) (f_law_draw : WF) (f_law_condition : WF) (f_law_some_term : WF) (f_law_column : WF) : WS :=
  (wSeq (wAsg (wB wListM (wCons (wVar 2) wNil)) (wgName 4))
    (wSeq (wAsg (wB wTuple (wCons (wLc (sRng1 (wBin wAdd (wC (.int 1)) (wCall 2 f_law_draw (wCons (wVar 0) (wCons (wVar 3) wNil))))) (wgName 6) wYes (wTup (wCons (wUn wPop (wVar 4)) (wCons (wBin wIx (wCall 2 f_law_pick (wCons (wVar 0) (wCons (wBin wDGet (wVar 1) (wC (.str "tables"))) wNil))) (wC (.int 0))) wNil))) [6]) wNil)) (wgName 5))
    (wSeq (wAsg (wIf (wTest (wBin wGt (wCall 2 f_law_draw (wCons (wVar 0) (wCons (wC (.int 8)) wNil))) (wC (.int 0)))) (wCall 5 f_law_condition (wCons (wVar 0) (wCons (wVar 1) (wCons (wVar 5) (wCons (wVar 4) (wCons (wC (.int 2)) wNil)))))) (wC .none)) (wgName 7))
    (wSeq (wAsg (wB wTuple (wCons (wLc (sRng1 (wBin wAdd (wC (.int 1)) (wCall 2 f_law_draw (wCons (wVar 0) (wCons (wC (.int 2)) wNil))))) (wgName 6) wYes (wCall 4 f_law_some_term (wCons (wVar 0) (wCons (wVar 1) (wCons (wVar 5) (wCons (wC (.int 1)) wNil))))) [6]) wNil)) (wgName 8))
    (wSeq (wAsg (wB wTuple (wCons (wLc (sRng1 (wBin wIx (wLst (wCons (wC (.int 0)) (wCons (wC (.int 0)) (wCons (wC (.int 0)) (wCons (wC (.int 1)) (wCons (wC (.int 2)) wNil)))))) (wCall 2 f_law_draw (wCons (wVar 0) (wCons (wC (.int 5)) wNil))))) (wgName 6) wYes (wCall 3 f_law_column (wCons (wVar 0) (wCons (wVar 1) (wCons (wVar 5) wNil)))) [6]) wNil)) (wgName 9))
    (wRet (wTup (wCons (wVar 5) (wCons (wVar 7) (wCons (wVar 8) (wCons (wVar 9) (wCons (wCall 2 f_law_pick (wCons (wVar 0) (wCons (wLst (wCons (wC .none) (wCons (wC .none) (wCons (wC (.int 0)) (wCons (wC (.int 1)) (wCons (wC (.int 2)) (wCons (wC (.int 5)) wNil))))))) wNil))) wNil))))))))))))

def w_law_below : WS :=
  (wSeq (wIfS (wTest (wBin wIn (wBin wIx (wVar 0) (wC (.int 0))) (wTup (wCons (wC (.str "column")) (wCons (wC (.str "value")) wNil))))) (wRet (wLst wNil)) wNext)
    (wSeq (wIfS (wTest (wBin wIn (wBin wIx (wVar 0) (wC (.int 0))) (wTup (wCons (wC (.str "plus")) (wCons (wC (.str "is")) (wCons (wC (.str "not")) wNil)))))) (wRet (wLst (wCons (wTup (wCons (wTup (wCons (wC (.int 1)) wNil)) (wCons (wBin wIx (wVar 0) (wC (.int 1))) wNil))) wNil))) wNext)
    (wSeq (wIfS (wTest (wBin wEqL (wBin wIx (wVar 0) (wC (.int 0))) (wC (.str "exists")))) (wRet (wLst (wCons (wTup (wCons (wTup (wCons (wC (.int 1)) (wCons (wC (.int 1)) wNil))) (wCons (wBin wIx (wBin wIx (wVar 0) (wC (.int 1))) (wC (.int 1))) wNil))) wNil))) wNext)
    (wSeq (wIfS (wTest (wBin wIn (wBin wIx (wVar 0) (wC (.int 0))) (wTup (wCons (wC (.str "only")) (wCons (wC (.str "first")) wNil))))) (wRet (wLst (wCons (wTup (wCons (wTup (wCons (wC (.int 1)) (wCons (wC (.int 1)) wNil))) (wCons (wBin wIx (wBin wIx (wVar 0) (wC (.int 1))) (wC (.int 1))) wNil))) (wCons (wTup (wCons (wTup (wCons (wC (.int 2)) wNil)) (wCons (wBin wIx (wVar 0) (wC (.int 2))) wNil))) wNil)))) wNext)
    (wRet (wLst (wCons (wTup (wCons (wTup (wCons (wC (.int 1)) wNil)) (wCons (wBin wIx (wVar 0) (wC (.int 1))) wNil))) (wCons (wTup (wCons (wTup (wCons (wC (.int 2)) wNil)) (wCons (wBin wIx (wVar 0) (wC (.int 2))) wNil))) wNil))))))))

def w_law_all (f_law_below : WF) (f_law_all : WF) : WS :=
  (wSeq (wAsg (wLst (wCons (wTup (wCons (wVar 1) (wCons (wVar 0) wNil))) wNil)) (wgName 2))
    (wSeq (wFor (sLst (wCall 1 f_law_below (wCons (wVar 0) wNil))) (wgTup 2 (wgCons (wgName 3) (wgCons (wgName 4) wgNil))) (wAsg (wBin wAdd (wVar 2) (wCall 2 f_law_all (wCons (wVar 4) (wCons (wBin wAdd (wVar 1) (wVar 3)) wNil)))) (wgName 2)))
    (wRet (wVar 2))))

def w_law_every (f_law_all : WF) : WS :=
  (wSeq (wAsg (wIf (wTest (wBin wIsN (wBin wIx (wVar 0) (wC (.int 1))) (wC .none))) (wLst wNil) (wCall 2 f_law_all (wCons (wBin wIx (wVar 0) (wC (.int 1))) (wCons (wTup (wCons (wC (.int 1)) wNil)) wNil)))) (wgName 1))
    (wSeq (wFor (sEnumT (wBin wIx (wVar 0) (wC (.int 2)))) (wgTup 2 (wgCons (wgName 2) (wgCons (wgName 3) wgNil))) (wAsg (wBin wAdd (wVar 1) (wCall 2 f_law_all (wCons (wVar 3) (wCons (wTup (wCons (wC (.int 2)) (wCons (wVar 2) wNil))) wNil)))) (wgName 1)))
    (wRet (wVar 1))))

def w_law_leaves (f_law_leaves : WF) : WS :=
  (wSeq (wIfS (wTest (wBin wEqL (wBin wIx (wVar 0) (wC (.int 0))) (wC (.str "not")))) (wRet (wCall 2 f_law_leaves (wCons (wBin wIx (wVar 0) (wC (.int 1))) (wCons (wBin wAdd (wVar 1) (wTup (wCons (wC (.int 1)) wNil))) wNil)))) wNext)
    (wSeq (wIfS (wTest (wBin wIn (wBin wIx (wVar 0) (wC (.int 0))) (wTup (wCons (wC (.str "and")) (wCons (wC (.str "or")) wNil))))) (wRet (wBin wAdd (wCall 2 f_law_leaves (wCons (wBin wIx (wVar 0) (wC (.int 1))) (wCons (wBin wAdd (wVar 1) (wTup (wCons (wC (.int 1)) wNil))) wNil))) (wCall 2 f_law_leaves (wCons (wBin wIx (wVar 0) (wC (.int 2))) (wCons (wBin wAdd (wVar 1) (wTup (wCons (wC (.int 2)) wNil))) wNil))))) wNext)
    (wRet (wLst (wCons (wVar 1) wNil)))))

def w_law_widened (f_law_pick : WF) (f_law_some_leaf : WF) (f_law_column : WF) (f_law_some_term : WF) : WS :=
  (wSeq (wAsg (wTup (wCons (wTup (wCons (wBin wIx (wVar 3) (wC (.int 0))) (wCons (wBin wIx (wCall 2 f_law_pick (wCons (wVar 0) (wCons (wBin wDGet (wVar 1) (wC (.str "tables"))) wNil))) (wC (.int 0))) wNil))) wNil)) (wgName 4))
    (wSeq (wAsg (wTup (wCons (wC (.str "column")) (wCons (wBin wIx (wVar 3) (wC (.int 0))) (wCons (wBin wIx (wBin wIx (wBin wDGet (wVar 1) (wC (.str "columns"))) (wBin wIx (wBin wIx (wVar 4) (wC (.int 0))) (wC (.int 1)))) (wC (.int 0))) wNil)))) (wgName 5))
    (wSeq (wAsg (wTup (wCons (wVar 4) (wCons (wCall 4 f_law_some_leaf (wCons (wVar 0) (wCons (wVar 1) (wCons (wBin wAdd (wVar 4) (wBin wIx (wVar 2) (wC (.int 0)))) (wCons (wC (.int 2)) wNil))))) wNil))) (wgName 6))
    (wSeq (wAsg (wCall 2 f_law_pick (wCons (wVar 0) (wCons (wLst (wCons (wVar 5) (wCons (wCall 3 f_law_column (wCons (wVar 0) (wCons (wVar 1) (wCons (wBin wIx (wVar 2) (wC (.int 0))) wNil)))) wNil))) wNil))) (wgName 5))
    (wSeq (wAsg (wTup (wCons (wCall 2 f_law_pick (wCons (wVar 0) (wCons (wLst (wCons (wC (.str "only")) (wCons (wC (.str "first")) wNil))) wNil))) (wCons (wVar 6) (wCons (wVar 5) wNil)))) (wgName 7))
    (wSeq (wAsg (wBin wAdd (wBin wIx (wVar 2) (wC (.int 2))) (wTup (wCons (wTup (wCons (wC (.str "plus")) (wCons (wVar 7) (wCons (wC (.int 3)) wNil)))) (wCons (wCall 4 f_law_some_term (wCons (wVar 0) (wCons (wVar 1) (wCons (wBin wIx (wVar 2) (wC (.int 0))) (wCons (wC (.int 3)) wNil))))) wNil)))) (wgName 8))
    (wRet (wBin wAdd (wBin wAdd (wSl (wVar 2) wNoPart (wPart (wC (.int 2)))) (wTup (wCons (wVar 8) wNil))) (wSl (wVar 2) (wPart (wC (.int 3))) wNoPart)))))))))

end Qz

set_option Elab.async false
set_option linter.all false
set_option maxRecDepth 100000
set_option maxHeartbeats 1000000
/-! Qz4: the program's defs about parts of questions. -/
namespace Qz
open PySem L2 Dz

def wfAt (n : Nat) : WF := fun ds μ Q => ∃ d r y, ds = [d, pathD r] ∧ atP d r = some y ∧ Q y μ
theorem p_part_at (n : Nat) (ds : List DV) (μ : Mh) (Q : DV → Mh → Prop) (hl : ds.length = 2) (h : wfAt n ds μ Q) :
    w_part_at { nx := fun _ μ' => Q .none μ', rt := Q } (ds.map some ++ List.replicate 2 none) μ := by
  obtain ⟨d, r, y, rfl, hy, q⟩ := h
  have go : ∀ (r0 : List Nat) (r : List Nat) (e : DV) (z : Option DV), atP e r = some y → forW (wgName 3) (wAsg (wBin wIx (wVar 2) (wVar 3)) (wgName 2)) { nx := wRet (wVar 2) { nx := fun _ μ' => Q .none μ', rt := Q }, rt := Q } (pathL r) [some d, some (pathD r0), some e, z] μ := by
    intro r0 r
    induction r with
    | nil =>
      intro e z h
      have : e = y := Option.some.inj h
      subst this
      exact q
    | cons i r ih =>
      intro e z h
      obtain ⟨ds, e', rfl, h1, h2⟩ := atP_cons h
      show atW (atI ds (i : Int)) _
      rw [atI_of h1]
      exact ih e' _ h2
  exact go r r d none hy
theorem app_o {ρ : Rho} {μ : Mh} {i : Nat} {p : Addr} {zs : List DV} {t : DV} {we : WE} {E : DEnds} (hv : ρ[i]? = some (some (.obj p))) (h : μ p = some (.lst zs)) (hw : ∀ P : DV → Mh → Prop, P t μ → we ρ μ P) (l : zs.length < sizeLine) (k : E.nx ρ (updM μ p (.lst (zs ++ [t])))) : wDrop (wApp (wVar i) we) E ρ μ := by
  show (match ρ[i]? with | some (some d) => isLstM d μ ∧ we ρ μ fun y μ2 => _ | _ => False)
  rw [hv]
  refine ⟨?_, hw _ ?_⟩
  · show (match μ p with | some (.lst _) => True | _ => False)
    rw [h]
    trivial
  · show (match μ p with | some (.lst ds) => _ | _ => False)
    rw [h]
    exact ⟨l, k⟩
theorem ext_o {ρ : Rho} {μ : Mh} {i : Nat} {p : Addr} {zs ys : List DV} {we : WE} {E : DEnds} (hv : ρ[i]? = some (some (.obj p))) (h : μ p = some (.lst zs)) (hw : ∀ P : DV → Mh → Prop, P (.lst ys) μ → we ρ μ P) (l : zs.length + ys.length ≤ sizeLine) (k : E.nx ρ (updM μ p (.lst (zs ++ ys)))) : wDrop (wExt (wVar i) we) E ρ μ := by
  show (match ρ[i]? with | some (some d) => isLstM d μ ∧ we ρ μ fun y μ2 => _ | _ => False)
  rw [hv]
  refine ⟨?_, hw _ ?_⟩
  · show (match μ p with | some (.lst _) => True | _ => False)
    rw [h]
    trivial
  · show (match μ p with | some (.lst ds) => _ | _ => False)
    rw [h]
    exact ⟨l, k⟩
theorem frz_o {ρ : Rho} {μ : Mh} {i : Nat} {p : Addr} {zs : List DV} {P : DV → Mh → Prop} (hv : ρ[i]? = some (some (.obj p))) (h : μ p = some (.lst zs)) (k : P (.lst zs) (delM μ p)) : wFrz (wVar i) ρ μ P := by
  show (match ρ[i]? with | some (some d) => _ | _ => False)
  rw [hv]
  show (match μ p with | some (.lst ds) => P (.lst ds) (delM μ p) | some (.dct ds) => P (.dct ds) (delM μ p) | _ => False)
  rw [h]
  exact k
theorem neL_empty {μ : Mh} {p : Addr} {zs : List DV} {P : DV → Mh → Prop} (h : μ p = some (.lst zs)) (hs : shapedD (.lst zs) = true) (k : P (.bool (!zs.isEmpty)) μ) : wNeL (.obj p) (.lst []) μ P := by
  refine neL_o h hs rfl ?_
  cases zs with
  | nil => exact k
  | cons z zs => exact k
theorem belowD_len (l : List (List Nat × DV)) : (belowD l).length = l.length := List.length_map _
theorem belowD_snoc (l : List (List Nat × DV)) (e : List Nat × DV) : belowD (l ++ [e]) = belowD l ++ [itm e] := List.map_append
/-- what stands on the pile is sound -/
structure Pil (l : List (List Nat × DV)) : Prop where
  ok : ∀ e ∈ l, ∃ n, Part n e.2 ∧ n ≤ 14 ∧ Siz 60000 40 e.2 ∧ noDct e.2 = true ∧ (∀ i ∈ e.1, i < 1000) ∧ e.1.length + 2 * n ≤ 100
theorem Pil.append {l m : List (List Nat × DV)} (h : Pil l) (h' : Pil m) : Pil (l ++ m) := ⟨fun e he => (List.mem_append.mp he).elim (h.ok e) (h'.ok e)⟩
theorem Pil.sub {l m : List (List Nat × DV)} (h : Pil l) (s : ∀ e ∈ m, e ∈ l) : Pil m := ⟨fun e he => h.ok e (s e he)⟩
theorem siz_itm {e : List Nat × DV} {N p : Nat} (h : Siz N p e.2) (hp : 1 ≤ p) (hi : ∀ i ∈ e.1, i < 1000) : Siz (e.1.length + N + 2) (p + 1) (itm e) := (Siz.tup (Sizs.cons ((siz_path e.1 hi).le (Nat.le_refl _) hp) (Sizs.cons h (Sizs.nil.le (Nat.le_refl 0) (Nat.zero_le _))))).le (by omega) (by omega)
theorem nd_itm {e : List Nat × DV} (h : noDct e.2 = true) : noDct (itm e) = true := by
  show (noDct (pathD e.1) && (noDct e.2 && true)) = true
  rw [nd_path, h]
  rfl
theorem noObjs_mem : ∀ {ds : List DV}, (∀ d ∈ ds, noObj d = true) → noObjs ds = true
  | [], _ => rfl
  | d :: ds, h => by
    show (noObj d && noObjs ds) = true
    rw [h d List.mem_cons_self, noObjs_mem fun e he => h e (List.mem_cons_of_mem _ he)]
    rfl
theorem sizs_any {p : Nat} : ∀ {ds : List DV}, (∀ d ∈ ds, ∃ N, Siz N p d) → ∃ N, Sizs N p ds
  | [], _ => ⟨0, Sizs.nil.le (Nat.le_refl _) (Nat.zero_le _)⟩
  | d :: ds, h => by
    obtain ⟨N, hN⟩ := h d List.mem_cons_self
    obtain ⟨M, hM⟩ := sizs_any fun e he => h e (List.mem_cons_of_mem _ he)
    exact ⟨_, Sizs.cons hN hM⟩
theorem shaped_all {p : Nat} {ds : List DV} (h : ∀ d ∈ ds, (∃ N, Siz N p d) ∧ noDct d = true) (hp : p ≤ 60) : shapedD (.lst ds) = true := by
  obtain ⟨N, hN⟩ := sizs_any fun d hd => (h d hd).1
  exact (Siz.lst hN).shaped (by omega) (noDcts_of fun d hd => (h d hd).2)
theorem Pil.shaped {l : List (List Nat × DV)} (h : Pil l) : shapedD (.lst (belowD l)) = true := by
  refine shaped_all (p := 41) (fun d hd => ?_) (by decide)
  unfold belowD at hd
  rw [List.mem_map] at hd
  obtain ⟨e, he, rfl⟩ := hd
  obtain ⟨n, _, _, s, nd, hi, _⟩ := h.ok e he
  exact ⟨⟨_, siz_itm s (by decide) hi⟩, nd_itm nd⟩
theorem Pil.kids {e : List Nat × DV} {n : Nat} (h : Part n e.2) (hn : n ≤ 14) (s : Siz 60000 40 e.2) (nd : noDct e.2 = true) (hi : ∀ i ∈ e.1, i < 1000) (hle : e.1.length + 2 * n ≤ 100) : Pil ((downs e.2).map fun p => (e.1 ++ p.1, p.2)) := ⟨fun x hx => by
  obtain ⟨m, rfl, b, r⟩ := h.inv
  rw [List.mem_map] at hx
  obtain ⟨p, hp, rfl⟩ := hx
  obtain ⟨l2, li, hat⟩ := b.props.2 p hp
  exact ⟨m, r p hp, by omega, siz_at _ s hat, nd_at _ nd hat, fun i hi' => (List.mem_append.mp hi').elim (hi i) (li i), by rw [List.length_append]; omega⟩⟩
theorem ixK_o {f : List (Str × DV)} {z : Str} {d : DV} {wb : WE} {ρ : Rho} {μ : Mh} {P : DV → Mh → Prop} (hw : ∀ P : DV → Mh → Prop, P (.str z) μ → wb ρ μ P) (h : lookD f z = some d) (k : P d μ) : wIxK f wb ρ μ P := by
  refine hw _ ?_
  show atW (lookD f z) _
  rw [h]
  exact k
theorem atI_zero {x : DV} {xs : List DV} : atI (x :: xs) 0 = some x := atI_of (i := 0) rfl
def wfBelow : WF := fun ds μ Q => ∃ d, ds = [d] ∧ Below d (downs d) ∧ Q (.lst (belowD (downs d))) μ
/-- the ways downs, as they are written -/
abbrev waysD (l : List (List Nat × DV)) : DV := .tup (l.map fun p => pathD p.1)
theorem p_straight_parts (ds : List DV) (μ : Mh) (Q : DV → Mh → Prop) (hl : ds.length = 1) (h : wfBelow ds μ Q) :
    w_straight_parts (wfAt 30) { nx := fun _ μ' => Q .none μ', rt := Q } (ds.map some ++ List.replicate 1 none) μ := by
  obtain ⟨d, rfl, b, q⟩ := h
  obtain ⟨w, r, rfl⟩ := b.head
  have hw : ∀ P : DV → Mh → Prop, P (.str w) μ → wBin wIx (wVar 0) (wC (.int 0)) [some (.tup (.str w :: r)), none] μ P := fun P hP => by
    show atW (atI (DV.str w :: r) 0) _
    rw [atI_zero]
    exact hP
  have main : ∀ (l : List (List Nat × DV)) (f : List (Str × DV)), Below (.tup (.str w :: r)) l → lookD f w = some (waysD l) → Q (.lst (belowD l)) μ → (wRet (wLc (sTup (wIxK f (wBin wIx (wVar 0) (wC (.int 0))))) (wgName 1) wYes (wTup (wCons (wVar 1) (wCons (wCall 2 (wfAt 30) (wCons (wVar 0) (wCons (wVar 1) wNil))) wNil))) [1])) { nx := fun _ μ' => Q .none μ', rt := Q } [some (.tup (.str w :: r)), none] μ := by
    intro l f bl hf q
    obtain ⟨l2, hp⟩ := bl.props
    refine ixK_o hw hf ?_
    have go : ∀ (l' : List (List Nat × DV)) (acc : List DV) (P : List DV → Mh → Prop), (∀ p ∈ l', p ∈ l) → acc.length + l'.length ≤ 2 → P (acc ++ belowD l') μ →
        compW (wgName 1) wYes (wTup (wCons (wVar 1) (wCons (wCall 2 (wfAt 30) (wCons (wVar 0) (wCons (wVar 1) wNil))) wNil))) [some (.tup (.str w :: r)), none] (l'.map fun p => pathD p.1) acc μ P := by
      intro l'
      induction l' with
      | nil =>
        intro acc P _ _ hP
        have : P (acc ++ []) μ := hP
        rw [List.append_nil] at this
        exact this
      | cons p l' ih =>
        intro acc P hm hl hP
        have hlen : acc.length + (l'.length + 1) ≤ 2 := hl
        refine ⟨rfl, _, p.1, p.2, rfl, (hp p (hm p List.mem_cons_self)).2.2, sl (Nat.le_of_ble_eq_true rfl), Nat.lt_of_lt_of_le (show acc.length < 1000 by omega) (sl (by decide)), ?_⟩
        refine ih (acc ++ [itm p]) P (fun x hx => hm x (List.mem_cons_of_mem _ hx)) (by rw [List.length_append, List.length_singleton]; omega) ?_
        rw [List.append_assoc]
        exact hP
    exact go l [] (fun acc μ2 => Q (.lst acc) μ2) (fun p hp => hp) (by simpa using l2) q
  generalize hb : downs (.tup (.str w :: r)) = l at b q
  cases b with
  | col => exact main [] _ .col (by kernel_rfl) q
  | val => exact main [] _ .val (by kernel_rfl) q
  | b1 h => rcases h with rfl | rfl <;> exact main _ _ (.b1 (by simp)) (by kernel_rfl) q
  | no => exact main _ _ .no (by kernel_rfl) q
  | b2 => exact main _ _ .b2 (by kernel_rfl) q
  | b3 h => rcases h with rfl | rfl <;> exact main _ _ (.b3 (by simp)) (by kernel_rfl) q
  | b4 h => rcases h with rfl | rfl | rfl | rfl | rfl <;> exact main _ _ (.b4 (by simp)) (by kernel_rfl) q
end Qz

set_option Elab.async false
set_option linter.all false
set_option maxRecDepth 100000
set_option maxHeartbeats 2000000
/-! Qz5: all parts and leaves, by a pile. -/
namespace Qz
open PySem L2 Dz

/-- what is put on the pile: the parts downs, the last one first -/
theorem kids_w {ρ : Rho} {μ : Mh} {i j k l : Nat} {e : List Nat × DV} {n : Nat} (h : Part n e.2) (he : ρ[i]? = some (some (pathD e.1))) (hd : ρ[j]? = some (some e.2)) (hl : e.1.length ≤ 1000)
    (hkl : k ≠ l) (hik : i ≠ k) (hil : i ≠ l) (hk : k < ρ.length) (hll : l < ρ.length) (P : DV → Mh → Prop) (hP : P (.lst (belowD ((downs e.2).map fun p => (e.1 ++ p.1, p.2))).reverse) μ) :
    wRev (wLc (sLst (wCall 1 wfBelow (wCons (wVar j) wNil))) (wgTup 2 (wgCons (wgName k) (wgCons (wgName l) wgNil))) wYes (wTup (wCons (wBin wAdd (wVar i) (wVar k)) (wCons (wVar l) wNil))) [k, l]) ρ μ P := by
  obtain ⟨m, rfl, b, r⟩ := h.inv
  obtain ⟨l2, hp⟩ := b.props
  show (match ρ[j]? with | some (some d) => _ | _ => False)
  rw [hd]
  refine ⟨rfl, e.2, rfl, b, ?_⟩
  let ρ' : Rho := wipeD ρ [k, l]
  have hi' : ∀ x y : DV, ((ρ'.set k (some x)).set l (some y))[i]? = some (some (pathD e.1)) := fun x y => by
    rw [List.getElem?_set_ne (fun z => hil z.symm), List.getElem?_set_ne (fun z => hik z.symm)]
    show ((ρ.set l none).set k none)[i]? = _
    rw [List.getElem?_set_ne (fun z => hik z.symm), List.getElem?_set_ne (fun z => hil z.symm)]
    exact he
  have hlen : ρ'.length = ρ.length := by
    show ((ρ.set l none).set k none).length = _
    rw [List.length_set, List.length_set]
  have hk' : ∀ x y : DV, ((ρ'.set k (some x)).set l (some y))[k]? = some (some x) := fun x y => by
    rw [List.getElem?_set_ne (fun z => hkl z.symm), List.getElem?_set_self (by rw [hlen]; exact hk)]
  have hl' : ∀ x y : DV, ((ρ'.set k (some x)).set l (some y))[l]? = some (some y) := fun x y => by
    rw [List.getElem?_set_self (by rw [List.length_set, hlen]; exact hll)]
  have go : ∀ (l' : List (List Nat × DV)) (acc : List DV) (P : List DV → Mh → Prop), (∀ p ∈ l', p ∈ downs e.2) → acc.length + l'.length ≤ 2 → P (acc ++ belowD (l'.map fun p => (e.1 ++ p.1, p.2))) μ →
      compW (wgTup 2 (wgCons (wgName k) (wgCons (wgName l) wgNil))) wYes (wTup (wCons (wBin wAdd (wVar i) (wVar k)) (wCons (wVar l) wNil))) ρ' (belowD l') acc μ P := by
    intro l'
    induction l' with
    | nil =>
      intro acc P _ _ hP
      have : P (acc ++ []) μ := hP
      rw [List.append_nil] at this
      exact this
    | cons p l' ih =>
      intro acc P hm h2 hP
      have hlen2 : acc.length + (l'.length + 1) ≤ 2 := h2
      have hl2 := (hp p (hm p List.mem_cons_self)).1
      refine ⟨rfl, rfl, ?_⟩
      show (match ((ρ'.set k (some (pathD p.1))).set l (some p.2))[i]? with | some (some d) => _ | _ => False)
      rw [hi']
      show (match ((ρ'.set k (some (pathD p.1))).set l (some p.2))[k]? with | some (some d) => _ | _ => False)
      rw [hk']
      have elen : (pathL e.1).length + (pathL p.1).length ≤ sizeLine := by
        unfold pathL
        rw [List.length_map, List.length_map]
        exact sl (by omega)
      refine ⟨elen, ?_⟩
      show (match ((ρ'.set k (some (pathD p.1))).set l (some p.2))[l]? with | some (some d) => _ | _ => False)
      rw [hl']
      refine ⟨sl (Nat.le_of_ble_eq_true rfl), Nat.lt_of_lt_of_le (show acc.length < 1000 by omega) (sl (by decide)), ?_⟩
      rw [pathL_append]
      refine ih (acc ++ [itm (e.1 ++ p.1, p.2)]) P (fun x hx => hm x (List.mem_cons_of_mem _ hx)) (by rw [List.length_append, List.length_singleton]; omega) ?_
      rw [List.append_assoc]
      exact hP
  exact go (downs e.2) [] _ (fun p hp => hp) (by simpa using l2) hP
theorem snoc_of {α : Type} (l : List α) : l = [] ∨ ∃ init x, l = init ++ [x] := by
  rcases List.eq_nil_or_concat l with h | ⟨init, x, h⟩
  · exact .inl h
  · exact .inr ⟨init, x, by simpa using h⟩
theorem pop_snoc {μ : Mh} {p : Addr} {l : List (List Nat × DV)} {e : List Nat × DV} {P : DV → Mh → Prop} (h : μ p = some (.lst (belowD (l ++ [e])))) (q : P (itm e) (updM μ p (.lst (belowD l)))) : wPop (.obj p) μ P := by
  rw [belowD_snoc] at h
  refine pop_o h (y := itm e) ?_ ?_
  · rw [List.length_append, List.length_singleton, Nat.add_sub_cancel, List.getElem?_append_right (Nat.le_refl _), Nat.sub_self]
    rfl
  · rw [List.dropLast_concat]
    exact q
theorem kids_len {e : List Nat × DV} {n : Nat} (h : Part n e.2) : ((downs e.2).map fun p => (e.1 ++ p.1, p.2)).length ≤ 2 := by
  obtain ⟨m, rfl, b, r⟩ := h.inv
  rw [List.length_map]
  exact b.props.1
theorem flat_rev_kids {β : Type} {e : List Nat × DV} (init : List (List Nat × DV)) (f : DV → List Nat → List β) :
    (init ++ ((downs e.2).map fun p => (e.1 ++ p.1, p.2)).reverse).reverse.flatMap (fun x => f x.2 x.1) = ((downs e.2).flatMap fun p => f p.2 (e.1 ++ p.1)) ++ init.reverse.flatMap fun x => f x.2 x.1 := by
  rw [List.reverse_append, List.reverse_reverse, List.flatMap_append, List.flatMap_map]
def wfAllP : WF := fun ds μ Q => ∃ d n, ds = [d] ∧ Part n d ∧ n ≤ 14 ∧ Siz 60000 40 d ∧ noDct d = true ∧ Q (.lst (belowD (allD d []))) μ
theorem p_all_parts (ds : List DV) (μ : Mh) (Q : DV → Mh → Prop) (hl : ds.length = 1) (h : wfAllP ds μ Q) :
    w_all_parts wfBelow { nx := fun _ μ' => Q .none μ', rt := Q } (ds.map some ++ List.replicate 6 none) μ := by
  obtain ⟨d, n, rfl, hp, hn, hs, hd, q⟩ := h
  have NE := @neL_empty
  have PO := @pop_snoc
  unfold w_all_parts
  generalize wNeL = g1 at NE ⊢
  generalize wPop = g2 at PO ⊢
  refine ⟨sl (Nat.zero_le _), fun pf hf => ⟨sl (Nat.zero_le _), sl (Nat.le_of_ble_eq_true rfl), sl (Nat.le_of_ble_eq_true rfl), fun pw hw => ?_⟩⟩
  have pwf : pw ≠ pf := fun e => by rw [e, updM_same] at hw; cases hw
  have hw0 : μ pw = none := by rw [updM_ne pwf] at hw; exact hw
  have hT := allD_len (lead := []) hp hn
  have h14 : 2 ^ n ≤ 2 ^ 14 := Nat.pow_le_pow_right (by decide) hn
  refine ⟨fun m ρ μ' => ∃ (acc stk : List (List Nat × DV)) (z3 z4 : Option DV), ρ = [some d, some (.obj pf), some (.obj pw), z3, z4, none, none] ∧ μ' pf = some (.lst (belowD acc)) ∧ μ' pw = some (.lst (belowD stk)) ∧ NewOf μ μ' ∧ Pil stk ∧ stk.length ≤ 2 * acc.length + 1 ∧
      acc ++ stk.reverse.flatMap (fun e => allD e.2 e.1) = allD d [] ∧ m = (stk.reverse.flatMap (fun e => allD e.2 e.1)).length, ⟨_, [], [([], d)], none, none, rfl, ?_, updM_same, (NewOf.refl.lst hf).lst hw0, ?_, Nat.le_of_ble_eq_true rfl, ?_, rfl⟩, ?_⟩
  · rw [updM_ne (fun e => pwf e.symm), updM_same]
    rfl
  · exact ⟨fun e he => by
      rw [List.mem_singleton] at he
      subst he
      exact ⟨n, hp, hn, hs, hd, (fun i hi => by cases hi), by show 0 + 2 * n ≤ 100; omega⟩⟩
  · show [] ++ (allD d [] ++ []) = _
    rw [List.append_nil, List.nil_append]
  · rintro m ρ μ1 ⟨acc, stk, z3, z4, rfl, e1, e2, nw, pl, hsl, heq, rfl⟩
    have hacc : acc.length ≤ 20000 := by
      have := congrArg List.length heq
      rw [List.length_append] at this
      omega
    refine ⟨sl (Nat.zero_le _), NE e2 pl.shaped ?_⟩
    rcases snoc_of stk with rfl | ⟨init, e, rfl⟩
    · have ea : acc = allD d [] := by simpa using heq
      subst ea
      exact frz_o (i := 1) (ρ := [some d, some (.obj pf), some (.obj pw), z3, z4, none, none]) (P := fun d' μ' => NewOf μ μ' ∧ Q d' μ) rfl e1 ⟨nw.del hf, q⟩
    · obtain ⟨k, hk, hk14, hks, hkd, hki, hkl⟩ := pl.ok e (List.mem_append_right _ List.mem_cons_self)
      have hemp : (!(belowD (init ++ [e])).isEmpty) = true := by
        rw [belowD_snoc]
        cases belowD init <;> rfl
      rw [hemp]
      refine PO e2 ⟨rfl, rfl, ?_⟩
      show wDrop (wApp (wVar 1) (wTup (wCons (wVar 3) (wCons (wVar 4) wNil)))) _ [some d, some (.obj pf), some (.obj pw), some (pathD e.1), some e.2, none, none] _
      refine app_o rfl (show updM μ1 pw (.lst (belowD init)) pf = some (.lst (belowD acc)) by rw [updM_ne (fun z => pwf z.symm)]; exact e1) (t := itm e) (fun P hP => ⟨sl (Nat.le_of_ble_eq_true rfl), hP⟩) (Nat.lt_of_lt_of_le (show (belowD acc).length < 100000 by rw [belowD_len]; omega) (sl (by decide))) ?_
      show wDrop (wExt (wVar 2) _) _ [some d, some (.obj pf), some (.obj pw), some (pathD e.1), some e.2, none, none] _
      refine ext_o (zs := belowD init) rfl (by rw [updM_ne pwf, updM_same]) (kids_w (e := e) hk rfl rfl (by omega) (by decide) (by decide) (by decide) (by show 5 < 7; decide) (by show 6 < 7; decide)) ?_ ?_
      · have := kids_len hk
        rw [belowD_len, List.length_reverse, belowD_len]
        rw [List.length_append, List.length_singleton] at hsl
        exact sl (by omega)
      · refine ⟨_, ?_, acc ++ [e], init ++ ((downs e.2).map fun p => (e.1 ++ p.1, p.2)).reverse, _, _, rfl, ?_, ?_, ?_, ?_, ?_, ?_, rfl⟩
        · rw [flat_rev_kids, List.reverse_append, List.flatMap_append, List.length_append, List.length_append]
          show _ < (allD e.2 e.1 ++ []).length + _
          rw [List.append_nil, allD_eq hk hk14, List.length_cons]
          omega
        · rw [updM_ne (fun z => pwf z.symm), updM_same, belowD_snoc]
        · rw [updM_same]
          unfold belowD
          rw [List.map_append, List.map_reverse]
        · exact ((nw.lst hw0).lst hf).lst hw0
        · exact (pl.sub fun x hx => List.mem_append_left _ hx).append ((Pil.kids hk hk14 hks hkd hki hkl).sub fun x hx => by simpa using hx)
        · have := kids_len hk
          rw [List.length_append, List.length_singleton] at hsl
          rw [List.length_append, List.length_append, List.length_reverse, List.length_singleton]
          omega
        · rw [flat_rev_kids, ← heq, List.reverse_append, List.flatMap_append, List.append_assoc]
          congr 1
          show [e] ++ _ = (allD e.2 e.1 ++ []) ++ _
          rw [List.append_nil, allD_eq hk hk14]
          rfl
def wfLeavesP : WF := fun ds μ Q => ∃ d lead n, ds = [d, pathD lead] ∧ Part n d ∧ n ≤ 14 ∧ Siz 60000 40 d ∧ noDct d = true ∧ (∀ i ∈ lead, i < 1000) ∧ lead.length + 2 * n ≤ 100 ∧ Q (.lst ((leavesD d lead).map fun e => pathD e.1)) μ
theorem in_tup {x : Str} {ds : List DV} (b : Bool) {μ : Mh} {P : DV → Mh → Prop} (h1 : ds.all flatD = true) (h2 : inF (.str x) ds = b) (h3 : P (.bool b) μ) : wIn (.str x) (.tup ds) μ P :=
  .inl ⟨rfl, h1, by rw [h2]; exact h3⟩
theorem p_leaves_of (ds : List DV) (μ : Mh) (Q : DV → Mh → Prop) (hl : ds.length = 2) (h : wfLeavesP ds μ Q) :
    w_leaves_of wfBelow { nx := fun _ μ' => Q .none μ', rt := Q } (ds.map some ++ List.replicate 6 none) μ := by
  obtain ⟨d, lead, n, rfl, hp, hn, hs, hd, hli, hll, q⟩ := h
  have NE := @neL_empty
  have PO := @pop_snoc
  have IN := @in_tup
  unfold w_leaves_of
  generalize wNeL = g1 at NE ⊢
  generalize wPop = g2 at PO ⊢
  generalize wIn = g3 at IN ⊢
  refine ⟨sl (Nat.zero_le _), fun pf hf => ⟨sl (Nat.le_of_ble_eq_true rfl), sl (Nat.le_of_ble_eq_true rfl), fun pw hw => ?_⟩⟩
  have pwf : pw ≠ pf := fun e => by rw [e, updM_same] at hw; cases hw
  have hw0 : μ pw = none := by rw [updM_ne pwf] at hw; exact hw
  have hT := leaves_len (lead := lead) hp hn
  have h14 : 2 ^ n ≤ 2 ^ 14 := Nat.pow_le_pow_right (by decide) hn
  have hT2 := allD_len (lead := lead) hp hn
  refine ⟨fun m ρ μ' => ∃ (acc stk : List (List Nat × DV)) (z4 z5 : Option DV), ρ = [some d, some (pathD lead), some (.obj pf), some (.obj pw), z4, z5, none, none] ∧ μ' pf = some (.lst (acc.map fun e => pathD e.1)) ∧ μ' pw = some (.lst (belowD stk)) ∧ NewOf μ μ' ∧ Pil stk ∧ stk.length + (stk.reverse.flatMap (fun e => allD e.2 e.1)).length ≤ 2 * 2 ^ n + 1 ∧
      acc ++ stk.reverse.flatMap (fun e => leavesD e.2 e.1) = leavesD d lead ∧ m = (stk.reverse.flatMap (fun e => allD e.2 e.1)).length, ⟨_, [], [(lead, d)], none, none, rfl, ?_, updM_same, (NewOf.refl.lst hf).lst hw0, ?_, ?_, ?_, rfl⟩, ?_⟩
  · rw [updM_ne (fun e => pwf e.symm), updM_same]
    rfl
  · exact ⟨fun e he => by
      rw [List.mem_singleton] at he
      subst he
      exact ⟨n, hp, hn, hs, hd, hli, hll⟩⟩
  · show 1 + (allD d lead ++ []).length ≤ _
    rw [List.append_nil]
    omega
  · show [] ++ (leavesD d lead ++ []) = _
    rw [List.append_nil, List.nil_append]
  · rintro m ρ μ1 ⟨acc, stk, z3, z4, rfl, e1, e2, nw, pl, hsl, heq, rfl⟩
    have hacc : acc.length ≤ 20000 := by
      have := congrArg List.length heq
      rw [List.length_append] at this
      omega
    refine ⟨sl (Nat.zero_le _), NE e2 pl.shaped ?_⟩
    rcases snoc_of stk with rfl | ⟨init, e, rfl⟩
    · have ea : acc = leavesD d lead := by simpa using heq
      subst ea
      exact frz_o (i := 2) (ρ := [some d, some (pathD lead), some (.obj pf), some (.obj pw), z3, z4, none, none]) (P := fun d' μ' => NewOf μ μ' ∧ Q d' μ) rfl e1 ⟨nw.del hf, q⟩
    · obtain ⟨k, hk, hk14, hks, hkd, hki, hkl⟩ := pl.ok e (List.mem_append_right _ List.mem_cons_self)
      have hemp : (!(belowD (init ++ [e])).isEmpty) = true := by
        rw [belowD_snoc]
        cases belowD init <;> rfl
      rw [hemp]
      refine PO e2 ⟨rfl, rfl, ?_⟩
      obtain ⟨el, ed⟩ := e
      obtain ⟨w, r, her⟩ := hk.head
      have her : ed = .tup (.str w :: r) := her
      have hfl : ((init ++ [(el, ed)]).reverse.flatMap fun e => leavesD e.2 e.1) = leavesD ed el ++ init.reverse.flatMap fun e => leavesD e.2 e.1 := by
        rw [List.reverse_append, List.flatMap_append]
        show (leavesD ed el ++ []) ++ _ = _
        rw [List.append_nil]
      have hfa : ((init ++ [(el, ed)]).reverse.flatMap fun e => allD e.2 e.1) = allD ed el ++ init.reverse.flatMap fun e => allD e.2 e.1 := by
        rw [List.reverse_append, List.flatMap_append]
        show (allD ed el ++ []) ++ _ = _
        rw [List.append_nil]
      have hal : allD ed el = (el, ed) :: (downs ed).flatMap fun p => allD p.2 (el ++ p.1) := allD_eq hk hk14
      have hle : leavesD ed el = if joining ed then (downs ed).flatMap fun p => leavesD p.2 (el ++ p.1) else [(el, ed)] := leavesD_eq hk hk14
      have hpw : updM μ1 pw (.lst (belowD init)) pf = some (.lst (acc.map fun e => pathD e.1)) := by rw [updM_ne (fun z => pwf z.symm)]; exact e1
      have hfr : (init ++ ((downs ed).map fun p => (el ++ p.1, p.2)).reverse).reverse.flatMap (fun x => allD x.2 x.1) = ((downs ed).flatMap fun p => allD p.2 (el ++ p.1)) ++ init.reverse.flatMap fun x => allD x.2 x.1 := flat_rev_kids (e := (el, ed)) init allD
      rw [hfl] at heq
      rw [hfa, List.length_append, List.length_append, List.length_singleton] at hsl
      rw [hfa]
      have hix : ∀ P : DV → Mh → Prop, ∀ μ, P (.str w) μ → wIx ed (.int 0) μ P := fun P μ hP => by
        subst her
        show atW (atI (DV.str w :: r) 0) _
        rw [atI_zero]
        exact hP
      show wIx ed (.int 0) _ _
      refine hix _ _ ?_
      refine IN _ rfl rfl ?_
      have hjo : joining ed = inF (.str w) [.str "not", .str "and", .str "or"] := by rw [her]; rfl
      rw [← hjo]
      cases hj : joining ed with
      | false =>
        rw [hj, if_neg Bool.false_ne_true] at hle
        show wDrop (wApp (wVar 2) (wVar 4)) _ [some d, some (pathD lead), some (.obj pf), some (.obj pw), some (pathD el), some ed, none, none] _
        refine app_o rfl hpw (t := pathD el) (fun P hP => hP) (Nat.lt_of_lt_of_le (show (acc.map fun e => pathD e.1).length < 100000 by rw [List.length_map]; omega) (sl (by decide))) ?_
        refine ⟨_, ?_, acc ++ [(el, ed)], init, _, _, rfl, ?_, ?_, (nw.lst hw0).lst hf, pl.sub fun x hx => List.mem_append_left _ hx, ?_, ?_, rfl⟩
        · rw [hal, List.length_append, List.length_cons]
          omega
        · rw [updM_same, List.map_append]
          rfl
        · rw [updM_ne pwf, updM_same]
        · omega
        · rw [← heq, hle, List.append_assoc]
      | true =>
        rw [hj, if_pos rfl] at hle
        show wDrop (wExt (wVar 3) _) _ [some d, some (pathD lead), some (.obj pf), some (.obj pw), some (pathD el), some ed, none, none] _
        refine ext_o (zs := belowD init) rfl updM_same (kids_w (e := (el, ed)) hk rfl rfl (by omega) (by decide) (by decide) (by decide) (by show 6 < 8; decide) (by show 7 < 8; decide)) ?_ ?_
        · have := kids_len hk
          rw [belowD_len, List.length_reverse, belowD_len]
          exact sl (by omega)
        · refine ⟨_, ?_, acc, init ++ ((downs ed).map fun p => (el ++ p.1, p.2)).reverse, _, _, rfl, ?_, ?_, ?_, ?_, ?_, ?_, rfl⟩
          · rw [hfr, hal, List.length_append, List.length_append, List.length_cons]
            omega
          · rw [updM_ne (fun z => pwf z.symm), updM_ne (fun z => pwf z.symm)]
            exact e1
          · rw [updM_same]
            unfold belowD
            rw [List.map_append, List.map_reverse]
          · exact (nw.lst hw0).lst hw0
          · exact (pl.sub fun x hx => List.mem_append_left _ hx).append ((Pil.kids (e := (el, ed)) hk hk14 hks hkd hki hkl).sub fun x hx => by simpa using hx)
          · have h2 := kids_len (e := (el, ed)) hk
            have h3 : ((downs ed).map fun p => (el ++ p.1, p.2)).length ≤ ((downs ed).flatMap fun p => allD p.2 (el ++ p.1)).length := by
              obtain ⟨m, e', b, rr⟩ := hk.inv
              rw [List.length_map]
              have hb : ∀ l : List (List Nat × DV), (∀ p ∈ l, Part m p.2) → l.length ≤ (l.flatMap fun p => allD p.2 (el ++ p.1)).length := by
                intro l
                induction l with
                | nil => exact fun _ => Nat.le_refl _
                | cons p l ih =>
                  intro hl
                  rw [List.flatMap_cons, List.length_append, List.length_cons, allD_eq (hl p List.mem_cons_self) (by omega), List.length_cons]
                  have := ih fun q hq => hl q (List.mem_cons_of_mem _ hq)
                  omega
              exact hb _ rr
            rw [hfr, List.length_append, List.length_append, List.length_reverse]
            rw [hal, List.length_cons] at hsl
            have h3' := h3
            show init.length + ((downs ed).map fun p => (el ++ p.1, p.2)).length + _ ≤ _
            simp only at h2 h3' ⊢
            omega
          · rw [flat_rev_kids (e := (el, ed)), ← heq, hle]
end Qz

set_option Elab.async false
set_option linter.all false
set_option maxRecDepth 100000
set_option maxHeartbeats 2000000
/-! Qz6: columns, main parts, names of refs; the laws' own readings of places. -/
namespace Qz
open PySem L2 Dz

theorem eq_str {x y : Str} (b : Bool) {μ : Mh} {P : DV → Mh → Prop} (h : decide (x = y) = b) (h3 : P (.bool b) μ) : wEqL (.str x) (.str y) μ P := by
  show P (.bool (decide (x = y))) μ
  rw [h]
  exact h3
/-! ### columns of a part -/
def hdCol (d : DV) : Bool := match d with | .tup (.str w :: _) => decide (w = "column") | _ => false
theorem hd_col {w : Str} {r : List DV} (h : hdCol (.tup (.str w :: r)) = true) : w = "column" := of_decide_eq_true h
def isColI (d : DV) : Bool := match d with | .tup [_, x] => hdCol x | _ => false
def tlD (d : DV) : DV := match d with | .tup (_ :: r) => .tup r | _ => .none
def tailI (d : DV) : DV := match d with | .tup [_, x] => tlD x | _ => .none
def colsD (d : DV) : List DV := ((belowD (allD d [])).filter isColI).map tailI
theorem cols_mem {n : Nat} {d x : DV} (h : Part n d) (hn : n ≤ 14) : x ∈ colsD d ↔ ∃ e ∈ allD d [], ∃ a c : Str, e.2 = .tup [.str "column", .str a, .str c] ∧ x = .tup [.str a, .str c] := by
  unfold colsD
  rw [List.mem_map]
  constructor
  · rintro ⟨y, hy, rfl⟩
    rw [List.mem_filter] at hy
    obtain ⟨hy, hc⟩ := hy
    unfold belowD at hy
    rw [List.mem_map] at hy
    obtain ⟨e, he, rfl⟩ := hy
    obtain ⟨rel, m, e1, e2, hp, _⟩ := allD_at h hn e he
    obtain ⟨k, rfl, b, _⟩ := hp.inv
    generalize downs e.2 = l at b
    generalize hz : e.2 = z at b
    have hc' : hdCol z = true := by rw [← hz]; exact hc
    cases b with
    | @col a c => exact ⟨e, he, a, c, hz, by show tlD e.2 = _; rw [hz]; rfl⟩
    | val | no | b2 => exact absurd (hd_col hc') (by decide +kernel)
    | b1 h => rcases h with rfl | rfl <;> exact absurd (hd_col hc') (by decide +kernel)
    | b3 h => rcases h with rfl | rfl <;> exact absurd (hd_col hc') (by decide +kernel)
    | b4 h => rcases h with rfl | rfl | rfl | rfl | rfl <;> exact absurd (hd_col hc') (by decide +kernel)
  · rintro ⟨e, he, a, c, h1, rfl⟩
    refine ⟨itm e, List.mem_filter.mpr ⟨List.mem_map.mpr ⟨e, he, rfl⟩, ?_⟩, ?_⟩
    · show hdCol e.2 = true
      rw [h1]
      exact decide_eq_true (p := (("column" : Str) = "column")) rfl
    · show tlD e.2 = _
      rw [h1]
      rfl
theorem cols_len {n : Nat} {d : DV} (h : Part n d) (hn : n ≤ 14) : (colsD d).length + 1 ≤ 2 ^ n := by
  unfold colsD
  rw [List.length_map]
  have h1 := List.length_filter_le isColI (belowD (allD d []))
  rw [belowD_len] at h1
  have := allD_len (lead := []) h hn
  omega
def wfCols : WF := fun ds μ Q => ∃ d n, ds = [d] ∧ Part n d ∧ n ≤ 14 ∧ Siz 60000 40 d ∧ noDct d = true ∧ Q (.lst (colsD d)) μ
theorem p_columns_in (ds : List DV) (μ : Mh) (Q : DV → Mh → Prop) (hl : ds.length = 1) (h : wfCols ds μ Q) :
    w_columns_in wfAllP { nx := fun _ μ' => Q .none μ', rt := Q } (ds.map some ++ List.replicate 2 none) μ := by
  obtain ⟨d, n, rfl, hp, hn, hs, hd, q⟩ := h
  have EQ := @eq_str
  unfold w_columns_in
  generalize wEqL = g at EQ ⊢
  refine ⟨rfl, d, n, rfl, hp, hn, hs, hd, ?_⟩
  have h14 : 2 ^ n ≤ 2 ^ 14 := Nat.pow_le_pow_right (by decide) hn
  have hlen := allD_len (lead := []) hp hn
  refine comp_pure isColI tailI (belowD (allD d [])) [] _ (fun x hx acc P hacc hP => ?_) (by rw [List.length_nil, belowD_len]; exact sl (by omega)) q
  unfold belowD at hx
  rw [List.mem_map] at hx
  obtain ⟨e, he, rfl⟩ := hx
  obtain ⟨rel, m, e1, e2, hp', _⟩ := allD_at hp hn e he
  obtain ⟨el, ed⟩ := e
  obtain ⟨w, r, hh⟩ := hp'.head
  have hh : ed = .tup (.str w :: r) := hh
  subst hh
  refine ⟨rfl, rfl, ?_⟩
  show atW (atI (DV.str w :: r) 0) _
  rw [atI_zero]
  refine EQ _ rfl ?_
  have hP : if decide (w = "column") = true then P (acc ++ [.tup r]) μ else P acc μ := hP
  cases hw : decide (w = "column") with
  | true =>
    rw [hw, if_pos rfl] at hP
    show acc.length < sizeLine ∧ P (acc ++ [.tup (cutD (.str w :: r) (some 1) none)]) μ
    rw [show cutD (DV.str w :: r) (some 1) none = r from cut_from (ds := DV.str w :: r) 1]
    exact ⟨hacc, hP⟩
  | false =>
    rw [hw, if_neg Bool.false_ne_true] at hP
    exact hP
/-! ### main parts -/
def leavesW (wh : DV) : List (List Nat × DV) := if isNone wh then [] else leavesD wh [1]
def mainP (wh : DV) (heard : List DV) : List (List Nat) := (leavesW wh).map (·.1) ++ (List.range heard.length).map fun k => [2, k]
abbrev quest (refs : List DV) (wh : DV) (heard order : List DV) (lim : DV) : DV := .tup [.tup refs, wh, .tup heard, .tup order, lim]
structure QOk (refs : List DV) (wh : DV) (heard order : List DV) (lim : DV) : Prop where
  rs : ∀ r ∈ refs, ∃ a t : Str, r = .tup [.str a, .str t]
  rlen : refs.length ≤ 20
  hw : wh = .none ∨ Part 12 wh
  leaf : ∀ e ∈ leavesW wh, Part 6 e.2
  hs : ∀ t ∈ heard, Part 6 t
  hlen : heard.length ≤ 8
  olen : order.length ≤ 8
  siz : Siz 60000 40 (quest refs wh heard order lim)
  nd : noDct (quest refs wh heard order lim) = true
section
variable {refs heard order : List DV} {wh lim : DV}
theorem QOk.whSiz (h : QOk refs wh heard order lim) : Siz 60000 40 wh := siz_at [1] h.siz rfl
theorem QOk.whNd (h : QOk refs wh heard order lim) : noDct wh = true := nd_at [1] h.nd rfl
theorem leavesW_len (h : QOk refs wh heard order lim) : (leavesW wh).length ≤ 4096 := by
  unfold leavesW
  rcases h.hw with rfl | hp
  · exact Nat.zero_le _
  · split
    · exact Nat.zero_le _
    · exact leaves_len hp (by decide)
end
theorem leaves_paths (l : List (List Nat × DV)) : l.map (fun e => pathD e.1) = (l.map (·.1)).map pathD := by rw [List.map_map]; rfl
theorem rng_two (n : Nat) : (rngD 0 n).map (fun d => DV.tup [.int 2, d]) = ((List.range n).map fun k => [2, k]).map pathD := by
  unfold rngD
  rw [List.map_map, List.map_map]
  refine List.map_congr_left fun k _ => ?_
  show DV.tup [.int 2, .int (0 + (k : Int))] = .tup [.int ((2 : Nat) : Int), .int (k : Int)]
  rw [Int.zero_add]
  rfl
/-- [(2, k) for k in range(n)] -/
theorem told_comp {ρ : Rho} {μ : Mh} {i n : Nat} (hi : i < ρ.length) (hn : n ≤ 1000) (P : List DV → Mh → Prop) (hP : P (((List.range n).map fun k => [2, k]).map pathD) μ) : compW (wgName i) wYes (wTup (wCons (wC (.int 2)) (wCons (wVar i) wNil))) ρ (rngD 0 n) [] μ P := by
  rw [← rng_two] at hP
  refine comp_pure (fun _ => true) (fun d => DV.tup [.int 2, d]) (rngD 0 n) [] _ (fun x hx acc P hacc hP => ?_) (by rw [List.length_nil, rngD_len]; exact sl (by omega)) (by rw [List.filter_eq_self.mpr fun _ _ => rfl, List.nil_append]; exact hP)
  show (match (ρ.set i (some x))[i]? with | some (some d) => _ | _ => False)
  rw [List.getElem?_set_self hi]
  exact ⟨sl (Nat.le_of_ble_eq_true rfl), hacc, hP⟩
def wfMain : WF := fun ds μ Q => ∃ refs wh heard order lim, ds = [quest refs wh heard order lim] ∧ QOk refs wh heard order lim ∧ Q (.tup ((mainP wh heard).map pathD)) μ
theorem p_main_parts (ds : List DV) (μ : Mh) (Q : DV → Mh → Prop) (hl : ds.length = 1) (h : wfMain ds μ Q) :
    w_main_parts wfLeavesP { nx := fun _ μ' => Q .none μ', rt := Q } (ds.map some ++ List.replicate 2 none) μ := by
  obtain ⟨refs, wh, heard, order, lim, rfl, hq, q⟩ := h
  have hlen := hq.hlen
  have hll := leavesW_len hq
  have rest : ∀ leaves : List DV, leaves = (leavesW wh).map (fun e => pathD e.1) → (wRet (wB wTuple (wCons (wBin wAdd (wVar 1) (wLc (sRng1 (wB wLen (wCons (wBin wIx (wVar 0) (wC (.int 2))) wNil))) (wgName 2) wYes (wTup (wCons (wC (.int 2)) (wCons (wVar 2) wNil))) [2])) wNil))) { nx := fun _ μ' => Q .none μ', rt := Q } [some (quest refs wh heard order lim), some (.lst leaves), none] μ := by
    rintro leaves rfl
    refine ⟨by omega, by omega, ?_⟩
    refine told_comp (by show 2 < 3; decide) (by simpa using (by omega : heard.length ≤ 1000)) _ ⟨?_, ?_⟩
    · rw [List.length_map, List.length_map, List.length_map, List.length_range]
      exact sl (by omega)
    · rw [leaves_paths, ← List.map_append]
      exact q
  rcases hq.hw with rfl | hp
  · exact ⟨sl (Nat.zero_le _), rest [] rfl⟩
  · obtain ⟨w, r, rfl⟩ := hp.head
    exact ⟨sl (Nat.le_of_ble_eq_true rfl), rfl, _, [1], 12, rfl, hp, by decide, hq.whSiz, hq.whNd, (by decide), by decide, rest _ rfl⟩
/-! ### names of refs -/
def aliasOf (d : DV) : Str := match d with | .tup [.str a, _] => a | _ => ⟨#[]⟩
theorem in_lst {x : Str} {ds : List DV} (b : Bool) {μ : Mh} {P : DV → Mh → Prop} (h1 : ds.all flatD = true) (h2 : inF (.str x) ds = b) (h3 : P (.bool b) μ) : wIn (.str x) (.lst ds) μ P :=
  .inl ⟨rfl, h1, by rw [h2]; exact h3⟩
theorem inF_strs (x : Str) (l : List Str) : inF (.str x) (l.map .str) = true ↔ x ∈ l := by
  unfold inF
  rw [List.any_eq_true]
  constructor
  · rintro ⟨y, hy, he⟩
    rw [List.mem_map] at hy
    obtain ⟨z, hz, rfl⟩ := hy
    have : z = x := eq_of_beq (show (z == x) = true from he)
    rw [← this]
    exact hz
  · intro h
    exact ⟨.str x, List.mem_map.mpr ⟨x, h, rfl⟩, beq_self_eq_true x⟩
theorem flat_strs (l : List Str) : (l.map DV.str).all flatD = true := by
  rw [List.all_eq_true]
  intro x hx
  rw [List.mem_map] at hx
  obtain ⟨y, _, rfl⟩ := hx
  rfl
def wfNamed : WF := fun ds μ Q => ∃ refs wh heard order lim place q, ds = [quest refs wh heard order lim, pathD place] ∧ QOk refs wh heard order lim ∧ atP (quest refs wh heard order lim) place = some q ∧ Part 6 q ∧
  ∀ ys : List Str, ys.Nodup → PyProof.Rows.sortedS ys = true → (∀ k, k ∈ ys ↔ k ∈ refs.map aliasOf ∧ ∃ x ∈ colsD q, aliasOf x = k) → Q (.tup (ys.map .str)) μ
theorem p_named (ds : List DV) (μ : Mh) (Q : DV → Mh → Prop) (hl : ds.length = 2) (h : wfNamed ds μ Q) :
    w_named wfCols (wfAt 30) { nx := fun _ μ' => Q .none μ', rt := Q } (ds.map some ++ List.replicate 4 none) μ := by
  obtain ⟨refs, wh, heard, order, lim, place, q, rfl, hq, hat, hp, k⟩ := h
  have IN := @in_lst
  unfold w_named
  generalize wIn = g at IN ⊢
  have hrl := hq.rlen
  refine comp_pure (fun _ => true) (fun d => .str (aliasOf d)) refs [] _ (fun x hx acc P hacc hP => ?_) (by rw [List.length_nil]; exact sl (by omega)) ?_
  · obtain ⟨a, t, rfl⟩ := hq.rs x hx
    exact ⟨rfl, rfl, hacc, hP⟩
  rw [List.filter_eq_self.mpr fun _ _ => rfl, List.nil_append, show refs.map (fun d => DV.str (aliasOf d)) = (refs.map aliasOf).map DV.str by rw [List.map_map]; rfl]
  refine ⟨rfl, _, place, q, rfl, hat, rfl, q, 6, rfl, hp, by decide, siz_at _ hq.siz hat, nd_at _ hq.nd hat, ?_⟩
  have hc := cols_len hp (by decide)
  refine compS_pure (fun d => inF (.str (aliasOf d)) ((refs.map aliasOf).map .str)) aliasOf (colsD q) [] _ (fun x hx acc P hacc hP => ?_) (by rw [List.length_nil]; omega) (fun ys dis => ?_)
  · obtain ⟨e, he, a, c, _, rfl⟩ := (cols_mem hp (by decide)).mp hx
    refine ⟨rfl, rfl, IN _ (flat_strs _) rfl ?_⟩
    have hP : if inF (.str a) ((refs.map aliasOf).map .str) = true then P (acc ++ [a]) μ else P acc μ := hP
    cases hb : inF (.str a) ((refs.map aliasOf).map .str) with
    | true =>
      rw [hb, if_pos rfl] at hP
      exact ⟨a, rfl, hacc, hP⟩
    | false =>
      rw [hb, if_neg Bool.false_ne_true] at hP
      exact hP
  · refine k ys dis.nd dis.up fun z => ?_
    rw [dis.mem z, List.nil_append, List.mem_map]
    constructor
    · rintro ⟨x, hx, rfl⟩
      rw [List.mem_filter, inF_strs] at hx
      exact ⟨hx.2, x, hx.1, rfl⟩
    · rintro ⟨h1, x, hx, rfl⟩
      exact ⟨x, List.mem_filter.mpr ⟨hx, (inF_strs _ _).mpr h1⟩, rfl⟩
end Qz

set_option Elab.async false
set_option linter.all false
set_option maxRecDepth 100000
set_option maxHeartbeats 2000000
/-! Qz7: the laws' own readings of parts and places. -/
namespace Qz
open PySem L2 Dz

theorem p_law_below (ds : List DV) (μ : Mh) (Q : DV → Mh → Prop) (hl : ds.length = 1) (h : wfBelow ds μ Q) :
    w_law_below { nx := fun _ μ' => Q .none μ', rt := Q } (ds.map some ++ List.replicate 0 none) μ := by
  obtain ⟨d, rfl, hb, q⟩ := h
  have IN := @in_tup
  have EQ := @eq_str
  have s2 : ∀ {n : Nat}, n ≤ 1000 → n ≤ sizeLine := fun h => sl (by omega)
  generalize hbe : downs d = l at hb q
  unfold w_law_below
  generalize wIn = g1 at IN ⊢
  generalize wEqL = g2 at EQ ⊢
  cases hb with
  | col => exact ⟨s2 (Nat.le_of_ble_eq_true rfl), IN true rfl (by decide +kernel) ⟨s2 (Nat.zero_le _), q⟩⟩
  | val => exact ⟨s2 (Nat.le_of_ble_eq_true rfl), IN true rfl (by decide +kernel) ⟨s2 (Nat.zero_le _), q⟩⟩
  | no =>
      refine ⟨s2 (Nat.le_of_ble_eq_true rfl), IN false rfl (by decide +kernel) ?_⟩
      refine ⟨s2 (Nat.le_of_ble_eq_true rfl), IN true rfl (by decide +kernel) ?_⟩
      exact ⟨s2 (Nat.le_of_ble_eq_true rfl), s2 (Nat.le_of_ble_eq_true rfl), s2 (Nat.le_of_ble_eq_true rfl), q⟩
  | b1 h =>
    rcases h with rfl | rfl
    all_goals
      refine ⟨s2 (Nat.le_of_ble_eq_true rfl), IN false rfl (by decide +kernel) ?_⟩
      refine ⟨s2 (Nat.le_of_ble_eq_true rfl), IN true rfl (by decide +kernel) ?_⟩
      exact ⟨s2 (Nat.le_of_ble_eq_true rfl), s2 (Nat.le_of_ble_eq_true rfl), s2 (Nat.le_of_ble_eq_true rfl), q⟩
  | b2 =>
    refine ⟨s2 (Nat.le_of_ble_eq_true rfl), IN false rfl (by decide +kernel) ?_⟩
    refine ⟨s2 (Nat.le_of_ble_eq_true rfl), IN false rfl (by decide +kernel) ?_⟩
    refine EQ true (by decide +kernel) ?_
    exact ⟨s2 (Nat.le_of_ble_eq_true rfl), s2 (Nat.le_of_ble_eq_true rfl), s2 (Nat.le_of_ble_eq_true rfl), q⟩
  | b3 h =>
    rcases h with rfl | rfl
    all_goals
      refine ⟨s2 (Nat.le_of_ble_eq_true rfl), IN false rfl (by decide +kernel) ?_⟩
      refine ⟨s2 (Nat.le_of_ble_eq_true rfl), IN false rfl (by decide +kernel) ?_⟩
      refine EQ false (by decide +kernel) ?_
      refine ⟨s2 (Nat.le_of_ble_eq_true rfl), IN true rfl (by decide +kernel) ?_⟩
      exact ⟨s2 (Nat.le_of_ble_eq_true rfl), s2 (Nat.le_of_ble_eq_true rfl), s2 (Nat.le_of_ble_eq_true rfl), s2 (Nat.le_of_ble_eq_true rfl), s2 (Nat.le_of_ble_eq_true rfl), q⟩
  | b4 h =>
    rcases h with rfl | rfl | rfl | rfl | rfl
    all_goals
      refine ⟨s2 (Nat.le_of_ble_eq_true rfl), IN false rfl (by decide +kernel) ?_⟩
      refine ⟨s2 (Nat.le_of_ble_eq_true rfl), IN false rfl (by decide +kernel) ?_⟩
      refine EQ false (by decide +kernel) ?_
      refine ⟨s2 (Nat.le_of_ble_eq_true rfl), IN false rfl (by decide +kernel) ?_⟩
      exact ⟨s2 (Nat.le_of_ble_eq_true rfl), s2 (Nat.le_of_ble_eq_true rfl), s2 (Nat.le_of_ble_eq_true rfl), s2 (Nat.le_of_ble_eq_true rfl), s2 (Nat.le_of_ble_eq_true rfl), q⟩
def wfAll (n : Nat) : WF := fun ds μ Q => ∃ d lead, ds = [d, pathD lead] ∧ n ≤ 12 ∧ Part n d ∧ lead.length + 2 * n ≤ 60 ∧ Q (.lst (belowD (allD d lead))) μ
theorem p_law_all (F : WF) (n : Nat) (hF : ∀ n', n = n' + 1 → ∀ ds μ Q, wfAll n' ds μ Q → F ds μ Q) (ds : List DV) (μ : Mh) (Q : DV → Mh → Prop) (hl : ds.length = 2) (h : wfAll n ds μ Q) :
    w_law_all wfBelow F { nx := fun _ μ' => Q .none μ', rt := Q } (ds.map some ++ List.replicate 3 none) μ := by
  obtain ⟨d, lead, rfl, hn, hp, hlead, q⟩ := h
  have hlen := allD_len (lead := lead) hp (by omega)
  have h12 : 2 ^ n ≤ 2 ^ 12 := Nat.pow_le_pow_right (by decide) hn
  rw [allD_eq hp (by omega)] at q hlen
  obtain ⟨n', rfl, hb, hr⟩ := hp.inv
  obtain ⟨l2, hpr⟩ := hb.props
  have go : ∀ (l' done : List (List Nat × DV)) (z3 z4 : Option DV), done ++ l' = downs d →
      forW (wgTup 2 (wgCons (wgName 3) (wgCons (wgName 4) wgNil))) (wAsg (wBin wAdd (wVar 2) (wCall 2 F (wCons (wVar 4) (wCons (wBin wAdd (wVar 1) (wVar 3)) wNil)))) (wgName 2))
        { nx := wRet (wVar 2) { nx := fun _ μ' => Q .none μ', rt := Q }, rt := Q } (belowD l') [some d, some (pathD lead), some (.lst (belowD ((lead, d) :: done.flatMap fun p => allD p.2 (lead ++ p.1)))), z3, z4] μ := by
    intro l'
    induction l' with
    | nil =>
      intro done z3 z4 hd
      rw [List.append_nil] at hd
      subst hd
      exact q
    | cons x l' ih =>
      intro done z3 z4 hd
      obtain ⟨more, sub⟩ := x
      have hx : (more, sub) ∈ downs d := by rw [← hd]; exact List.mem_append_right _ List.mem_cons_self
      obtain ⟨hlm, _, hat⟩ := hpr _ hx
      have hlm : more.length ≤ 2 := hlm
      have hlen2 : (pathL lead).length + (pathL more).length ≤ 1000 := by
        unfold pathL
        rw [List.length_map, List.length_map]
        omega
      refine ⟨rfl, rfl, sl (Nat.le_trans hlen2 (by decide)), rfl, ?_⟩
      show F [sub, .tup (pathL lead ++ pathL more)] μ _
      rw [pathL_append]
      refine hF n' rfl _ _ _ ⟨sub, lead ++ more, rfl, by omega, hr _ hx, by rw [List.length_append]; omega, ?_⟩
      have hfl : (downs d).flatMap (fun p => allD p.2 (lead ++ p.1)) = (done.flatMap fun p => allD p.2 (lead ++ p.1)) ++ (allD sub (lead ++ more) ++ l'.flatMap fun p => allD p.2 (lead ++ p.1)) := by
        rw [← hd, List.flatMap_append, List.flatMap_cons]
      rw [hfl, List.length_cons, List.length_append, List.length_append] at hlen
      refine ⟨?_, ?_⟩
      · rw [belowD_len, belowD_len, List.length_cons]
        exact sl (by omega)
      · have := ih (done ++ [(more, sub)]) (some (pathD more)) (some sub) (by rw [List.append_assoc]; exact hd)
        rw [List.flatMap_append, List.flatMap_cons, List.flatMap_nil, List.append_nil] at this
        have e : belowD ((lead, d) :: ((done.flatMap fun p => allD p.2 (lead ++ p.1)) ++ allD sub (lead ++ more))) = belowD ((lead, d) :: done.flatMap fun p => allD p.2 (lead ++ p.1)) ++ belowD (allD sub (lead ++ more)) := by
          unfold belowD
          rw [← List.map_append, List.cons_append]
        rw [e] at this
        exact this
  refine ⟨sl (Nat.le_of_ble_eq_true rfl), sl (Nat.le_of_ble_eq_true rfl), rfl, d, rfl, hb, ?_⟩
  exact go (downs d) [] none none rfl
/-- all parts of the told terms -/
def heardD : Nat → List DV → List (List Nat × DV)
  | _, [] => []
  | k, t :: ts => allD t [2, k] ++ heardD (k + 1) ts
def everyD (wh : DV) (heard : List DV) : List (List Nat × DV) := (if isNone wh then [] else allD wh [1]) ++ heardD 0 heard
theorem heardD_len : ∀ {k : Nat} {ts : List DV}, (∀ t ∈ ts, Part 6 t) → (heardD k ts).length ≤ 64 * ts.length
  | _, [], _ => Nat.zero_le _
  | k, t :: ts, h => by
    show (allD t [2, k] ++ heardD (k + 1) ts).length ≤ _
    have := allD_len (lead := [2, k]) (h t List.mem_cons_self) (by decide)
    have h2 := heardD_len (k := k + 1) fun u hu => h u (List.mem_cons_of_mem _ hu)
    rw [List.length_append, List.length_cons]
    omega
def wfEvery : WF := fun ds μ Q => ∃ refs wh heard order lim, ds = [quest refs wh heard order lim] ∧ QOk refs wh heard order lim ∧ Q (.lst (belowD (everyD wh heard))) μ
theorem p_law_every (ds : List DV) (μ : Mh) (Q : DV → Mh → Prop) (hl : ds.length = 1) (h : wfEvery ds μ Q) :
    w_law_every (wfAll 12) { nx := fun _ μ' => Q .none μ', rt := Q } (ds.map some ++ List.replicate 3 none) μ := by
  obtain ⟨refs, wh, heard, order, lim, rfl, hq, q⟩ := h
  have hhl := hq.hlen
  have loop : ∀ (ts : List DV) (k : Nat) (done : List (List Nat × DV)) (z2 z3 : Option DV), (∀ t ∈ ts, Part 6 t) → done ++ heardD k ts = everyD wh heard → done.length + 64 * ts.length ≤ 10000 →
      forW (wgTup 2 (wgCons (wgName 2) (wgCons (wgName 3) wgNil))) (wAsg (wBin wAdd (wVar 1) (wCall 2 (wfAll 12) (wCons (wVar 3) (wCons (wTup (wCons (wC (.int 2)) (wCons (wVar 2) wNil))) wNil)))) (wgName 1))
      { nx := wRet (wVar 1) { nx := fun _ μ' => Q .none μ', rt := Q }, rt := Q } (enumD k ts) [some (quest refs wh heard order lim), some (.lst (belowD done)), z2, z3] μ := by
    intro ts
    induction ts with
    | nil =>
      intro k done z2 z3 _ hd _
      rw [show done = everyD wh heard by rw [← hd]; exact (List.append_nil _).symm]
      exact q
    | cons t ts ih =>
      intro k done z2 z3 hts hd hlen
      have ht := hts t List.mem_cons_self
      have hal := allD_len (lead := [2, k]) ht (by decide)
      rw [List.length_cons] at hlen
      refine ⟨rfl, rfl, sl (Nat.le_of_ble_eq_true rfl), rfl, t, [2, k], rfl, by decide, ht.le (by decide), (by show 2 + 24 ≤ 60; decide), ?_, ?_⟩
      · rw [belowD_len, belowD_len]
        exact sl (by omega)
      · have := ih (k + 1) (done ++ allD t [2, k]) (some (.int (k : Nat))) (some t) (fun u hu => hts u (List.mem_cons_of_mem _ hu)) (by rw [List.append_assoc]; exact hd) (by rw [List.length_append]; omega)
        have e : belowD (done ++ allD t [2, k]) = belowD done ++ belowD (allD t [2, k]) := List.map_append
        rw [e] at this
        exact this
  rcases hq.hw with rfl | hp
  · exact ⟨sl (Nat.zero_le _), loop heard 0 [] none none hq.hs rfl (by rw [List.length_nil]; omega)⟩
  · obtain ⟨w, r, rfl⟩ := hp.head
    have hal := allD_len (lead := [1]) hp (by decide)
    exact ⟨sl (Nat.le_of_ble_eq_true rfl), rfl, _, [1], rfl, by decide, hp, by decide, loop heard 0 (allD (.tup (.str w :: r)) [1]) none none hq.hs rfl (by omega)⟩
def wfLv (n : Nat) : WF := fun ds μ Q => ∃ d lead, ds = [d, pathD lead] ∧ n ≤ 12 ∧ Part n d ∧ lead.length + 2 * n ≤ 60 ∧ Q (.lst ((leavesD d lead).map fun e => pathD e.1)) μ
theorem p_law_leaves (F : WF) (n : Nat) (hF : ∀ n', n = n' + 1 → ∀ ds μ Q, wfLv n' ds μ Q → F ds μ Q) (ds : List DV) (μ : Mh) (Q : DV → Mh → Prop) (hl : ds.length = 2) (h : wfLv n ds μ Q) :
    w_law_leaves F { nx := fun _ μ' => Q .none μ', rt := Q } (ds.map some ++ List.replicate 0 none) μ := by
  obtain ⟨d, lead, rfl, hn, hp, hlead, q⟩ := h
  have IN := @in_tup
  have EQ := @eq_str
  have hlv := leavesD_eq (lead := lead) hp (by omega)
  have hlen := leaves_len (lead := lead) hp (by omega)
  have h12 : 2 ^ n ≤ 2 ^ 12 := Nat.pow_le_pow_right (by decide) hn
  obtain ⟨n', rfl, b, hr⟩ := hp.inv
  have one : ∀ i : Nat, (pathL lead).length + ([DV.int (i : Int)]).length ≤ sizeLine := fun i => sl (by
    unfold pathL
    rw [List.length_map, List.length_singleton]
    omega)
  have leaf : joining d = false → Q (.lst [pathD lead]) μ := fun hj => by
    rw [hj, if_neg Bool.false_ne_true] at hlv
    rw [hlv] at q
    exact q
  have go : ∀ (x : DV) (i : Nat) (P : DV → Mh → Prop), Part n' x → P (.lst ((leavesD x (lead ++ [i])).map fun e => pathD e.1)) μ → F [x, .tup (pathL lead ++ [.int (i : Int)])] μ P := fun x i P hx hP =>
    hF n' rfl _ _ _ ⟨x, lead ++ [i], (by show [x, DV.tup (pathL lead ++ pathL [i])] = [x, DV.tup (pathL (lead ++ [i]))]; rw [pathL_append]), by omega, hx, by rw [List.length_append, List.length_singleton]; omega, hP⟩
  unfold w_law_leaves
  generalize wIn = g1 at IN ⊢
  generalize wEqL = g2 at EQ ⊢
  generalize hbe : downs d = l at b hr hlv
  have s2 : ∀ {n : Nat}, n ≤ 1000 → n ≤ sizeLine := fun h => sl (by omega)
  have flat : ∀ (l : List (List Nat × DV)) , (l.map fun e => pathD e.1) = l.map fun e => pathD e.1 := fun _ => rfl
  cases b with
  | no =>
    rw [show joining (DV.tup [.str "not", _]) = true by kernel_rfl, if_pos rfl] at hlv
    have e : ∀ x, ([([1], x)] : List (List Nat × DV)).flatMap (fun p => leavesD p.2 (lead ++ p.1)) = leavesD x (lead ++ [1]) := fun x => by
      rw [List.flatMap_cons, List.flatMap_nil, List.append_nil]
    rw [e] at hlv
    rw [hlv] at q
    exact EQ true (by decide +kernel) ⟨s2 (Nat.le_of_ble_eq_true rfl), one 1, rfl, go _ 1 _ (hr _ List.mem_cons_self) q⟩
  | col | val | b2 => exact EQ false (by decide +kernel) ⟨s2 (Nat.le_of_ble_eq_true rfl), IN false rfl (by decide +kernel) ⟨s2 (Nat.le_of_ble_eq_true rfl), leaf (by kernel_rfl)⟩⟩
  | b1 h => rcases h with rfl | rfl <;> exact EQ false (by decide +kernel) ⟨s2 (Nat.le_of_ble_eq_true rfl), IN false rfl (by decide +kernel) ⟨s2 (Nat.le_of_ble_eq_true rfl), leaf (by kernel_rfl)⟩⟩
  | b3 h => rcases h with rfl | rfl <;> exact EQ false (by decide +kernel) ⟨s2 (Nat.le_of_ble_eq_true rfl), IN false rfl (by decide +kernel) ⟨s2 (Nat.le_of_ble_eq_true rfl), leaf (by kernel_rfl)⟩⟩
  | @b4 w x y h =>
    have two : joining (.tup [.str w, x, y]) = true → (pathL lead).length + ([DV.int (1 : Int)]).length ≤ sizeLine ∧ 2 = 2 ∧ F [x, .tup (pathL lead ++ [.int 1])] μ fun a μ1 => ([DV.int (2 : Int)]).length ≤ sizeLine ∧ (pathL lead).length + ([DV.int (2 : Int)]).length ≤ sizeLine ∧ 2 = 2 ∧ F [y, .tup (pathL lead ++ [.int 2])] μ1 fun b μ2 => wAdd a b μ2 Q := fun hj => by
      rw [hj, if_pos rfl] at hlv
      have e : ([([1], x), ([2], y)] : List (List Nat × DV)).flatMap (fun p => leavesD p.2 (lead ++ p.1)) = leavesD x (lead ++ [1]) ++ leavesD y (lead ++ [2]) := by
        rw [List.flatMap_cons, List.flatMap_cons, List.flatMap_nil, List.append_nil]
      rw [e] at hlv
      rw [hlv] at q hlen
      rw [List.length_append] at hlen
      refine ⟨one 1, rfl, go _ 1 _ (hr _ List.mem_cons_self) ⟨s2 (Nat.le_of_ble_eq_true rfl), one 2, rfl, go _ 2 _ (hr _ (List.mem_cons_of_mem _ List.mem_cons_self)) ⟨?_, ?_⟩⟩⟩
      · rw [List.length_map, List.length_map]
        exact sl (by omega)
      · rw [← List.map_append]
        exact q
    rcases h with rfl | rfl | rfl | rfl | rfl
    · exact EQ false (by decide +kernel) ⟨s2 (Nat.le_of_ble_eq_true rfl), IN false rfl (by decide +kernel) ⟨s2 (Nat.le_of_ble_eq_true rfl), leaf (by kernel_rfl)⟩⟩
    · exact EQ false (by decide +kernel) ⟨s2 (Nat.le_of_ble_eq_true rfl), IN false rfl (by decide +kernel) ⟨s2 (Nat.le_of_ble_eq_true rfl), leaf (by kernel_rfl)⟩⟩
    · exact EQ false (by decide +kernel) ⟨s2 (Nat.le_of_ble_eq_true rfl), IN false rfl (by decide +kernel) ⟨s2 (Nat.le_of_ble_eq_true rfl), leaf (by kernel_rfl)⟩⟩
    · have t := two (by kernel_rfl)
      exact EQ false (by decide +kernel) ⟨s2 (Nat.le_of_ble_eq_true rfl), IN true rfl (by decide +kernel) ⟨s2 (Nat.le_of_ble_eq_true rfl), t⟩⟩
    · have t := two (by kernel_rfl)
      exact EQ false (by decide +kernel) ⟨s2 (Nat.le_of_ble_eq_true rfl), IN true rfl (by decide +kernel) ⟨s2 (Nat.le_of_ble_eq_true rfl), t⟩⟩
end Qz

set_option Elab.async false
set_option linter.all false
set_option maxRecDepth 100000
set_option maxHeartbeats 1000000
/-! Qz8: terms and conditions drawn (of the first sort). -/
namespace Qz
open PySem L2 Dz

/-- a comprehension by an invariant over what is made and what is left -/
theorem comp_inv {g : WG} {t : WT} {e : WE} {ρ : Rho} {J : List DV → List DV → Mh → Prop} : ∀ (xs acc : List DV) (μ : Mh) (P : List DV → Mh → Prop),
    (∀ (x : DV) (rest acc : List DV) (μ : Mh) (P : List DV → Mh → Prop), J acc (x :: rest) μ → acc.length < sizeLine → (∀ y μ', J (acc ++ [y]) rest μ' → P (acc ++ [y]) μ') → (∀ μ', J acc rest μ' → P acc μ') →
      g x ρ fun ρ1 => t ρ1 μ fun b μ1 => match b with
        | true => e ρ1 μ1 fun y μ2 => acc.length < sizeLine ∧ P (acc ++ [y]) μ2
        | false => P acc μ1) →
    acc.length + xs.length ≤ sizeLine → J acc xs μ → (∀ zs μ', J zs [] μ' → P zs μ') → compW g t e ρ xs acc μ P
  | [], acc, μ, P, _, _, hi, q => q acc μ hi
  | x :: xs, acc, μ, P, hx, hl, hi, q => by
    rw [List.length_cons] at hl
    refine hx x xs acc μ (fun ac μ' => compW g t e ρ xs ac μ' P) hi (by omega) (fun y μ' j => ?_) (fun μ' j => ?_)
    · exact comp_inv xs (acc ++ [y]) μ' P hx (by simp; omega) j q
    · exact comp_inv xs acc μ' P hx (by omega) j q
abbrev Dk (μ : Mh) (a c : Addr) (m : Nat) : Prop := HasDeck "total" μ a c m
abbrev drawW : WF := wfDraw "total"
abbrev pickW : WF := wfPick "total"
theorem draw_c {a c : Addr} {m : Nat} {many : Int} {μ : Mh} {Q : DV → Mh → Prop} (h0 : 0 < many) (h1 : many < 2 ^ 64) (h : Dk μ a c (m + 1)) (q : ∀ r μ', 0 ≤ r → r < many → Dk μ' a c m → OnlyDeck μ μ' a c → Q (.int r) μ') : drawW [.obj a, .int many] μ Q :=
  ⟨a, c, m, many, rfl, h0, h1, h, q⟩
theorem pick_c {a c : Addr} {m : Nat} {y : DV} {μ : Mh} {Q : DV → Mh → Prop} (l0 : 0 < (itemsD y).length) (l1 : (itemsD y).length ≤ 1000000) (h : Dk μ a c (m + 1)) (q : ∀ x μ', x ∈ itemsD y → Dk μ' a c m → OnlyDeck μ μ' a c → Q x μ') : pickW [.obj a, y] μ Q :=
  ⟨a, c, m, y, rfl, l0, sl l1, h, q⟩
def IsNm (d : DV) : Prop := ∃ x, d = .str x ∧ plainS x = true ∧ x.length ≤ 8
theorem IsNm.siz {d : DV} (h : IsNm d) : Siz 8 0 d := by
  obtain ⟨x, rfl, h1, h2⟩ := h
  exact (Siz.str h1).le h2 (Nat.le_refl _)
def IsTab (kv : List (Key × DV)) (x : Str) : Prop := ∃ cs, valD kv (.inr x) = some (.lst cs) ∧ 0 < cs.length ∧ cs.length ≤ 100 ∧ (∀ d ∈ cs, IsNm d) ∧ plainS x = true ∧ x.length ≤ 8
structure Wd (tabs : List DV) (kv : List (Key × DV)) : Prop where
  ne : 0 < tabs.length
  le : tabs.length ≤ 100
  all : ∀ t ∈ tabs, ∃ x u v w, t = .tup [.str x, u, v, w] ∧ IsTab kv x
structure Ok22 (μ : Mh) (a c q : Addr) (tabs : List DV) (kv : List (Key × DV)) (m : Nat) : Prop where
  dk : Dk μ a c m
  cq : μ q = some (.dct kv)
  qa : q ≠ a
  qc : q ≠ c
  wd : Wd tabs kv
abbrev world (tabs : List DV) (q : Addr) : DV := .dct [(.inr "tables", .tup tabs), (.inr "columns", .obj q)]
section
variable {μ μ' : Mh} {a c q p : Addr} {tabs : List DV} {kv : List (Key × DV)} {m m' : Nat} {Q P : DV → Mh → Prop}
theorem Ok22.step (h : Ok22 μ a c q tabs kv m') (d : Dk μ' a c m) (o : OnlyDeck μ μ' a c) : Ok22 μ' a c q tabs kv m := ⟨d, (o q h.qa h.qc).trans h.cq, h.qa, h.qc, h.wd⟩
theorem Ok22.le (h : Ok22 μ a c q tabs kv m') (l : m ≤ m') : Ok22 μ a c q tabs kv m := ⟨h.dk.le l, h.cq, h.qa, h.qc, h.wd⟩
theorem pick22 {y : DV} (l0 : 0 < (itemsD y).length) (l1 : (itemsD y).length ≤ 1000000) (h : Ok22 μ a c q tabs kv (m + 1)) (k : ∀ x μ', x ∈ itemsD y → Ok22 μ' a c q tabs kv m → OnlyDeck μ μ' a c → Q x μ') : pickW [.obj a, y] μ Q :=
  pick_c l0 l1 h.dk fun x μ' hx d o => k x μ' hx (h.step d o) o
theorem draw22 {many : Int} (h0 : 0 < many) (h1 : many < 2 ^ 64) (h : Ok22 μ a c q tabs kv (m + 1)) (k : ∀ r μ', 0 ≤ r → r < many → Ok22 μ' a c q tabs kv m → OnlyDeck μ μ' a c → Q (.int r) μ') : drawW [.obj a, .int many] μ Q :=
  draw_c h0 h1 h.dk fun r μ' r0 r1 d o => k r μ' r0 r1 (h.step d o) o
theorem get_tables (h : P (.tup tabs) μ) : wDGet (world tabs q) (.str "tables") μ P := h
theorem get_columns (h : P (.obj q) μ) : wDGet (world tabs q) (.str "columns") μ P := h
theorem get_cols {x : Str} {d : DV} (h : μ q = some (.dct kv)) (hv : valD kv (.inr x) = some d) (k : P d μ) : wDGet (.obj q) (.str x) μ P := dget_o h rfl hv k
end
structure RefsOk (kv : List (Key × DV)) (refs : List DV) : Prop where
  ne : 0 < refs.length
  le : refs.length ≤ 20
  all : ∀ r ∈ refs, ∃ al x, r = .tup [.str al, .str x] ∧ plainS al = true ∧ al.length ≤ 8 ∧ IsTab kv x
theorem RefsOk.append {kv : List (Key × DV)} {r s : List DV} (h : RefsOk kv r) (h' : RefsOk kv s) (l : r.length + s.length ≤ 20) : RefsOk kv (r ++ s) :=
  ⟨by rw [List.length_append]; have := h.ne; omega, by rw [List.length_append]; exact l, fun x hx => (List.mem_append.mp hx).elim (h.all x) (h'.all x)⟩
theorem ref_siz {kv : List (Key × DV)} {refs : List DV} (h : RefsOk kv refs) : Siz (refs.length * 21) 2 (.tup refs) := by
  refine (Siz.tup (Sizs.all (N := 20) (p := 1) fun r hr => ?_)).le (by omega) (by omega)
  obtain ⟨al, x, rfl, h1, h2, cs, _, _, _, _, h3, h4⟩ := h.all r hr
  exact (Siz.tup (Sizs.cons (Siz.str h1) (Sizs.cons (Siz.str h3) Sizs.nil))).le (by omega) (by omega)
theorem refs_nd {kv : List (Key × DV)} {refs : List DV} (h : RefsOk kv refs) : noDct (.tup refs) = true := noDcts_of fun r hr => by
  obtain ⟨al, x, rfl, _⟩ := h.all r hr
  rfl
/-- a def that draws at most n and gives a G -/
def GCol (d : DV) : Prop := ∃ x y, d = .tup [.str "column", .str x, .str y] ∧ plainS x = true ∧ x.length ≤ 8 ∧ plainS y = true ∧ y.length ≤ 8
theorem GCol.part {d : DV} (h : GCol d) : Part 1 d := by
  obtain ⟨x, y, rfl, _⟩ := h
  exact .mk .col fun p hp => by cases hp
theorem GCol.siz {d : DV} (h : GCol d) : Siz 30 1 d := by
  obtain ⟨x, y, rfl, h1, h2, h3, h4⟩ := h
  have e : (Str.ofString "column").length = 6 := by decide +kernel
  exact (Siz.tup (Sizs.cons (Siz.str (by decide +kernel)) (Sizs.cons (Siz.str h1) (Sizs.cons (Siz.str h3) Sizs.nil)))).le (by rw [e]; omega) (by omega)
theorem GCol.nd {d : DV} (h : GCol d) : noDct d = true := by
  obtain ⟨x, y, rfl, _⟩ := h
  rfl
def wfCol : WF := fun ds μ Q => ∃ a c q tabs kv m refs, ds = [.obj a, world tabs q, .tup refs] ∧ Ok22 μ a c q tabs kv (m + 2) ∧ RefsOk kv refs ∧ ∀ d μ', GCol d → Ok22 μ' a c q tabs kv m → OnlyDeck μ μ' a c → Q d μ'
theorem p_law_column (ds : List DV) (μ : Mh) (Q : DV → Mh → Prop) (hl : ds.length = 3) (h : wfCol ds μ Q) :
    w_law_column pickW { nx := fun _ μ' => Q .none μ', rt := Q } (ds.map some ++ List.replicate 2 none) μ := by
  obtain ⟨a, c, q, tabs, kv, m, refs, rfl, hk, hr, k⟩ := h
  have G2 := @get_columns
  have G3 := @get_cols
  unfold w_law_column
  generalize wDGet = g at G2 G3 ⊢
  refine ⟨rfl, pick22 (y := .tup refs) hr.ne (Nat.le_trans hr.le (by decide)) hk fun x μ1 hx k1 o1 => ?_⟩
  obtain ⟨al, t, rfl, pa, la, cs, hv, c0, c1, hcs, pt, lt⟩ := hr.all x hx
  refine ⟨rfl, rfl, ?_⟩
  refine G2 (tabs := tabs) (q := q) ?_
  refine G3 k1.cq hv ?_
  refine ⟨rfl, pick22 (y := .lst cs) c0 (Nat.le_trans c1 (by decide)) k1 fun y μ2 hy k2 o2 => ?_⟩
  obtain ⟨z, rfl, pz, lz⟩ := hcs y hy
  exact ⟨sl (Nat.le_of_ble_eq_true rfl), k _ _ ⟨al, z, rfl, pa, la, pz, lz⟩ k2 (o1.trans o2)⟩
def wfVal : WF := fun ds μ Q => ∃ a c m ks, ds = [.obj a, .tup ks] ∧ Dk μ a c (m + 2) ∧ 0 < ks.length ∧ ks.length ≤ 10 ∧ (∀ k ∈ ks, ∃ x, k = .str x) ∧ ∀ d μ', Siz 8 0 d → noDct d = true → Dk μ' a c m → OnlyDeck μ μ' a c → Q d μ'
theorem p_law_any_value (ds : List DV) (μ : Mh) (Q : DV → Mh → Prop) (hl : ds.length = 2) (h : wfVal ds μ Q) :
    w_law_any_value pickW { nx := fun _ μ' => Q .none μ', rt := Q } (ds.map some ++ List.replicate 1 none) μ := by
  obtain ⟨a, c, m, ks, rfl, hd, l0, l1, hks, k⟩ := h
  have EQ : ∀ (x y : Str) (μ : Mh) (P : DV → Mh → Prop), P (.bool (decide (x = y))) μ → wEqL (.str x) (.str y) μ P := fun x y μ P h => h
  have e12 : (10 : Int) ^ (12 : Int).toNat = 1000000000000 := by decide +kernel
  unfold w_law_any_value
  generalize wEqL = g at EQ ⊢
  refine ⟨rfl, pick_c (y := .tup ks) (m := m + 1) l0 (Nat.le_trans l1 (by decide)) hd fun x μ1 hx d1 o1 => ?_⟩
  obtain ⟨z, rfl⟩ := hks x hx
  refine EQ _ _ _ _ ?_
  cases h1 : decide (z = Str.ofString "nothing") with
  | true => exact k _ _ (Siz.none.le (by omega) (by omega)) rfl (d1.le (by omega)) o1
  | false =>
    refine EQ _ _ _ _ ?_
    cases h2 : decide (z = Str.ofString "word") with
    | true =>
      refine ⟨sl (Nat.le_of_ble_eq_true rfl), rfl, pick_c (Nat.succ_pos _) (Nat.le_of_ble_eq_true rfl) d1 fun x μ2 hx d2 o2 => k _ _ ?_ ?_ d2 (o1.trans o2)⟩
      all_goals have hx : x ∈ [DV.str "a", .str "b", .str "less"] := hx
      all_goals simp only [List.mem_cons, List.not_mem_nil, or_false] at hx
      · rcases hx with rfl | rfl | rfl <;> exact (Siz.str (by decide +kernel)).le (by decide +kernel) (by omega)
      · rcases hx with rfl | rfl | rfl <;> rfl
    | false =>
      refine ⟨cpow_ten (by decide) (by decide), cpow_ten (by decide) (by decide), sl (Nat.le_of_ble_eq_true rfl), rfl, pick_c (Nat.succ_pos _) (Nat.le_of_ble_eq_true rfl) d1 fun x μ2 hx d2 o2 => k _ _ ?_ ?_ d2 (o1.trans o2)⟩
      all_goals have hx : x ∈ [DV.int 0, .int 1, .int 2, .int 2, .int 3, .int ((10 : Int) ^ (12 : Int).toNat), .int (1 - (10 : Int) ^ (12 : Int).toNat)] := hx
      all_goals rw [e12] at hx
      all_goals simp only [List.mem_cons, List.not_mem_nil, or_false] at hx
      · rcases hx with rfl | rfl | rfl | rfl | rfl | rfl | rfl <;> exact (Siz.int (by decide)).le (by omega) (by omega)
      · rcases hx with rfl | rfl | rfl | rfl | rfl | rfl | rfl <;> rfl
/-- a term, n sums deep -/
structure GTerm (n : Nat) (d : DV) : Prop where
  part : Part (n + 1) d
  siz : Siz (40 + 40 * n) (n + 1) d
  nd : noDct d = true
theorem nd3 {w : Str} {a b : DV} (h : noDct a = true) (h' : noDct b = true) : noDct (.tup [.str w, a, b]) = true := by
  show (true && (noDct a && (noDct b && true))) = true
  rw [h, h']
  rfl
theorem nd2 {w : Str} {a : DV} (h : noDct a = true) : noDct (.tup [.str w, a]) = true := by
  show (true && (noDct a && true)) = true
  rw [h]
  rfl
theorem nd22 {a b : DV} (h : noDct a = true) (h' : noDct b = true) : noDct (.tup [a, b]) = true := by
  show (noDct a && (noDct b && true)) = true
  rw [h, h']
  rfl
def wfTerm (n : Nat) : WF := fun ds μ Q => ∃ a c q tabs kv m refs deep, ds = [.obj a, world tabs q, .tup refs, .int deep] ∧ 0 ≤ deep ∧ deep ≤ n ∧ Ok22 μ a c q tabs kv (m + (3 + 2 * n)) ∧ RefsOk kv refs ∧ ∀ d μ', GTerm n d → Ok22 μ' a c q tabs kv m → OnlyDeck μ μ' a c → Q d μ'
theorem p_law_some_term (F : WF) (n : Nat) (hF : ∀ n', n = n' + 1 → ∀ ds μ Q, wfTerm n' ds μ Q → F ds μ Q) (ds : List DV) (μ : Mh) (Q : DV → Mh → Prop) (hl : ds.length = 4) (h : wfTerm n ds μ Q) :
    w_law_some_term drawW wfCol wfVal F pickW { nx := fun _ μ' => Q .none μ', rt := Q } (ds.map some ++ List.replicate 1 none) μ := by
  obtain ⟨a, c, q, tabs, kv, m, refs, deep, rfl, p0, p1, hk, hr, k⟩ := h
  have EQ : ∀ (i j : Int) (μ : Mh) (P : DV → Mh → Prop), P (.bool (decide (i = j))) μ → wEqL (.int i) (.int j) μ P := fun i j μ P h => h
  have LT : ∀ (i j : Int) (μ : Mh) (P : DV → Mh → Prop), P (.bool (decide (i < j))) μ → wLtA (.int i) (.int j) μ P := fun i j μ P h => h
  have e12 : (10 : Int) ^ (12 : Int).toNat = 1000000000000 := by decide +kernel
  have ev : (Str.ofString "value").length = 5 := by decide +kernel
  have ep : (Str.ofString "plus").length = 4 := by decide +kernel
  unfold w_law_some_term
  generalize wEqL = g at EQ ⊢
  generalize wLtA = g2 at LT ⊢
  refine ⟨rfl, draw22 (m := m + (2 + 2 * n)) (by decide) (by decide) (hk.le (by omega)) fun way μ1 r0 r1 k1 o1 => ?_⟩
  have value : ∀ dd : DV, (wRet (wTup (wCons (wC (.str "value")) (wCons (wCall 2 wfVal (wCons (wVar 0) (wCons (wTup (wCons (wC (.str "nothing")) (wCons (wC (.str "number")) (wCons (wC (.str "number")) (wCons (wC (.str "word")) wNil))))) wNil))) wNil)))) { nx := fun _ μ' => Q .none μ', rt := Q } [some (.obj a), some (world tabs q), some (.tup refs), some dd, some (.int way)] μ1 := by
    intro dd
    refine ⟨sl (Nat.le_of_ble_eq_true rfl), rfl, a, c, m + 2 * n, _, rfl, k1.dk.le (by omega), Nat.succ_pos _, Nat.le_of_ble_eq_true rfl, fun y hy => ?_, fun d μ2 hs hnd d2 o2 => ⟨sl (Nat.le_of_ble_eq_true rfl), ?_⟩⟩
    · simp only [List.mem_cons, List.not_mem_nil, or_false] at hy
      rcases hy with rfl | rfl | rfl | rfl <;> exact ⟨_, rfl⟩
    · refine k _ _ ⟨(show Part 1 _ from .mk .val fun p hp => by cases hp).le (by omega), ?_, nd2 hnd⟩ (k1.step (d2.le (by omega)) o2) (o1.trans o2)
      exact (Siz.tup (Sizs.cons (Siz.str (by decide +kernel)) (Sizs.cons hs Sizs.nil))).le (by rw [ev]; omega) (by omega)
  refine LT _ _ _ _ ?_
  cases h5 : decide (way < 5) with
  | true => exact ⟨rfl, a, c, q, tabs, kv, m + 2 * n, refs, rfl, k1.le (by omega), hr, fun d μ2 hg k2 o2 => k _ _ ⟨hg.part.le (by omega), hg.siz.le (by omega) (by omega), hg.nd⟩ (k2.le (by omega)) (o1.trans o2)⟩
  | false =>
    refine LT _ _ _ _ ?_
    cases h7 : decide (way < 7) with
    | true => exact value _
    | false =>
      refine EQ _ _ _ _ ?_
      cases h0 : decide (deep = 0) with
      | true => exact value _
      | false =>
        have hd0 : ¬ deep = 0 := of_decide_eq_false h0
        obtain ⟨n', rfl⟩ : ∃ n', n = n' + 1 := ⟨n - 1, by omega⟩
        refine ⟨rfl, hF n' rfl _ _ _ ⟨a, c, q, tabs, kv, m + 1, refs, deep - 1, rfl, by omega, by omega, k1.le (by omega), hr, fun d μ2 hg k2 o2 => ?_⟩⟩
        refine ⟨cpow_ten (by decide) (by decide), sl (Nat.le_of_ble_eq_true rfl), rfl, pick22 (Nat.succ_pos _) (Nat.le_of_ble_eq_true rfl) k2 fun x μ3 hx k3 o3 => ⟨sl (Nat.le_of_ble_eq_true rfl), ?_⟩⟩
        have hx : x ∈ [DV.int 1, .int (-1), .int 2, .int ((10 : Int) ^ (12 : Int).toNat)] := hx
        rw [e12] at hx
        have sx : Siz 0 0 x ∧ noDct x = true := by
          simp only [List.mem_cons, List.not_mem_nil, or_false] at hx
          rcases hx with rfl | rfl | rfl | rfl <;> exact ⟨Siz.int (by decide), rfl⟩
        obtain ⟨sx, ndx⟩ := sx
        refine k _ _ ⟨.mk (.b1 (.inl rfl)) fun p hp => ?_, ?_, nd3 hg.nd ndx⟩ k3 (o1.trans (o2.trans o3))
        · rw [List.mem_singleton] at hp
          subst hp
          exact hg.part
        · exact (Siz.tup (Sizs.cons ((Siz.str (x := "plus") (by decide +kernel)).le (Nat.le_of_eq ep) (Nat.zero_le _)) (Sizs.cons hg.siz (Sizs.cons (sx.le (Nat.le_refl 0) (Nat.zero_le _)) (Sizs.nil.le (Nat.le_refl 0) (Nat.zero_le _)))))).le (by omega) (by omega)
/-- a comparison, a test of kind -/
structure GLeaf (n : Nat) (d : DV) : Prop where
  part : Part (n + 2) d
  siz : Siz (100 + 80 * n) (n + 2) d
  nd : noDct d = true
  leaf : joining d = false
theorem wordS {x : Str} {n : Nat} (h : plainS x = true) (h2 : x.length = n) (p : Nat) : Siz n p (.str x) := (Siz.str h).le (Nat.le_of_eq h2) (Nat.zero_le _)
theorem nilS {p : Nat} : Sizs 0 p [] := Sizs.nil.le (Nat.le_refl 0) (Nat.zero_le _)
def wfLeaf (n : Nat) : WF := fun ds μ Q => ∃ a c q tabs kv m refs deep, ds = [.obj a, world tabs q, .tup refs, .int deep] ∧ 0 ≤ deep ∧ deep ≤ n ∧ Ok22 μ a c q tabs kv (m + (8 + 4 * n)) ∧ RefsOk kv refs ∧ ∀ d μ', GLeaf n d → Ok22 μ' a c q tabs kv m → OnlyDeck μ μ' a c → Q d μ'
theorem p_law_some_leaf (n : Nat) (ds : List DV) (μ : Mh) (Q : DV → Mh → Prop) (hl : ds.length = 4) (h : wfLeaf n ds μ Q) :
    w_law_some_leaf pickW (wfTerm n) { nx := fun _ μ' => Q .none μ', rt := Q } (ds.map some ++ List.replicate 2 none) μ := by
  obtain ⟨a, c, q, tabs, kv, m, refs, deep, rfl, p0, p1, hk, hr, k⟩ := h
  have EQ : ∀ (x y : Str) (b : Bool) (μ : Mh) (P : DV → Mh → Prop), decide (x = y) = b → P (.bool b) μ → wEqL (.str x) (.str y) μ P := fun x y b μ P e h => by
    show P (.bool (decide (x = y))) μ
    rw [e]
    exact h
  unfold w_law_some_leaf
  generalize wEqL = g at EQ ⊢
  refine ⟨sl (Nat.le_of_ble_eq_true rfl), rfl, pick22 (m := m + (7 + 4 * n)) (Nat.succ_pos _) (Nat.le_of_ble_eq_true rfl) (hk.le (by omega)) fun w μ1 hw k1 o1 => ?_⟩
  have hw : w ∈ [DV.str "less", .str "most", .str "same", .str "same", .str "is"] := hw
  have hw' : (∃ x, w = .str x ∧ decide (x = Str.ofString "is") = false ∧ plainS x = true ∧ x.length = 4 ∧ (x = "less" ∨ x = "most" ∨ x = "same" ∨ x = "and" ∨ x = "or") ∧ ∀ a b, joining (.tup [.str x, a, b]) = false) ∨ w = .str "is" := by
    simp only [List.mem_cons, List.not_mem_nil, or_false] at hw
    rcases hw with rfl | rfl | rfl | rfl | rfl
    · exact .inl ⟨_, rfl, by decide +kernel, by decide +kernel, by decide +kernel, .inl rfl, fun _ _ => by kernel_rfl⟩
    · exact .inl ⟨_, rfl, by decide +kernel, by decide +kernel, by decide +kernel, .inr (.inl rfl), fun _ _ => by kernel_rfl⟩
    · exact .inl ⟨_, rfl, by decide +kernel, by decide +kernel, by decide +kernel, .inr (.inr (.inl rfl)), fun _ _ => by kernel_rfl⟩
    · exact .inl ⟨_, rfl, by decide +kernel, by decide +kernel, by decide +kernel, .inr (.inr (.inl rfl)), fun _ _ => by kernel_rfl⟩
    · exact .inr rfl
  refine ⟨rfl, a, c, q, tabs, kv, m + (4 + 2 * n), refs, deep, rfl, p0, p1, k1.le (by omega), hr, fun t μ2 ht k2 o2 => ?_⟩
  rcases hw' with ⟨x, rfl, hx, px, lx, hb, hj⟩ | rfl
  · refine EQ _ _ false _ _ hx ?_
    refine ⟨rfl, a, c, q, tabs, kv, m, refs, deep, rfl, p0, p1, k2.le (by omega), hr, fun u μ3 hu k3 o3 => ⟨sl (Nat.le_of_ble_eq_true rfl), ?_⟩⟩
    refine k _ _ ⟨.mk (.b4 hb) fun p hp => ?_, ?_, nd3 ht.nd hu.nd, hj _ _⟩ k3 (o1.trans (o2.trans o3))
    · simp only [List.mem_cons, List.not_mem_nil, or_false] at hp
      rcases hp with rfl | rfl
      · exact ht.part
      · exact hu.part
    · exact (Siz.tup (Sizs.cons (wordS px lx _) (Sizs.cons ht.siz (Sizs.cons hu.siz nilS)))).le (by omega) (by omega)
  · refine EQ _ _ true _ _ (by decide +kernel) ?_
    refine ⟨sl (Nat.le_of_ble_eq_true rfl), rfl, pick22 (m := m + (3 + 2 * n)) (Nat.succ_pos _) (Nat.le_of_ble_eq_true rfl) (k2.le (by omega)) fun y μ3 hy k3 o3 => ⟨sl (Nat.le_of_ble_eq_true rfl), ?_⟩⟩
    have hy : y ∈ [DV.str "nothing", .str "number", .str "word"] := hy
    have sy : Siz 8 0 y ∧ noDct y = true := by
      simp only [List.mem_cons, List.not_mem_nil, or_false] at hy
      rcases hy with rfl | rfl | rfl <;> exact ⟨(Siz.str (by decide +kernel)).le (by decide +kernel) (by omega), rfl⟩
    obtain ⟨sy, ndy⟩ := sy
    refine k _ _ ⟨.mk (.b1 (.inr rfl)) fun p hp => ?_, ?_, nd3 ht.nd ndy, by kernel_rfl⟩ (k3.le (by omega)) (o1.trans (o2.trans o3))
    · rw [List.mem_singleton] at hp
      subst hp
      exact ht.part
    · exact (Siz.tup (Sizs.cons (wordS (x := "is") (n := 2) (by decide +kernel) (by decide +kernel) _) (Sizs.cons ht.siz (Sizs.cons (sy.le (Nat.le_refl 8) (Nat.zero_le _)) nilS)))).le (by omega) (by omega)
/-- an inner question -/
structure GInner (kv : List (Key × DV)) (refs : List DV) (c : DV) : Prop where
  ok : RefsOk kv refs
  two : refs.length ≤ 2
  part : Part 4 c
  siz : Siz 700 4 c
  nd : noDct c = true
  rnd : noDct (.tup refs) = true
def wfInner : WF := fun ds μ Q => ∃ a c q tabs kv m refs al, ds = [.obj a, world tabs q, .tup refs, .lst al] ∧ Ok22 μ a c q tabs kv (m + 30) ∧ RefsOk kv refs ∧ refs.length ≤ 10 ∧ 0 < al.length ∧ al.length ≤ 2 ∧ (∀ d ∈ al, IsNm d) ∧ ∀ own d μ', GInner kv own d → Ok22 μ' a c q tabs kv m → OnlyDeck μ μ' a c → Q (.tup [.tup own, d]) μ'
theorem p_law_inner (ds : List DV) (μ : Mh) (Q : DV → Mh → Prop) (hl : ds.length = 4) (h : wfInner ds μ Q) :
    w_law_inner pickW drawW (wfLeaf 1) { nx := fun _ μ' => Q .none μ', rt := Q } (ds.map some ++ List.replicate 4 none) μ := by
  obtain ⟨a, c, q, tabs, kv, m, refs, al, rfl, hk, hr, h10, l0, l2, hal, k⟩ := h
  have EQ : ∀ (x y : Str) (b : Bool) (μ : Mh) (P : DV → Mh → Prop), decide (x = y) = b → P (.bool b) μ → wEqL (.str x) (.str y) μ P := fun x y b μ P e h => by
    show P (.bool (decide (x = y))) μ
    rw [e]
    exact h
  have G1 := @get_tables
  unfold w_law_inner
  generalize wEqL = g at EQ ⊢
  generalize wDGet = g1 at G1 ⊢
  refine ⟨rfl, draw22 (m := m + 29) (by decide) (by decide) hk fun r μ1 r0 r1 k1 o1 => ⟨⟨by decide, by decide +kernel⟩, ?_⟩⟩
  have hcut : ∃ n : Nat, cutD al none (some (1 + r / 3)) = al.take n ∧ 1 ≤ n := by
    obtain ⟨n, hn⟩ := Int.eq_ofNat_of_zero_le (show 0 ≤ 1 + r / 3 by omega)
    exact ⟨n, by rw [hn]; exact cut_to n, by omega⟩
  obtain ⟨n, en, n1⟩ := hcut
  show compW _ _ _ _ (cutD al none (some (1 + r / 3))) _ _ _
  rw [en]
  have ltk : (al.take n).length ≤ 2 := by rw [List.length_take]; omega
  have ltk0 : 0 < (al.take n).length := by rw [List.length_take]; omega
  refine comp_all (G := fun d => ∃ al x, d = .tup [.str al, .str x] ∧ plainS al = true ∧ al.length ≤ 8 ∧ IsTab kv x) (I := fun n μ' => Ok22 μ' a c q tabs kv (m + 27 + n) ∧ OnlyDeck μ μ' a c) (n := 0) _ [] μ1 _ (fun x hx μ2 j P hi hP => ?_) (by simp only [List.length_nil]; exact sl (by omega)) (fun y hy => by cases hy) ⟨k1.le (by omega), o1⟩ (fun own μ2 hg hlen hi => ?_)
  · obtain ⟨z, rfl, pz, lz⟩ := hal x (List.mem_of_mem_take hx)
    refine G1 (tabs := tabs) (q := q) ?_
    refine ⟨rfl, pick22 (y := .tup tabs) hi.1.wd.ne (Nat.le_trans hi.1.wd.le (by decide)) hi.1 fun t μ3 ht k3 o3 => ?_⟩
    obtain ⟨x, u, v, w, rfl, hx⟩ := k3.wd.all t ht
    exact ⟨sl (Nat.le_of_ble_eq_true rfl), hP _ _ ⟨z, x, rfl, pz, lz, hx⟩ ⟨k3, hi.2.trans o3⟩⟩
  · rw [List.length_nil, Nat.zero_add] at hlen
    have ho : RefsOk kv own := ⟨by omega, by omega, hg⟩
    obtain ⟨k2, o2⟩ := hi
    have hr2 : RefsOk kv (own ++ own ++ refs) := (ho.append ho (by omega)).append hr (by rw [List.length_append]; omega)
    have hr1 : RefsOk kv (own ++ refs) := ho.append hr (by omega)
    have hond : noDct (.tup own) = true := refs_nd ho
    refine ⟨sl (by omega), sl (by rw [List.length_append]; omega), rfl, a, c, q, tabs, kv, m + 15, _, 1, rfl, by decide, by decide, k2.le (by omega), hr2, fun lf μ3 hlf k3 o3 => ?_⟩
    refine ⟨sl (Nat.le_of_ble_eq_true rfl), rfl, pick22 (m := m + 14) (Nat.succ_pos _) (Nat.le_of_ble_eq_true rfl) k3 fun w μ4 hw k4 o4 => ?_⟩
    have hw : w ∈ [DV.str "and", .str "or", .str "", .str "", .str "not"] := hw
    have hw' : (∃ x, w = .str x ∧ decide (x = Str.ofString "not") = false ∧ decide (x = Str.ofString "") = false ∧ plainS x = true ∧ x.length ≤ 3 ∧ (x = "less" ∨ x = "most" ∨ x = "same" ∨ x = "and" ∨ x = "or")) ∨ w = .str "" ∨ w = .str "not" := by
      simp only [List.mem_cons, List.not_mem_nil, or_false] at hw
      rcases hw with rfl | rfl | rfl | rfl | rfl
      · exact .inl ⟨_, rfl, by decide +kernel, by decide +kernel, by decide +kernel, by decide +kernel, .inr (.inr (.inr (.inl rfl)))⟩
      · exact .inl ⟨_, rfl, by decide +kernel, by decide +kernel, by decide +kernel, by decide +kernel, .inr (.inr (.inr (.inr rfl)))⟩
      · exact .inr (.inl rfl)
      · exact .inr (.inl rfl)
      · exact .inr (.inr rfl)
    rcases hw' with ⟨x, rfl, e1, e2, px, lx, hb⟩ | rfl | rfl
    · refine EQ _ _ false _ _ e1 ?_
      refine EQ _ _ false _ _ e2 ?_
      refine ⟨sl (by omega), rfl, a, c, q, tabs, kv, m + 2, _, 1, rfl, by decide, by decide, k4.le (by omega), hr1, fun l2 μ5 hl2 k5 o5 => ⟨sl (Nat.le_of_ble_eq_true rfl), sl (Nat.le_of_ble_eq_true rfl), k _ _ _ ⟨ho, by omega, ?_, ?_, nd3 hlf.nd hl2.nd, hond⟩ (k5.le (by omega)) (o2.trans (o3.trans (o4.trans o5)))⟩⟩
      · refine .mk (.b4 hb) fun p hp => ?_
        simp only [List.mem_cons, List.not_mem_nil, or_false] at hp
        rcases hp with rfl | rfl
        · exact hlf.part
        · exact hl2.part
      · exact (Siz.tup (Sizs.cons ((Siz.str px).le lx (Nat.zero_le _)) (Sizs.cons hlf.siz (Sizs.cons hl2.siz nilS)))).le (by omega) (by omega)
    · refine EQ _ _ false _ _ (by decide +kernel) ?_
      refine EQ _ _ true _ _ (by decide +kernel) ?_
      exact ⟨sl (Nat.le_of_ble_eq_true rfl), k _ _ _ ⟨ho, by omega, hlf.part.le (by omega), hlf.siz.le (by omega) (by omega), hlf.nd, hond⟩ (k4.le (by omega)) (o2.trans (o3.trans o4))⟩
    · refine EQ _ _ true _ _ (by decide +kernel) ?_
      refine ⟨sl (Nat.le_of_ble_eq_true rfl), sl (Nat.le_of_ble_eq_true rfl), k _ _ _ ⟨ho, by omega, ?_, ?_, nd2 hlf.nd, hond⟩ (k4.le (by omega)) (o2.trans (o3.trans o4))⟩
      · refine .mk .no fun p hp => ?_
        rw [List.mem_singleton] at hp
        subst hp
        exact hlf.part
      · exact (Siz.tup (Sizs.cons (wordS (x := "not") (n := 3) (by decide +kernel) (by decide +kernel) 3) (Sizs.cons hlf.siz nilS))).le (by omega) (by omega)
end Qz

set_option Elab.async false
set_option linter.all false
set_option maxRecDepth 100000
set_option maxHeartbeats 1000000
/-! Qz9: conditions drawn (of the first sort). -/
namespace Qz
open PySem L2 Dz

abbrev CC (n : Nat) : Nat := 50 * 3 ^ n
abbrev SC (n : Nat) : Nat := 1000 * 3 ^ n
theorem cc_succ (n : Nat) : CC (n + 1) = 3 * CC n ∧ 50 ≤ CC n := by
  have h : 1 ≤ 3 ^ n := Nat.one_le_pow _ _ (by decide)
  unfold CC
  rw [Nat.pow_succ]
  omega
theorem sc_succ (n : Nat) : SC (n + 1) = 3 * SC n ∧ 1000 ≤ SC n := by
  have h : 1 ≤ 3 ^ n := Nat.one_le_pow _ _ (by decide)
  unfold SC
  rw [Nat.pow_succ]
  omega
theorem mem_dl {α : Type} {x : α} {l : List α} (h : x ∈ l.dropLast) : x ∈ l := (List.dropLast_sublist l).mem h
structure Pool (μ : Mh) (a c q p : Addr) : Prop where
  pa : p ≠ a
  pc : p ≠ c
  pq : p ≠ q
  ex : ∃ pl, μ p = some (.lst pl) ∧ pl.length ≤ 100 ∧ ∀ d ∈ pl, IsNm d
section
variable {μ μ' : Mh} {a c q p : Addr} {tabs : List DV} {kv : List (Key × DV)} {m m' : Nat} {P : DV → Mh → Prop}
theorem Pool.step (h : Pool μ a c q p) (o : OnlyDeck μ μ' a c) : Pool μ' a c q p := ⟨h.pa, h.pc, h.pq, let ⟨pl, e, r⟩ := h.ex; ⟨pl, (o p h.pa h.pc).trans e, r⟩⟩
theorem Ok22.upd (h : Ok22 μ a c q tabs kv m) (pa : p ≠ a) (pc : p ≠ c) (pq : p ≠ q) {o : MO} : Ok22 (updM μ p o) a c q tabs kv m :=
  ⟨h.dk.keep (updM_ne fun e => pa e.symm) (updM_ne fun e => pc e.symm), (updM_ne fun e => pq e.symm).trans h.cq, h.qa, h.qc, h.wd⟩
theorem len_o {pl : List DV} (h : μ p = some (.lst pl)) (k : P (.int (pl.length : Int)) μ) : wLen [.obj p] μ P := by
  show (match μ p with | some (.lst ds) => P (.int (ds.length : Int)) μ | _ => False)
  rw [h]
  exact k
theorem last_of {pl : List DV} (h : 0 < pl.length) : ∃ y, pl[pl.length - 1]? = some y ∧ y ∈ pl := by
  have hi : pl.length - 1 < pl.length := by omega
  exact ⟨pl[pl.length - 1], List.getElem?_eq_getElem hi, List.getElem_mem hi⟩
end
structure GCond (n : Nat) (d : DV) : Prop where
  part : Part (n + 6) d
  siz : Siz (SC n) (n + 8) d
  nd : noDct d = true
  leaf : ∀ lead, ∀ e ∈ leavesD d lead, Part 6 e.2
theorem leaf_of {m : Nat} {d : DV} (h : Part m d) (hm : m ≤ 6) (hj : joining d = false) : ∀ lead, ∀ e ∈ leavesD d lead, Part 6 e.2 := fun lead e he => by
  rw [leavesD_eq h (by omega), hj, if_neg Bool.false_ne_true, List.mem_singleton] at he
  subst he
  exact h.le hm
theorem leaf_join {m : Nat} {d : DV} (h : Part m d) (hm : m ≤ 14) (hj : joining d = true) (hk : ∀ p ∈ downs d, ∀ lead, ∀ e ∈ leavesD p.2 lead, Part 6 e.2) : ∀ lead, ∀ e ∈ leavesD d lead, Part 6 e.2 := fun lead e he => by
  rw [leavesD_eq h hm, hj, if_pos rfl, List.mem_flatMap] at he
  obtain ⟨p, hp, he⟩ := he
  exact hk p hp _ e he
def wfCond (n : Nat) : WF := fun ds μ Q => ∃ a c q tabs kv m refs p deep, ds = [.obj a, world tabs q, .tup refs, .obj p, .int deep] ∧ 0 ≤ deep ∧ deep ≤ n ∧ Ok22 μ a c q tabs kv (m + CC n) ∧ Pool μ a c q p ∧ RefsOk kv refs ∧ refs.length ≤ 10 ∧ n ≤ 4 ∧ ∀ d μ', GCond n d → Ok22 μ' a c q tabs kv m → Pool μ' a c q p → Q d μ'
theorem p_law_condition (F : WF) (n : Nat) (hF : ∀ n', n = n' + 1 → ∀ ds μ Q, wfCond n' ds μ Q → F ds μ Q) (ds : List DV) (μ : Mh) (Q : DV → Mh → Prop) (hl : ds.length = 5) (h : wfCond n ds μ Q) :
    w_law_condition drawW F wfInner pickW wfCol (wfLeaf 1) { nx := fun _ μ' => Q .none μ', rt := Q } (ds.map some ++ List.replicate 6 none) μ := by
  obtain ⟨a, c, q, tabs, kv, m, refs, p, deep, rfl, p0, p1, hk, hp, hr, h10, n4, k⟩ := h
  have EQ : ∀ (i j : Int) (μ : Mh) (P : DV → Mh → Prop), P (.bool (decide (i = j))) μ → wEqL (.int i) (.int j) μ P := fun i j μ P h => h
  have LT : ∀ (i j : Int) (μ : Mh) (P : DV → Mh → Prop), P (.bool (decide (i < j))) μ → wLtA (.int i) (.int j) μ P := fun i j μ P h => h
  have GT : ∀ (i j : Int) (μ : Mh) (P : DV → Mh → Prop), P (.bool (decide (j < i))) μ → wGt (.int i) (.int j) μ P := fun i j μ P h => h
  have G2 := @get_columns
  have G3 := @get_cols
  have LE := @len_o
  have PO := @pop_o
  have hc := cc_succ n
  have hs := sc_succ n
  unfold w_law_condition
  generalize wEqL = g1 at EQ ⊢
  generalize wLtA = g2 at LT ⊢
  generalize wGt = g3 at GT ⊢
  generalize wDGet = g4 at G2 G3 ⊢
  generalize wLen = g5 at LE ⊢
  generalize wPop = g6 at PO ⊢
  refine ⟨rfl, draw22 (m := m + CC n - 1) (by decide) (by decide) (hk.le (by omega)) fun way μ1 r0 r1 k1 o1 => ?_⟩
  have hp1 := hp.step o1
  have leaf : ∀ (z6 z7 z8 z9 z10 : Option DV), (wRet (wCall 4 (wfLeaf 1) (wCons (wVar 0) (wCons (wVar 1) (wCons (wVar 2) (wCons (wC (.int 1)) wNil)))))) { nx := fun _ μ' => Q .none μ', rt := Q } [some (.obj a), some (world tabs q), some (.tup refs), some (.obj p), some (.int deep), some (.int way), z6, z7, z8, z9, z10] μ1 := fun _ _ _ _ _ =>
    ⟨rfl, a, c, q, tabs, kv, m, refs, 1, rfl, by decide, by decide, k1.le (by omega), hr, fun d μ2 hg k2 o2 => k _ _ ⟨hg.part.le (by omega), hg.siz.le (by omega) (by omega), hg.nd, leaf_of hg.part (by decide) hg.leaf⟩ k2 (hp1.step o2)⟩
  have inner : (wSeq (wIfS (wAndT (wTest (wBin g1 (wVar 5) (wC (.int 5)))) (wTest (wBin g3 (wB g5 (wCons (wVar 3) wNil)) (wC (.int 1))))) (wSeq (wAsg (wLst (wCons (wUn g6 (wVar 3)) (wCons (wUn g6 (wVar 3)) wNil))) (wgName 7))
    (wSeq (wAsg (wCall 4 wfInner (wCons (wVar 0) (wCons (wVar 1) (wCons (wVar 2) (wCons (wVar 7) wNil))))) (wgName 8))
    (wSeq (wAsg (wTup (wCons (wC (.str "column")) (wCons (wBin wIx (wVar 7) (wC (.int 0))) (wCons (wBin wIx (wBin g4 (wBin g4 (wVar 1) (wC (.str "columns"))) (wBin wIx (wBin wIx (wBin wIx (wVar 8) (wC (.int 0))) (wC (.int 0))) (wC (.int 1)))) (wC (.int 0))) wNil)))) (wgName 9))
    (wSeq (wAsg (wLst (wCons (wTup (wCons (wC (.str "exists")) (wCons (wVar 8) wNil))) (wCons (wTup (wCons (wC (.str "same")) (wCons (wCall 3 wfCol (wCons (wVar 0) (wCons (wVar 1) (wCons (wVar 2) wNil)))) (wCons (wTup (wCons (wC (.str "only")) (wCons (wVar 8) (wCons (wVar 9) wNil)))) wNil)))) wNil))) (wgName 10))
    (wRet (wCall 2 pickW (wCons (wVar 0) (wCons (wBin wAdd (wVar 10) (wLst (wCons (wTup (wCons (wC (.str "is")) (wCons (wTup (wCons (wC (.str "first")) (wCons (wVar 8) (wCons (wVar 9) wNil)))) (wCons (wC (.str "number")) wNil)))) wNil))) wNil)))))))) wNext)
    (wRet (wCall 4 (wfLeaf 1) (wCons (wVar 0) (wCons (wVar 1) (wCons (wVar 2) (wCons (wC (.int 1)) wNil))))))) { nx := fun _ μ' => Q .none μ', rt := Q } [some (.obj a), some (world tabs q), some (.tup refs), some (.obj p), some (.int deep), some (.int way), none, none, none, none, none] μ1 := by
    refine EQ _ _ _ _ ?_
    cases h5 : decide (way = 5) with
    | false => exact leaf none none none none none
    | true =>
      obtain ⟨pl, ep, pl1, hpl⟩ := hp1.ex
      refine LE ep ?_
      refine GT _ _ _ _ ?_
      cases h2 : decide ((1 : Int) < (pl.length : Int)) with
      | false => exact leaf none none none none none
      | true =>
        have hlen : 1 < pl.length := by have := of_decide_eq_true h2; omega
        obtain ⟨y1, e1, m1⟩ := last_of (show 0 < pl.length by omega)
        refine PO ep e1 ?_
        have ldl : pl.dropLast.length = pl.length - 1 := List.length_dropLast
        obtain ⟨y2, e2, m2⟩ := last_of (show 0 < pl.dropLast.length by omega)
        refine PO (updM_same) e2 ?_
        let μ2 : Mh := updM (updM μ1 p (.lst pl.dropLast)) p (.lst pl.dropLast.dropLast)
        have k2 : Ok22 μ2 a c q tabs kv (m + CC n - 1) := (k1.upd hp1.pa hp1.pc hp1.pq).upd hp1.pa hp1.pc hp1.pq
        have hp2 : Pool μ2 a c q p := ⟨hp1.pa, hp1.pc, hp1.pq, _, updM_same, by rw [List.length_dropLast]; omega, fun d hd => hpl d (mem_dl (mem_dl hd))⟩
        have n1 := hpl y1 m1
        have n2 := hpl y2 (mem_dl m2)
        refine ⟨sl (Nat.le_of_ble_eq_true rfl), rfl, a, c, q, tabs, kv, m + 5, refs, [y1, y2], rfl, k2.le (by omega), hr, h10, Nat.succ_pos _, Nat.le_refl _, fun d hd => ?_, fun own cd μ3 hg k3 o3 => ?_⟩
        · simp only [List.mem_cons, List.not_mem_nil, or_false] at hd
          rcases hd with rfl | rfl
          · exact n1
          · exact n2
        · have hp3 := hp2.step o3
          cases own with
          | nil => exact absurd hg.ok.ne (Nat.lt_irrefl 0)
          | cons r0 own =>
            obtain ⟨al, x, rfl, pal, lal, cs, hv, c0, c1, hcs, px, lx⟩ := hg.ok.all r0 List.mem_cons_self
            refine G2 (tabs := tabs) (q := q) ?_
            show atW (atI (DV.tup [.str al, .str x] :: own) 0) _
            rw [atI_zero]
            refine G3 k3.cq hv ?_
            cases cs with
            | nil => exact absurd c0 (Nat.lt_irrefl 0)
            | cons cz cs =>
              show atW (atI (cz :: cs) 0) _
              rw [atI_zero]
              obtain ⟨ys, rfl, py, ly⟩ := n1
              obtain ⟨zs, rfl, pz, lz⟩ := hcs cz List.mem_cons_self
              have tm : GCol (.tup [.str "column", .str ys, .str zs]) := ⟨ys, zs, rfl, py, ly, pz, lz⟩
              refine ⟨sl (Nat.le_of_ble_eq_true rfl), sl (Nat.le_of_ble_eq_true rfl), rfl, a, c, q, tabs, kv, m + 3, refs, rfl, k3, hr, fun col μ4 hcol k4 o4 => ?_⟩
              refine ⟨sl (Nat.le_of_ble_eq_true rfl), sl (Nat.le_of_ble_eq_true rfl), sl (Nat.le_of_ble_eq_true rfl), sl (Nat.le_of_ble_eq_true rfl), sl (Nat.le_of_ble_eq_true rfl), sl (Nat.le_of_ble_eq_true rfl), sl (Nat.le_of_ble_eq_true rfl), rfl, pick22 (m := m + 2) (Nat.succ_pos _) (Nat.le_of_ble_eq_true rfl) k4 fun z μ5 hz k5 o5 => ?_⟩
              refine k z μ5 ?_ (k5.le (by omega)) ((hp3.step o4).step o5)
              have hz : z ∈ [DV.tup [.str "exists", .tup [.tup (.tup [.str al, .str x] :: own), cd]], .tup [.str "same", col, .tup [.str "only", .tup [.tup (.tup [.str al, .str x] :: own), cd], .tup [.str "column", .str ys, .str zs]]], .tup [.str "is", .tup [.str "first", .tup [.tup (.tup [.str al, .str x] :: own), cd], .tup [.str "column", .str ys, .str zs]], .str "number"]] := hz
              have srefs := ref_siz hg.ok
              have two := hg.two
              have sin : Siz 760 5 (.tup [.tup (.tup [.str al, .str x] :: own), cd]) := (Siz.tup (Sizs.cons (srefs.le (Nat.le_refl _) (show 2 ≤ 4 by decide)) (Sizs.cons hg.siz nilS))).le (by omega) (by omega)
              have two3 : ∀ w : Str, plainS w = true → w.length ≤ 5 → Siz 810 6 (.tup [.str w, .tup [.tup (.tup [.str al, .str x] :: own), cd], .tup [.str "column", .str ys, .str zs]]) := fun w pw lw => (Siz.tup (Sizs.cons ((Siz.str pw).le lw (Nat.zero_le _)) (Sizs.cons sin (Sizs.cons (tm.siz.le (Nat.le_refl 30) (show 1 ≤ 5 by decide)) nilS)))).le (by omega) (by omega)
              have part3 : ∀ w : Str, w = "only" ∨ w = "first" → Part 5 (.tup [.str w, .tup [.tup (.tup [.str al, .str x] :: own), cd], .tup [.str "column", .str ys, .str zs]]) := fun w hw => .mk (.b3 hw) fun p hp => by
                simp only [List.mem_cons, List.not_mem_nil, or_false] at hp
                rcases hp with rfl | rfl
                · exact hg.part
                · exact tm.part.le (by omega)
              simp only [List.mem_cons, List.not_mem_nil, or_false] at hz
              rcases hz with rfl | rfl | rfl
              · have hpt : Part 5 (.tup [.str "exists", .tup [.tup (.tup [.str al, .str x] :: own), cd]]) := .mk .b2 fun p hp => by
                  rw [List.mem_singleton] at hp
                  subst hp
                  exact hg.part
                refine ⟨hpt.le (by omega), ?_, nd2 (nd22 hg.rnd hg.nd), leaf_of hpt (by decide) (by kernel_rfl)⟩
                · exact (Siz.tup (Sizs.cons (wordS (x := "exists") (n := 6) (by decide +kernel) (by decide +kernel) 5) (Sizs.cons sin nilS))).le (by omega) (by omega)
              · have hpt : Part 6 (.tup [.str "same", col, .tup [.str "only", .tup [.tup (.tup [.str al, .str x] :: own), cd], .tup [.str "column", .str ys, .str zs]]]) := .mk (.b4 (.inr (.inr (.inl rfl)))) fun p hp => by
                  simp only [List.mem_cons, List.not_mem_nil, or_false] at hp
                  rcases hp with rfl | rfl
                  · exact hcol.part.le (by omega)
                  · exact part3 _ (.inl rfl)
                refine ⟨hpt.le (by omega), ?_, nd3 hcol.nd (nd3 (nd22 hg.rnd hg.nd) tm.nd), leaf_of hpt (by decide) (by kernel_rfl)⟩
                · exact (Siz.tup (Sizs.cons (wordS (x := "same") (n := 4) (by decide +kernel) (by decide +kernel) 6) (Sizs.cons (hcol.siz.le (Nat.le_refl 30) (show 1 ≤ 6 by decide)) (Sizs.cons (two3 _ (by decide +kernel) (by decide +kernel)) nilS)))).le (by omega) (by omega)
              · have hpt : Part 6 (.tup [.str "is", .tup [.str "first", .tup [.tup (.tup [.str al, .str x] :: own), cd], .tup [.str "column", .str ys, .str zs]], .str "number"]) := .mk (.b1 (.inr rfl)) fun p hp => by
                  rw [List.mem_singleton] at hp
                  subst hp
                  exact part3 _ (.inr rfl)
                refine ⟨hpt.le (by omega), ?_, nd3 (nd3 (nd22 hg.rnd hg.nd) tm.nd) rfl, leaf_of hpt (by decide) (by kernel_rfl)⟩
                · exact (Siz.tup (Sizs.cons (wordS (x := "is") (n := 2) (by decide +kernel) (by decide +kernel) 6) (Sizs.cons (two3 _ (by decide +kernel) (by decide +kernel)) (Sizs.cons (wordS (x := "number") (n := 6) (by decide +kernel) (by decide +kernel) 6) nilS)))).le (by omega) (by omega)
  refine GT _ _ _ _ ?_
  cases h0 : decide (0 < deep) with
  | false =>
    refine GT _ _ _ _ ?_
    rw [h0]
    exact inner
  | true =>
    have hd0 : 0 < deep := of_decide_eq_true h0
    obtain ⟨n', rfl⟩ : ∃ n', n = n' + 1 := ⟨n - 1, by omega⟩
    have hc' := cc_succ n'
    have hs' := sc_succ n'
    refine LT _ _ _ _ ?_
    cases h4 : decide (way < 4) with
    | true =>
      have hw4 : way < 4 := of_decide_eq_true h4
      refine ⟨rfl, hF n' rfl _ _ _ ⟨a, c, q, tabs, kv, m + CC n', refs, p, deep - 1, rfl, by omega, by omega, k1.le (by omega), hp1, hr, h10, by omega, fun d1 μ2 hg1 k2 hp2 => ⟨sl (Nat.le_of_ble_eq_true rfl), ?_⟩⟩⟩
      obtain ⟨w, hw, ew⟩ := atI_nat (xs := [DV.str "and", .str "or", .str "and", .str "or"]) r0 hw4
      show atW (atI [DV.str "and", .str "or", .str "and", .str "or"] way) _
      rw [ew]
      refine ⟨rfl, hF n' rfl _ _ _ ⟨a, c, q, tabs, kv, m, refs, p, deep - 1, rfl, by omega, by omega, k2, hp2, hr, h10, by omega, fun d2 μ3 hg2 k3 hp3 => ⟨sl (Nat.le_of_ble_eq_true rfl), k _ _ ?_ k3 hp3⟩⟩⟩
      have hw' : ∃ x, w = .str x ∧ plainS x = true ∧ x.length ≤ 3 ∧ (x = "less" ∨ x = "most" ∨ x = "same" ∨ x = "and" ∨ x = "or") ∧ ∀ a b, joining (.tup [.str x, a, b]) = true := by
        simp only [List.mem_cons, List.not_mem_nil, or_false] at hw
        rcases hw with rfl | rfl | rfl | rfl
        · exact ⟨_, rfl, by decide +kernel, by decide +kernel, .inr (.inr (.inr (.inl rfl))), fun _ _ => by kernel_rfl⟩
        · exact ⟨_, rfl, by decide +kernel, by decide +kernel, .inr (.inr (.inr (.inr rfl))), fun _ _ => by kernel_rfl⟩
        · exact ⟨_, rfl, by decide +kernel, by decide +kernel, .inr (.inr (.inr (.inl rfl))), fun _ _ => by kernel_rfl⟩
        · exact ⟨_, rfl, by decide +kernel, by decide +kernel, .inr (.inr (.inr (.inr rfl))), fun _ _ => by kernel_rfl⟩
      obtain ⟨x, rfl, px, lx, hb, hj⟩ := hw'
      have hbe : Below (.tup [.str x, d1, d2]) [([1], d1), ([2], d2)] := .b4 hb
      have hpt : Part (n' + 7) (.tup [.str x, d1, d2]) := .mk hbe fun p hp => by
        simp only [List.mem_cons, List.not_mem_nil, or_false] at hp
        rcases hp with rfl | rfl
        · exact hg1.part
        · exact hg2.part
      refine ⟨hpt.le (by omega), ?_, nd3 hg1.nd hg2.nd, leaf_join hpt (by omega) (hj _ _) (by
        rw [hbe.fn]
        intro p hp
        simp only [List.mem_cons, List.not_mem_nil, or_false] at hp
        rcases hp with rfl | rfl
        · exact hg1.leaf
        · exact hg2.leaf)⟩
      · exact (Siz.tup (Sizs.cons ((Siz.str px).le lx (Nat.zero_le _)) (Sizs.cons hg1.siz (Sizs.cons hg2.siz nilS)))).le (by omega) (by omega)
    | false =>
      refine GT _ _ _ _ ?_
      rw [h0]
      refine EQ _ _ _ _ ?_
      cases h4 : decide (way = 4) with
      | false => exact inner
      | true =>
        refine ⟨rfl, hF n' rfl _ _ _ ⟨a, c, q, tabs, kv, m, refs, p, deep - 1, rfl, by omega, by omega, k1.le (by omega), hp1, hr, h10, by omega, fun d1 μ2 hg1 k2 hp2 => ⟨sl (Nat.le_of_ble_eq_true rfl), (by
          have hbe : Below (.tup [.str "not", d1]) [([1], d1)] := .no
          have hpt : Part (n' + 7) (.tup [.str "not", d1]) := .mk hbe fun p hp => by
            rw [List.mem_singleton] at hp
            subst hp
            exact hg1.part
          refine k _ _ ⟨hpt.le (by omega), ?_, nd2 hg1.nd, leaf_join hpt (by omega) (by kernel_rfl) (by
            rw [hbe.fn]
            intro p hp
            rw [List.mem_singleton] at hp
            subst hp
            exact hg1.leaf)⟩ k2 hp2
          exact (Siz.tup (Sizs.cons (wordS (x := "not") (n := 3) (by decide +kernel) (by decide +kernel) _) (Sizs.cons hg1.siz nilS))).le (by omega) (by omega))⟩⟩⟩
end Qz

set_option Elab.async false
set_option linter.all false
set_option maxRecDepth 100000
set_option maxHeartbeats 1000000
/-! Qz10: whole questions drawn (of the first sort). -/
namespace Qz
open PySem L2 Dz

theorem leafW {d : DV} (h : ∀ lead, ∀ e ∈ leavesD d lead, Part 6 e.2) : ∀ e ∈ leavesW d, Part 6 e.2 := fun e he => by
  unfold leavesW at he
  split at he
  · cases he
  · exact h _ e he
structure GQ (kv : List (Key × DV)) (refs : List DV) (wh : DV) (heard order : List DV) (lim : DV) : Prop where
  rok : RefsOk kv refs
  r4 : refs.length ≤ 4
  ndp : (refs.map aliasOf).Nodup
  hw : wh = .none ∨ Part 8 wh
  leaf : ∀ e ∈ leavesW wh, Part 6 e.2
  hs : ∀ t ∈ heard, Part 6 t
  hlen : heard.length ≤ 4
  oc : ∀ d ∈ order, GCol d
  olen : order.length ≤ 4
  sw : Siz 9000 10 wh
  sh : Siz 3000 10 (.tup heard)
  slim : Siz 8 0 lim
  nw : noDct wh = true
  nh : noDct (.tup heard) = true
  nl : noDct lim = true
section
variable {kv : List (Key × DV)} {refs heard order : List DV} {wh lim : DV}
theorem GQ.so (h : GQ kv refs wh heard order lim) : Siz 124 2 (.tup order) := by
  refine (Siz.tup (Sizs.all fun t ht => (h.oc t ht).siz)).le ?_ (by omega)
  have : order.length * (30 + 1) ≤ 4 * (30 + 1) := Nat.mul_le_mul_right _ h.olen
  omega
theorem GQ.siz (h : GQ kv refs wh heard order lim) : Siz 20000 14 (quest refs wh heard order lim) := by
  have sr : Siz 84 2 (.tup refs) := (ref_siz h.rok).le (by have := h.r4; omega) (by omega)
  exact (Siz.tup (Sizs.cons (sr.le (Nat.le_refl _) (show 2 ≤ 10 by decide)) (Sizs.cons h.sw (Sizs.cons h.sh (Sizs.cons (h.so.le (Nat.le_refl _) (show 2 ≤ 10 by decide)) (Sizs.cons (h.slim.le (Nat.le_refl _) (show 0 ≤ 10 by decide)) nilS)))))).le (by omega) (by omega)
theorem GQ.nd (h : GQ kv refs wh heard order lim) : noDct (quest refs wh heard order lim) = true := by
  have no : noDct (.tup order) = true := noDcts_of fun t ht => (h.oc t ht).nd
  show (noDct (.tup refs) && (noDct wh && (noDct (.tup heard) && (noDct (.tup order) && (noDct lim && true))))) = true
  rw [refs_nd h.rok, h.nw, h.nh, no, h.nl]
  rfl
theorem GQ.ok (h : GQ kv refs wh heard order lim) : QOk refs wh heard order lim where
  rs := fun r hr => let ⟨al, x, e, _⟩ := h.rok.all r hr; ⟨al, x, e⟩
  rlen := h.rok.le
  hw := h.hw.imp id fun z => z.le (by decide)
  leaf := h.leaf
  hs := h.hs
  hlen := by have := h.hlen; omega
  olen := by have := h.olen; omega
  siz := h.siz.le (by decide) (by decide)
  nd := h.nd
end
theorem dropLast_snoc {α : Type} {l : List α} {y : α} (h : l[l.length - 1]? = some y) : l.dropLast ++ [y] = l := by
  rcases List.eq_nil_or_concat l with rfl | ⟨init, x, e⟩
  · cases h
  · have e : l = init ++ [x] := by simpa using e
    subst e
    rw [List.length_append, List.length_singleton, Nat.add_sub_cancel, List.getElem?_append_right (Nat.le_refl _), Nat.sub_self] at h
    have : x = y := by simpa using h
    rw [this, List.dropLast_concat]
theorem nodup_of_map {α β : Type} {f : α → β} {l : List α} (h : (l.map f).Nodup) : l.Nodup := by
  unfold List.Nodup at h ⊢
  rw [List.pairwise_map] at h
  exact h.imp fun h e => h (by rw [e])
def wfDrawn : WF := fun ds μ Q => ∃ a c q tabs kv m names, ∃ k : Nat, ds = [.obj a, world tabs q, .lst names, .int (k : Nat)] ∧ 1 ≤ k ∧ k ≤ 4 ∧ names.length = k ∧ (∀ d ∈ names, IsNm d) ∧ names.Nodup ∧ Ok22 μ a c q tabs kv (m + 1000) ∧ ∀ refs wh heard order lim μ', GQ kv refs wh heard order lim → heard.length ≤ 2 → Siz 500 4 (.tup heard) → Ok22 μ' a c q tabs kv m → Q (quest refs wh heard order lim) μ'
theorem p_law_drawn (ds : List DV) (μ : Mh) (Q : DV → Mh → Prop) (hl : ds.length = 4) (h : wfDrawn ds μ Q) :
    w_law_drawn pickW drawW (wfCond 2) (wfTerm 1) wfCol { nx := fun _ μ' => Q .none μ', rt := Q } (ds.map some ++ List.replicate 6 none) μ := by
  obtain ⟨a, c, q, tabs, kv, m, names, k, rfl, k1, k4, hnl, hnm, hnd, hk, kk⟩ := h
  have GT : ∀ (i j : Int) (μ : Mh) (P : DV → Mh → Prop), P (.bool (decide (j < i))) μ → wGt (.int i) (.int j) μ P := fun i j μ P h => h
  have G1 := @get_tables
  have PO := @pop_o
  unfold w_law_drawn
  generalize wGt = g3 at GT ⊢
  generalize wDGet = g4 at G1 ⊢
  generalize wPop = g6 at PO ⊢
  intro p hpn
  obtain ⟨⟨oa, ha⟩, ⟨oc, hc⟩⟩ := hk.dk.isSome
  have pa : p ≠ a := fun e => by rw [e, ha] at hpn; cases hpn
  have pc : p ≠ c := fun e => by rw [e, hc] at hpn; cases hpn
  have pq : p ≠ q := fun e => by rw [e, hk.cq] at hpn; cases hpn
  have k0 : Ok22 (updM μ p (.lst names)) a c q tabs kv (m + 1000) := hk.upd pa pc pq
  refine ⟨rfl, draw22 (m := m + 999) (by omega) (by omega) k0 fun r μ1 r0 r1 k1' o1 => ⟨by omega, by omega, ?_⟩⟩
  have e1 : μ1 p = some (.lst names) := (o1 p pa pc).trans updM_same
  refine comp_inv (J := fun acc rest μ' => Ok22 μ' a c q tabs kv (m + 990 + rest.length) ∧ (∀ d ∈ acc, ∃ al x, d = .tup [.str al, .str x] ∧ plainS al = true ∧ al.length ≤ 8 ∧ IsTab kv x) ∧ acc.length + rest.length = (1 + r).toNat ∧
      ∃ pl, μ' p = some (.lst pl) ∧ rest.length ≤ pl.length ∧ pl.length ≤ 100 ∧ (∀ d ∈ pl, IsNm d) ∧ pl ++ (acc.map fun d => DV.str (aliasOf d)).reverse = names) _ [] μ1 _ (fun x rest acc μ2 P hi hacc hP hP2 => ?_) (by rw [rngD_len, List.length_nil]; exact sl (by omega)) ⟨k1'.le (by rw [rngD_len]; omega), (fun d hd => by cases hd), by rw [rngD_len, List.length_nil, Nat.zero_add], names, e1, by rw [rngD_len]; omega, by omega, hnm, by rw [List.map_nil, List.reverse_nil, List.append_nil]⟩ (fun refs μ2 hi => ?_)
  · obtain ⟨k2, hal, hlen, pl, e2, hj, hl2, hpl, hnames⟩ := hi
    rw [List.length_cons] at k2 hj hlen
    obtain ⟨y, ey, my⟩ := last_of (show 0 < pl.length by omega)
    refine PO e2 ey ?_
    have k3 : Ok22 (updM μ2 p (.lst pl.dropLast)) a c q tabs kv (m + 990 + (rest.length + 1)) := k2.upd pa pc pq
    refine G1 (tabs := tabs) (q := q) ?_
    refine ⟨rfl, pick22 (y := .tup tabs) k3.wd.ne (Nat.le_trans k3.wd.le (by decide)) k3 fun t μ3 ht k4 o4 => ?_⟩
    obtain ⟨x, u, v, w, rfl, hx⟩ := k4.wd.all t ht
    obtain ⟨z, rfl, pz, lz⟩ := hpl y my
    refine ⟨sl (Nat.le_of_ble_eq_true rfl), hacc, hP _ _ ⟨k4, fun d hd => ?_, by rw [List.length_append, List.length_singleton]; omega, pl.dropLast, (o4 p pa pc).trans updM_same, by rw [List.length_dropLast]; omega, by rw [List.length_dropLast]; omega, fun d hd => hpl d (mem_dl hd), ?_⟩⟩
    · rcases List.mem_append.mp hd with hd | hd
      · exact hal d hd
      · rw [List.mem_singleton] at hd
        exact ⟨z, x, hd, pz, lz, hx⟩
    · rw [List.map_append, List.reverse_append, ← hnames]
      show pl.dropLast ++ ([DV.str z] ++ _) = pl ++ _
      rw [← List.append_assoc, dropLast_snoc ey]
  · obtain ⟨k2, hal, hlen, pl, e2, _, hl2, hpl, hnames⟩ := hi
    rw [List.length_nil, Nat.add_zero] at hlen
    have hr : RefsOk kv refs := ⟨by omega, by omega, hal⟩
    have hr3 : refs.length ≤ 4 := by omega
    have hp2 : Pool μ2 a c q p := ⟨pa, pc, pq, pl, e2, hl2, hpl⟩
    have ndp : (refs.map aliasOf).Nodup := by
      rw [← hnames] at hnd
      have h1 := (List.reverse_perm _).nodup_iff.mp (List.nodup_append.mp hnd).2.1
      rw [show refs.map (fun d => DV.str (aliasOf d)) = (refs.map aliasOf).map DV.str by rw [List.map_map]; rfl] at h1
      exact nodup_of_map h1
    -- behind where
    have rest : ∀ (wh : DV) (μ3 : Mh), (wh = .none ∨ Part 8 wh) → (∀ e ∈ leavesW wh, Part 6 e.2) → noDct wh = true → Siz 9000 10 wh → Ok22 μ3 a c q tabs kv (m + 100) →
        (wSeq (wAsg (wB wTuple (wCons (wLc (sRng1 (wBin wAdd (wC (.int 1)) (wCall 2 drawW (wCons (wVar 0) (wCons (wC (.int 2)) wNil))))) (wgName 6) wYes (wCall 4 (wfTerm 1) (wCons (wVar 0) (wCons (wVar 1) (wCons (wVar 5) (wCons (wC (.int 1)) wNil))))) [6]) wNil)) (wgName 8))
    (wSeq (wAsg (wB wTuple (wCons (wLc (sRng1 (wBin wIx (wLst (wCons (wC (.int 0)) (wCons (wC (.int 0)) (wCons (wC (.int 0)) (wCons (wC (.int 1)) (wCons (wC (.int 2)) wNil)))))) (wCall 2 drawW (wCons (wVar 0) (wCons (wC (.int 5)) wNil))))) (wgName 6) wYes (wCall 3 wfCol (wCons (wVar 0) (wCons (wVar 1) (wCons (wVar 5) wNil)))) [6]) wNil)) (wgName 9))
    (wRet (wTup (wCons (wVar 5) (wCons (wVar 7) (wCons (wVar 8) (wCons (wVar 9) (wCons (wCall 2 pickW (wCons (wVar 0) (wCons (wLst (wCons (wC .none) (wCons (wC .none) (wCons (wC (.int 0)) (wCons (wC (.int 1)) (wCons (wC (.int 2)) (wCons (wC (.int 5)) wNil))))))) wNil))) wNil)))))))))
          { nx := fun _ μ' => Q .none μ', rt := Q } [some (.obj a), some (world tabs q), some (.lst names), some (.int (k : Nat)), some (.obj p), some (.tup refs), none, some wh, none, none] μ3 := by
      intro wh μ3 w1 w2 w3 w4 k3
      refine ⟨rfl, draw22 (m := m + 99) (by decide) (by decide) k3 fun r2 μ4 s0 s1 k4 o4 => ⟨by omega, by omega, ?_⟩⟩
      refine comp_all (G := GTerm 1) (I := fun n μ' => Ok22 μ' a c q tabs kv (m + 50 + n * 5)) (n := 0) _ [] μ4 _ (fun x hx μ5 j P hi hP => ?_) (by rw [rngD_len, List.length_nil]; exact sl (by omega)) (fun y hy => by cases hy) (k4.le (by rw [rngD_len]; omega)) (fun heard μ5 hh hlen2 k5 => ?_)
      · rw [Nat.succ_mul, ← Nat.add_assoc] at hi
        exact ⟨rfl, a, c, q, tabs, kv, m + 50 + j * 5, refs, 1, rfl, by decide, by decide, hi, hr, fun d μ6 hd k6 _ => hP _ _ hd k6⟩
      · rw [rngD_len, List.length_nil, Nat.zero_add] at hlen2
        have k5' : Ok22 μ5 a c q tabs kv (m + 49 + 1) := k5.le (by omega)
        refine ⟨sl (Nat.le_of_ble_eq_true rfl), rfl, draw22 (by decide) (by decide) k5' fun r3 μ6 t0 t1 k6 o6 => ?_⟩
        obtain ⟨x3, hx3, ex3⟩ := atI_nat (xs := [DV.int 0, .int 0, .int 0, .int 1, .int 2]) t0 t1
        have hx3' : ∃ i : Int, x3 = .int i ∧ 0 ≤ i ∧ i ≤ 2 := by
          simp only [List.mem_cons, List.not_mem_nil, or_false] at hx3
          rcases hx3 with rfl | rfl | rfl | rfl | rfl
          all_goals exact ⟨_, rfl, by decide, by decide⟩
        obtain ⟨i, rfl, i0, i2⟩ := hx3'
        show atW (atI [DV.int 0, .int 0, .int 0, .int 1, .int 2] r3) _
        rw [ex3]
        refine ⟨by omega, by omega, ?_⟩
        refine comp_all (G := GCol) (I := fun n μ' => Ok22 μ' a c q tabs kv (m + 10 + n * 2)) (n := 0) _ [] μ6 _ (fun x hx μ7 j P hi hP => ?_) (by rw [rngD_len, List.length_nil]; exact sl (by omega)) (fun y hy => by cases hy) (k6.le (by rw [rngD_len]; omega)) (fun order μ7 ho hlen3 k7 => ?_)
        · rw [Nat.succ_mul, ← Nat.add_assoc] at hi
          exact ⟨rfl, a, c, q, tabs, kv, m + 10 + j * 2, refs, rfl, hi, hr, fun d μ8 hd k8 _ => hP _ _ hd k8⟩
        · rw [rngD_len, List.length_nil, Nat.zero_add] at hlen3
          have k7' : Ok22 μ7 a c q tabs kv (m + 9 + 1) := k7.le (by omega)
          refine ⟨sl (Nat.le_of_ble_eq_true rfl), rfl, pick22 (Nat.succ_pos _) (Nat.le_of_ble_eq_true rfl) k7' fun lim μ8 hlim k8 o8 => ⟨sl (Nat.le_of_ble_eq_true rfl), ?_⟩⟩
          have hlim : lim ∈ [DV.none, .none, .int 0, .int 1, .int 2, .int 5] := hlim
          have sl8 : Siz 8 0 lim := by
            simp only [List.mem_cons, List.not_mem_nil, or_false] at hlim
            rcases hlim with rfl | rfl | rfl | rfl | rfl | rfl
            · exact Siz.none.le (by omega) (by omega)
            · exact Siz.none.le (by omega) (by omega)
            · exact (Siz.int (by decide)).le (by omega) (by omega)
            · exact (Siz.int (by decide)).le (by omega) (by omega)
            · exact (Siz.int (by decide)).le (by omega) (by omega)
            · exact (Siz.int (by decide)).le (by omega) (by omega)
          have sh : Siz 500 4 (.tup heard) := by
            refine (Siz.tup (Sizs.all fun t ht => (hh t ht).siz)).le ?_ (by omega)
            have : heard.length * (40 + 40 * 1 + 1) ≤ 2 * (40 + 40 * 1 + 1) := Nat.mul_le_mul_right _ (by omega)
            omega
          have nlim : noDct lim = true := by
            simp only [List.mem_cons, List.not_mem_nil, or_false] at hlim
            rcases hlim with rfl | rfl | rfl | rfl | rfl | rfl <;> rfl
          exact kk refs wh heard order lim _ ⟨hr, by omega, ndp, w1, w2, fun t ht => (hh t ht).part.le (by omega), by omega, ho, by omega, w4, sh.le (by decide) (by decide), sl8, w3, noDcts_of fun t ht => (hh t ht).nd, nlim⟩ (by omega) sh (k8.le (by omega))
    have k2' : Ok22 μ2 a c q tabs kv (m + 989 + 1) := k2.le (by omega)
    refine ⟨rfl, draw22 (by decide) (by decide) k2' fun r2 μ3 s0 s1 k3 o3 => ?_⟩
    refine GT _ _ _ _ ?_
    cases hg2 : decide ((0 : Int) < r2) with
    | false => exact rest .none μ3 (.inl rfl) (fun e he => by cases he) rfl (Siz.none.le (by omega) (by omega)) (k3.le (by omega))
    | true => exact ⟨rfl, a, c, q, tabs, kv, m + 100, refs, p, 2, rfl, by decide, by decide, k3.le (by show m + 100 + 50 * 3 ^ 2 ≤ m + 989; omega), hp2.step o3, hr, by omega, by decide, fun d μ4 hd k4 _ => rest d μ4 (.inr hd.part) (leafW hd.leaf) hd.nd hd.siz k4⟩
end Qz

set_option Elab.async false
set_option linter.all false
set_option maxRecDepth 100000
set_option maxHeartbeats 1000000
/-! Qz11: names and schemas drawn. -/
namespace Qz
open PySem L2 Dz

def wfNames : WF := fun ds μ Q => ∃ a c m, ds = [.obj a, .int 16] ∧ Dk μ a c (m + 2) ∧ ∀ (l : List DV) μ', l.length = 16 → (∀ d ∈ l, IsNm d) → l.Nodup → Dk μ' a c m → Q (.lst l) μ'
abbrev wordsA : Str := "less is plus from in only where not first nothing exists or t tell limit and order"
theorem words_ok : (Txt.split wordsA " ").length = 17 ∧ (Txt.split wordsA " ").all (fun x => plainS x && decide (x.length ≤ 8)) = true := by decide +kernel
theorem letters_ok : ("abcdefghijklmnopq" : Str).cps.toList.length = 17 ∧ plainS ("abcdefghijklmnopq" : Str) = true := by decide +kernel
theorem words_nd : (Txt.split wordsA " ").Nodup := by decide +kernel
theorem letters_nd : (("abcdefghijklmnopq" : Str).cps.toList.map fun c => (⟨#[c]⟩ : Str)).Nodup := by decide +kernel
theorem getElem?_inj' {α : Type} {l : List α} (h : l.Nodup) {i j : Nat} {x : α} (hi : l[i]? = some x) (hj : l[j]? = some x) : i = j := by
  obtain ⟨h1, h2⟩ := List.getElem?_eq_some_iff.mp hi
  obtain ⟨h3, h4⟩ := List.getElem?_eq_some_iff.mp hj
  have pw := List.pairwise_iff_getElem.mp (show l.Pairwise (· ≠ ·) from h)
  rcases Nat.lt_trichotomy i j with hlt | rfl | hlt
  · exact absurd (h2.trans h4.symm) (pw i j h1 h3 hlt)
  · rfl
  · exact absurd (h4.trans h2.symm) (pw j i h3 h1 hlt)
theorem names_nd {tbl : List Str} {f : Int} (ht : tbl.Nodup) (hl : tbl.length = 17) (f0 : 0 ≤ f) {l : List DV} (h : l.length = 16) (hg : ∀ i : Nat, i < 16 → ∃ s, l[i]? = some (DV.str s) ∧ tbl[((f + 5 * (i : Int)) % 17).toNat]? = some s) : l.Nodup := by
  unfold List.Nodup
  rw [List.pairwise_iff_getElem]
  intro i j hi hj hij e
  rw [h] at hi hj
  obtain ⟨s, e1, t1⟩ := hg i hi
  obtain ⟨u, e2, t2⟩ := hg j hj
  have h1 : l[i]? = l[j]? := by rw [List.getElem?_eq_getElem (by omega), List.getElem?_eq_getElem (by omega), e]
  rw [e1, e2] at h1
  have hsu : s = u := by simpa using h1
  subst hsu
  have := getElem?_inj' ht t1 t2
  omega
theorem p_law_names (ds : List DV) (μ : Mh) (Q : DV → Mh → Prop) (hl : ds.length = 2) (h : wfNames ds μ Q) :
    w_law_names drawW { nx := fun _ μ' => Q .none μ', rt := Q } (ds.map some ++ List.replicate 4 none) μ := by
  obtain ⟨a, c, m, rfl, hd, k⟩ := h
  refine ⟨rfl, draw_c (m := m + 1) (by decide) (by decide) hd fun f μ1 f0 f1 d1 o1 => ?_⟩
  refine ⟨rfl, draw_c (by decide) (by decide) d1 fun w μ2 w0 w1 d2 o2 => ⟨sl (Nat.le_of_ble_eq_true rfl), rfl, rfl, by decide +kernel, sl (by decide +kernel), ?_⟩⟩
  refine ⟨by decide, by decide, ?_⟩
  obtain ⟨hw1, hw2⟩ := words_ok
  obtain ⟨hl1, hl2⟩ := letters_ok
  rw [List.all_eq_true] at hw2
  let tbl : List Str := if w = 0 then Txt.split wordsA " " else ("abcdefghijklmnopq" : Str).cps.toList.map fun c => (⟨#[c]⟩ : Str)
  have t17 : tbl.length = 17 := by
    show (if w = 0 then Txt.split wordsA " " else ("abcdefghijklmnopq" : Str).cps.toList.map fun c => (⟨#[c]⟩ : Str)).length = 17
    split
    · exact hw1
    · rw [List.length_map]
      exact hl1
  have tnd : tbl.Nodup := by
    show (if w = 0 then Txt.split wordsA " " else ("abcdefghijklmnopq" : Str).cps.toList.map fun c => (⟨#[c]⟩ : Str)).Nodup
    split
    · exact words_nd
    · exact letters_nd
  refine comp_inv (J := fun acc rest μ' => μ' = μ2 ∧ (∀ y ∈ acc, IsNm y) ∧ (∀ i, i < acc.length → ∃ s, acc[i]? = some (.str s) ∧ tbl[((f + 5 * (i : Int)) % 17).toNat]? = some s) ∧ (rngD 0 16).drop acc.length = rest ∧ acc.length + rest.length = 16) (rngD 0 16) [] μ2 _ (fun x rest acc μ3 P hi hacc hP hP2 => ?_) (by rw [rngD_len, List.length_nil]; exact sl (by decide)) ⟨rfl, (fun y hy => by cases hy), (fun i hi => absurd hi (Nat.not_lt_zero _)), rfl, by rw [rngD_len]; rfl⟩ (fun l μ3 hi => ?_)
  · obtain ⟨rfl, hnm, hix, hdr, hlen⟩ := hi
    rw [List.length_cons] at hlen
    have hx : x = .int (acc.length : Nat) := by
      have h1 : ((rngD 0 16).drop acc.length)[0]? = some x := by rw [hdr]; rfl
      rw [List.getElem?_drop, Nat.add_zero] at h1
      unfold rngD at h1
      rw [List.getElem?_map, List.getElem?_range (by omega)] at h1
      have h2 : DV.int (0 + ((acc.length : Nat) : Int)) = x := by simpa using h1
      rw [← h2, Int.zero_add]
    subst hx
    have hdr2 : (rngD 0 16).drop (acc.length + 1) = rest := by
      rw [← List.drop_drop, hdr]
      rfl
    have j0 : 0 ≤ (f + 5 * (acc.length : Int)) % 17 := Int.emod_nonneg _ (by decide)
    have j1 : (f + 5 * (acc.length : Int)) % 17 < 17 := Int.emod_lt_of_pos _ (by decide)
    refine ⟨sl (Nat.le_of_ble_eq_true rfl), ?_⟩
    have fin : ∀ (s : Str), IsNm (.str s) → tbl[((f + 5 * (acc.length : Int)) % 17).toNat]? = some s → P (acc ++ [.str s]) μ3 := fun s h1 h2 => by
      refine hP _ _ ⟨rfl, fun y hy => ?_, fun i hi => ?_, by rw [List.length_append]; exact hdr2, by rw [List.length_append, List.length_singleton]; omega⟩
      · rcases List.mem_append.mp hy with hy | hy
        · exact hnm y hy
        · rw [List.mem_singleton] at hy
          rw [hy]
          exact h1
      · rw [List.length_append, List.length_singleton] at hi
        by_cases hlt : i < acc.length
        · rw [List.getElem?_append_left hlt]
          exact hix i hlt
        · have e : i = acc.length := by omega
          subst e
          exact ⟨s, by rw [List.getElem?_append_right (Nat.le_refl _), Nat.sub_self]; rfl, h2⟩
    have hw01 : w = 0 ∨ w = 1 := by omega
    have ew : atI [DV.lst ((Txt.split wordsA " ").map .str), .str "abcdefghijklmnopq"] w = some (if w = 0 then DV.lst ((Txt.split wordsA " ").map .str) else .str "abcdefghijklmnopq") := by
      rcases hw01 with rfl | rfl
      · exact atI_zero
      · exact atI_of (i := 1) rfl
    show atW (atI [DV.lst ((Txt.split wordsA " ").map .str), .str "abcdefghijklmnopq"] w) _
    rw [ew]
    refine ⟨cm_l ⟨by decide, by decide⟩, by decide, ?_⟩
    rcases hw01 with rfl | rfl
    · skip
      have hlt : ((f + 5 * (acc.length : Int)) % 17).toNat < (Txt.split wordsA " ").length := by rw [hw1]; omega
      have e1 := List.getElem?_eq_getElem hlt
      have e2 : atI ((Txt.split wordsA " ").map DV.str) ((f + 5 * (acc.length : Int)) % 17) = some (.str (Txt.split wordsA " ")[((f + 5 * (acc.length : Int)) % 17).toNat]) := by
        have := atI_of (xs := (Txt.split wordsA " ").map DV.str) (i := ((f + 5 * (acc.length : Int)) % 17).toNat) (x := .str (Txt.split wordsA " ")[((f + 5 * (acc.length : Int)) % 17).toNat]) (by rw [List.getElem?_map, e1]; rfl)
        rw [Int.toNat_of_nonneg j0] at this
        exact this
      show atW (atI ((Txt.split wordsA " ").map DV.str) _) _
      rw [e2]
      have := hw2 _ (List.getElem_mem hlt)
      rw [Bool.and_eq_true, decide_eq_true_eq] at this
      exact ⟨hacc, fin _ ⟨_, rfl, this.1, this.2⟩ e1⟩
    · refine ⟨sl (by decide +kernel), ?_⟩
      have hlt : ((f + 5 * (acc.length : Int)) % 17).toNat < ("abcdefghijklmnopq" : Str).cps.toList.length := by rw [hl1]; omega
      have e1 := List.getElem?_eq_getElem hlt
      have e2 := atI_of (xs := ("abcdefghijklmnopq" : Str).cps.toList) (i := ((f + 5 * (acc.length : Int)) % 17).toNat) e1
      rw [Int.toNat_of_nonneg j0] at e2
      rw [e2]
      exact ⟨hacc, fin _ ⟨_, rfl, plain_one (plain_iff.mp hl2 _ (List.getElem_mem hlt)), Nat.le_of_ble_eq_true rfl⟩ (by
        show (("abcdefghijklmnopq" : Str).cps.toList.map fun c => (⟨#[c]⟩ : Str))[_]? = _
        rw [List.getElem?_map, e1]
        rfl)⟩
  · obtain ⟨rfl, hnm, hix, _, hlen⟩ := hi
    rw [List.length_nil, Nat.add_zero] at hlen
    exact k l μ3 hlen hnm (names_nd tnd t17 f0 hlen fun i hi => hix i (by omega)) d2
theorem nm_strs {zs : List DV} (h : ∀ z ∈ zs, IsNm z) : ∃ ys : List Str, zs = ys.map .str := by
  induction zs with
  | nil => exact ⟨[], rfl⟩
  | cons z zs ih =>
    obtain ⟨x, rfl, _⟩ := h z List.mem_cons_self
    obtain ⟨ys, rfl⟩ := ih fun z hz => h z (List.mem_cons_of_mem _ hz)
    exact ⟨x :: ys, rfl⟩
theorem cut_mid {ds : List DV} {lo hi : Int} (h0 : 0 ≤ lo) (h1 : lo ≤ hi) (h2 : hi ≤ ds.length) : ∃ l, cutD ds (some lo) (some hi) = l ∧ l.length = (hi - lo).toNat ∧ ∀ x ∈ l, x ∈ ds := by
  obtain ⟨i, rfl⟩ := Int.eq_ofNat_of_zero_le h0
  obtain ⟨j, rfl⟩ := Int.eq_ofNat_of_zero_le (Int.le_trans h0 h1)
  refine ⟨_, rfl, ?_, fun x hx => List.mem_of_mem_drop (List.mem_of_mem_take hx)⟩
  unfold cutD
  have e0 : HT.sIx ds.length 0 (some (i : Int)) = min i ds.length := HT.sIx_nat _ _ _
  have e1 : HT.sIx ds.length ds.length (some (j : Int)) = min j ds.length := HT.sIx_nat _ _ _
  rw [e0, e1, List.length_take, List.length_drop]
  omega
/-! ### a table -/
structure GCols (cols : List DV) : Prop where
  ne : 0 < cols.length
  le : cols.length ≤ 3
  all : ∀ col ∈ cols, ∃ (y : Str) (ks : List Str), col = .tup [.str y, .tup (ks.map .str)] ∧ plainS y = true ∧ y.length ≤ 8
structure GTab (t : DV) : Prop where
  ex : ∃ (x : Str) (cols : List DV) (kk ii : List Str), t = .tup [.str x, .tup cols, .tup (kk.map .str), .tup (ii.map .str)] ∧ plainS x = true ∧ x.length ≤ 8 ∧ GCols cols
  siz : Siz 500 4 t
theorem alike_strs : ∀ xs ys : List Str, PySem.W.alikeAll (toPys (xs.map .str)) (toPys (ys.map .str)) = true
  | [], _ => by cases ‹List Str› <;> rfl
  | _ :: _, [] => rfl
  | _ :: xs, _ :: ys => by
    show (true && _) = true
    rw [alike_strs xs ys]
    rfl
theorem alike_cols : ∀ xs ys : List DV, (∀ col ∈ xs, ∃ (y : Str) (ks : List Str), col = .tup [.str y, .tup (ks.map .str)] ∧ plainS y = true ∧ y.length ≤ 8) → (∀ col ∈ ys, ∃ (y : Str) (ks : List Str), col = .tup [.str y, .tup (ks.map .str)] ∧ plainS y = true ∧ y.length ≤ 8) → PySem.W.alikeAll (toPys xs) (toPys ys) = true
  | [], [], _, _ => rfl
  | [], _ :: _, _, _ => rfl
  | _ :: _, [], _, _ => rfl
  | x :: xs, y :: ys, h1, h2 => by
    obtain ⟨a, ka, rfl, _⟩ := h1 x List.mem_cons_self
    obtain ⟨b, kb, rfl, _⟩ := h2 y List.mem_cons_self
    show ((true && (PySem.W.alikeAll (toPys (ka.map .str)) (toPys (kb.map .str)) && true)) && PySem.W.alikeAll (toPys xs) (toPys ys)) = true
    rw [alike_strs, alike_cols xs ys (fun c hc => h1 c (List.mem_cons_of_mem _ hc)) (fun c hc => h2 c (List.mem_cons_of_mem _ hc))]
    rfl
theorem alike_tab {t u : DV} (h : GTab t) (h' : GTab u) : PySem.W.alike (toPy t) (toPy u) = true := by
  obtain ⟨x, cols, kk, ii, rfl, _, _, hc⟩ := h.ex
  obtain ⟨y, cols', kk', ii', rfl, _, _, hc'⟩ := h'.ex
  show (true && (PySem.W.alikeAll (toPys cols) (toPys cols') && (PySem.W.alikeAll (toPys (kk.map .str)) (toPys (kk'.map .str)) && (PySem.W.alikeAll (toPys (ii.map .str)) (toPys (ii'.map .str)) && true)))) = true
  rw [alike_cols cols cols' hc.all hc'.all, alike_strs, alike_strs]
  rfl
theorem sort_names {zs : List DV} {μ : Mh} {P : DV → Mh → Prop} (h : ∀ z ∈ zs, IsNm z) (l : zs.length ≤ 1000) (k : ∀ es : List DV, es.Perm zs → P (.lst es) μ) : sortW zs μ P := by
  have hs := Sizs.all fun z hz => (h z hz).siz
  refine ⟨hs.no, ?_, ?_, fun d hd => Nat.le_trans (h d hd).siz.dp (by decide), sl (by omega), fun es pm _ => k es pm⟩
  · unfold allAlike
    rw [List.all_eq_true]
    intro x hx
    rw [List.all_eq_true]
    intro y hy
    obtain ⟨s, rfl, _⟩ := h x hx
    obtain ⟨t, rfl, _⟩ := h y hy
    rfl
  · unfold sortable
    rw [Bool.or_eq_true]
    right
    rw [List.all_eq_true]
    intro x hx
    obtain ⟨s, rfl, _⟩ := h x hx
    rfl
theorem sort_tabs {zs : List DV} {μ : Mh} {P : DV → Mh → Prop} (h : ∀ z ∈ zs, GTab z) (l : zs.length ≤ 1000) (k : ∀ es : List DV, es.Perm zs → P (.lst es) μ) : sortW zs μ P := by
  have hs := Sizs.all fun z hz => (h z hz).siz
  refine ⟨hs.no, ?_, ?_, fun d hd => Nat.le_trans (h d hd).siz.dp (by decide), sl (by omega), fun es pm _ => k es pm⟩
  · unfold allAlike
    rw [List.all_eq_true]
    intro x hx
    rw [List.all_eq_true]
    intro y hy
    exact alike_tab (h x hx) (h y hy)
  · unfold sortable
    rw [Bool.or_eq_true]
    left
    rw [List.all_eq_true]
    intro x hx
    obtain ⟨s, cols, kk, ii, rfl, _⟩ := (h x hx).ex
    rfl
theorem sorted_o {μ : Mh} {p : Addr} {zs : List DV} {P : DV → Mh → Prop} (h : μ p = some (.lst zs)) (k : sortW zs μ P) : wSorted [.obj p] μ P := by
  show (match μ p with | some (.lst ds) => sortW ds μ P | _ => False)
  rw [h]
  exact k
def wfSchema : WF := fun ds μ Q => ∃ a c m names many, ds = [.obj a, .lst names, .int many] ∧ names.length = 16 ∧ (∀ d ∈ names, IsNm d) ∧ 1 ≤ many ∧ many ≤ 3 ∧ Dk μ a c (m + 60) ∧ ∀ (tabs : List DV) μ', 0 < tabs.length → tabs.length ≤ 3 → (∀ t ∈ tabs, GTab t) → Dk μ' a c m → Q (.tup tabs) μ'
theorem kinds_ok : ∀ k ∈ [DV.tup [.str "number"], .tup [.str "number", .str "word"], .tup [.str "nothing", .str "number", .str "word"], .tup [.str "word"], .tup [.str "nothing", .str "number"]], ∃ ks : List Str, k = .tup (ks.map .str) ∧ Siz 40 1 k := by
  intro k hk
  have s1 : Siz 8 0 (.str "number") := (Siz.str (by decide +kernel)).le (by decide +kernel) (Nat.le_refl _)
  have s2 : Siz 8 0 (.str "word") := (Siz.str (by decide +kernel)).le (by decide +kernel) (Nat.le_refl _)
  have s3 : Siz 8 0 (.str "nothing") := (Siz.str (by decide +kernel)).le (by decide +kernel) (Nat.le_refl _)
  simp only [List.mem_cons, List.not_mem_nil, or_false] at hk
  rcases hk with rfl | rfl | rfl | rfl | rfl
  · exact ⟨["number"], rfl, (Siz.tup (Sizs.cons s1 nilS)).le (by omega) (by omega)⟩
  · exact ⟨["number", "word"], rfl, (Siz.tup (Sizs.cons s1 (Sizs.cons s2 nilS))).le (by omega) (by omega)⟩
  · exact ⟨["nothing", "number", "word"], rfl, (Siz.tup (Sizs.cons s3 (Sizs.cons s1 (Sizs.cons s2 nilS)))).le (by omega) (by omega)⟩
  · exact ⟨["word"], rfl, (Siz.tup (Sizs.cons s2 nilS)).le (by omega) (by omega)⟩
  · exact ⟨["nothing", "number"], rfl, (Siz.tup (Sizs.cons s3 (Sizs.cons s1 nilS))).le (by omega) (by omega)⟩
theorem app_st {p : Addr} {zs : List DV} {t : DV} {we : WE} {E : DEnds} {ρ : Rho} {μ : Mh} (hv : ρ[3]? = some (some (.obj p))) (h : μ p = some (.lst zs)) (l : zs.length ≤ 1000) (hw : ∀ P : DV → Mh → Prop, P t μ → we ρ μ P) (k : E.nx ρ (updM μ p (.lst (zs ++ [t])))) : wDrop (wApp (wVar 3) we) E ρ μ :=
  app_o hv h hw (Nat.lt_of_lt_of_le (show zs.length < 1000000 by omega) (sl (Nat.le_refl _))) k
theorem p_law_schema (ds : List DV) (μ : Mh) (Q : DV → Mh → Prop) (hl : ds.length = 3) (h : wfSchema ds μ Q) :
    w_law_schema drawW pickW { nx := fun _ μ' => Q .none μ', rt := Q } (ds.map some ++ List.replicate 8 none) μ := by
  obtain ⟨a, c, m, names, many, rfl, h16, hnm, m1, m3, hd, k⟩ := h
  have EQ : ∀ (i j : Int) (μ : Mh) (P : DV → Mh → Prop), P (.bool (decide (i = j))) μ → wEqL (.int i) (.int j) μ P := fun i j μ P h => h
  have GT : ∀ (i j : Int) (μ : Mh) (P : DV → Mh → Prop), P (.bool (decide (j < i))) μ → wGt (.int i) (.int j) μ P := fun i j μ P h => h
  have SO := @sorted_o
  have SN : ∀ (zs : List DV) (μ : Mh) (P : DV → Mh → Prop), sortW zs μ P → wSorted [.lst zs] μ P := fun zs μ P h => h
  have AP := @app_st
  unfold w_law_schema
  generalize wEqL = g1 at EQ ⊢
  generalize wGt = g3 at GT ⊢
  generalize wSorted = g4 at SO SN ⊢
  generalize wApp = g5 at AP ⊢
  refine ⟨sl (Nat.zero_le _), fun p hpn => ?_⟩
  obtain ⟨⟨oa, ha⟩, ⟨oc, hc⟩⟩ := hd.isSome
  have pa : p ≠ a := fun e => by rw [e, ha] at hpn; cases hpn
  have pc : p ≠ c := fun e => by rw [e, hc] at hpn; cases hpn
  have pstep : ∀ {μ1 μ2 : Mh} {o : MO}, OnlyDeck μ1 μ2 a c → μ1 p = some o → μ2 p = some o := fun o h => (o p pa pc).trans h
  have pset : ∀ {μ1 : Mh} {o : MO} {n : Nat}, Dk μ1 a c n → Dk (updM μ1 p o) a c n := fun h => h.keep (updM_ne fun e => pa e.symm) (updM_ne fun e => pc e.symm)
  refine ⟨sl (Nat.le_of_ble_eq_true rfl), sl (Nat.le_of_ble_eq_true rfl), sl (Nat.le_of_ble_eq_true rfl), sl (Nat.le_of_ble_eq_true rfl), sl (Nat.le_of_ble_eq_true rfl), sl (Nat.le_of_ble_eq_true rfl), by omega, by omega, ?_⟩
  let kinds : List DV := [.tup [.str "number"], .tup [.str "number", .str "word"], .tup [.str "nothing", .str "number", .str "word"], .tup [.str "word"], .tup [.str "nothing", .str "number"]]
  let base (z5 z6 z7 z8 z9 z10 : Option DV) : Rho := [some (.obj a), some (.lst names), some (.int many), some (.obj p), some (.lst kinds), z5, z6, z7, z8, z9, z10]
  refine for_rule (I := fun j ρ μ' => (∃ z5 z6 z7 z8 z9 z10, ρ = base z5 z6 z7 z8 z9 z10) ∧ Dk μ' a c (m + j * 15) ∧ ∃ found, μ' p = some (.lst found) ∧ (∀ t ∈ found, GTab t) ∧ found.length + j = many.toNat) (n := 0) _ _ _ (fun x hx j ρ μ1 F hi hrt _ hnx _ => ?_) ⟨⟨none, none, none, none, none, none, rfl⟩, (pset hd).le (by rw [rngD_len]; omega), [], updM_same, (fun t ht => by cases ht), by rw [rngD_len]; simp⟩ (fun ρ μ1 hi => ?_)
  · obtain ⟨⟨z5, z6, z7, z8, z9, z10, rfl⟩, dk, found, hf, hft, hfl⟩ := hi
    obtain ⟨at', rfl, t0, t1⟩ := rngD_mem hx
    rw [Nat.succ_mul, ← Nat.add_assoc] at dk
    refine ⟨rfl, draw_c (m := m + j * 15 + 14) (by decide) (by decide) dk fun r μ2 r0 r1 d2 o2 => ?_⟩
    obtain ⟨cut, ec, lc, mc⟩ := cut_mid (ds := names) (lo := 5 + at') (hi := 6 + at' + r) (by omega) (by omega) (by rw [h16]; omega)
    show compW _ _ _ _ (cutD names (some (5 + at')) (some (6 + at' + r))) _ _ _
    rw [ec]
    refine comp_all (G := fun col => (∃ (y : Str) (ks : List Str), col = .tup [.str y, .tup (ks.map .str)] ∧ plainS y = true ∧ y.length ≤ 8) ∧ Siz 60 2 col) (I := fun i μ' => Dk μ' a c (m + j * 15 + 11 + i) ∧ μ' p = some (.lst found)) (n := 0) cut [] μ2 _ (fun y hy μ3 i P hi hP => ?_) (by rw [lc, List.length_nil]; exact sl (by omega)) (fun y hy => by cases hy) ⟨d2.le (by rw [lc]; omega), pstep o2 hf⟩ (fun cols μ3 hg hlen hi => ?_)
    · obtain ⟨s, rfl, ps, ls⟩ := hnm y (mc y hy)
      refine ⟨rfl, pick_c (y := .lst kinds) (Nat.succ_pos _) (Nat.le_of_ble_eq_true rfl) hi.1 fun kd μ4 hkd d4 o4 => ⟨sl (Nat.le_of_ble_eq_true rfl), ?_⟩⟩
      obtain ⟨ks, rfl, sk⟩ := kinds_ok kd hkd
      exact hP _ _ ⟨⟨s, ks, rfl, ps, ls⟩, (Siz.tup (Sizs.cons ((Siz.str ps).le ls (Nat.zero_le _)) (Sizs.cons sk nilS))).le (by omega) (by omega)⟩ ⟨d4, pstep o4 hi.2⟩
    · rw [lc, List.length_nil, Nat.zero_add] at hlen
      have gc : GCols cols := ⟨by omega, by omega, fun col hcol => (hg col hcol).1⟩
      have scols : Siz 200 3 (.tup cols) := by
        refine (Siz.tup (Sizs.all fun col hcol => (hg col hcol).2)).le ?_ (by omega)
        have : cols.length * (60 + 1) ≤ 3 * (60 + 1) := Nat.mul_le_mul_right _ gc.le
        omega
      obtain ⟨d3, hf3⟩ := hi
      refine ⟨rfl, draw_c (m := m + j * 15 + 10) (by decide) (by decide) d3 fun r2 μ4 s0 s1 d4 o4 => ?_⟩
      have hf4 := pstep o4 hf3
      -- from keys on
      have tail : ∀ kk : List Str, Siz 10 1 (.tup (kk.map .str)) →
          (wSeq (wAsg (wB wTuple (wCons (wB g4 (wCons (wLc (sTup (wVar 6)) (wgTup 2 (wgCons (wgName 9) (wgCons (wgName 10) wgNil))) (wTest (wBin g3 (wCall 2 drawW (wCons (wVar 0) (wCons (wC (.int 3)) wNil))) (wC (.int 0)))) (wVar 9) [9, 10]) wNil)) wNil)) (wgName 8))
    (wDrop (g5 (wVar 3) (wTup (wCons (wBin wIx (wVar 1) (wVar 5)) (wCons (wVar 6) (wCons (wVar 7) (wCons (wVar 8) wNil)))))))) F (base (some (.int at')) (some (.tup cols)) (some (.tup (kk.map .str))) z8 z9 z10) μ4 := by
        intro kk skk
        refine comp_rule (G := IsNm) (I := fun i μ' => Dk μ' a c (m + j * 15 + i) ∧ μ' p = some (.lst found)) (n := 0) cols [] μ4 _ (fun col hcol μ5 i acc P hi hacc hP hP2 => ?_) (by rw [List.length_nil]; exact sl (by have := gc.le; omega)) (fun y hy => by cases hy) ⟨d4.le (by have := gc.le; omega), hf4⟩ (fun zs μ5 hz hzl hi => ?_)
        · obtain ⟨y, ks, rfl, py, ly⟩ := gc.all col hcol
          refine ⟨rfl, rfl, rfl, draw_c (by decide) (by decide) hi.1 fun r3 μ6 u0 u1 d6 o6 => ?_⟩
          refine GT _ _ _ _ ?_
          cases hb : decide ((0 : Int) < r3) with
          | true => exact ⟨hacc, hP _ _ ⟨y, rfl, py, ly⟩ ⟨d6, pstep o6 hi.2⟩⟩
          | false => exact hP2 _ ⟨d6, pstep o6 hi.2⟩
        · rw [List.length_nil, Nat.zero_add] at hzl
          have hzl3 := gc.le
          refine SN _ _ _ (sort_names hz (by omega) fun es pm => ?_)
          have hes : ∀ z ∈ es, IsNm z := fun z he => hz z (pm.mem_iff.mp he)
          obtain ⟨ii, rfl⟩ := nm_strs hes
          obtain ⟨y, hy, ey⟩ := atI_nat (xs := names) (r := at') (by omega) (by rw [h16]; omega)
          obtain ⟨s, rfl, ps, ls⟩ := hnm y hy
          have sii : Siz 40 1 (.tup (ii.map .str)) := by
            refine (Siz.tup (Sizs.all fun z he => (hes z he).siz)).le ?_ (by omega)
            have : (ii.map DV.str).length * (8 + 1) ≤ 3 * (8 + 1) := Nat.mul_le_mul_right _ (by rw [pm.length_eq]; omega)
            omega
          refine AP (t := .tup [.str s, .tup cols, .tup (kk.map .str), .tup (ii.map .str)]) rfl hi.2 (by omega) (fun P hP => ?_) ?_
          · show atW (atI names at') _
            rw [ey]
            exact ⟨sl (Nat.le_of_ble_eq_true rfl), hP⟩
          · refine hnx _ _ ⟨⟨_, _, _, _, _, _, rfl⟩, pset (hi.1.le (by omega)), found ++ [.tup [.str s, .tup cols, .tup (kk.map .str), .tup (ii.map .str)]], updM_same, fun t ht => ?_, by rw [List.length_append, List.length_singleton]; omega⟩
            rcases List.mem_append.mp ht with ht | ht
            · exact hft t ht
            · rw [List.mem_singleton] at ht
              subst ht
              exact ⟨⟨s, cols, kk, ii, rfl, ps, ls, gc⟩, (Siz.tup (Sizs.cons ((Siz.str ps).le ls (Nat.zero_le _)) (Sizs.cons scols (Sizs.cons (skk.le (Nat.le_refl 10) (show 1 ≤ 3 by decide)) (Sizs.cons (sii.le (Nat.le_refl 40) (show 1 ≤ 3 by decide)) nilS))))).le (by omega) (by omega)⟩
      refine EQ _ _ _ _ ?_
      cases hk0 : decide (r2 = 0) with
      | false => exact ⟨sl (Nat.zero_le _), tail [] ((Siz.tup Sizs.nil).le (by omega) (by omega))⟩
      | true =>
        cases cols with
        | nil => exact absurd gc.ne (Nat.lt_irrefl 0)
        | cons col0 cols =>
          obtain ⟨y, ks, rfl, py, ly⟩ := gc.all col0 List.mem_cons_self
          show atW (atI (DV.tup [.str y, .tup (ks.map .str)] :: cols) 0) _
          rw [atI_zero]
          exact ⟨sl (Nat.le_of_ble_eq_true rfl), tail [y] ((Siz.tup (Sizs.cons ((Siz.str py).le ly (Nat.le_refl _)) nilS)).le (by omega) (by omega))⟩
  · obtain ⟨⟨z5, z6, z7, z8, z9, z10, rfl⟩, dk, found, hf, hft, hfl⟩ := hi
    refine SO hf (sort_tabs hft (by omega) fun es pm => ?_)
    have hl := pm.length_eq
    exact k es μ1 (by omega) (by omega) (fun t ht => hft t (pm.mem_iff.mp ht)) (dk.le (by omega))
end Qz

set_option Elab.async false
set_option linter.all false
set_option maxRecDepth 100000
set_option maxHeartbeats 1000000
/-! Qz12: what stands within a main part; rising lists of texts. -/
namespace Qz
open PySem L2 Dz PyProof.Rows

theorem pys_eq : ∀ a b : List Nat, PyData.eqvAll (toPys (pathL a)) (toPys (pathL b)) = decide (a = b)
  | [], [] => by simp [pathL, toPys, PyData.eqvAll]
  | [], _ :: _ => by simp [pathL, toPys, PyData.eqvAll]
  | _ :: _, [] => by simp [pathL, toPys, PyData.eqvAll]
  | i :: a, j :: b => by
    show PyData.eqvAll (.int (i : Int) :: toPys (pathL a)) (.int (j : Int) :: toPys (pathL b)) = _
    rw [PyData.eqvAll, pys_eq a b, PyData.eqv, show ((i : Int) == (j : Int)) = decide (i = j) by rw [Bool.eq_iff_iff, beq_iff_eq, decide_eq_true_eq]; omega]
    simp
theorem path_eq (a b : List Nat) : deepEq (pathD a) (pathD b) = decide (a = b) := by
  rw [← pys_eq]
  show PyData.eqv (.tuple (toPys (pathL a))) (.tuple (toPys (pathL b))) = _
  rw [PyData.eqv]
theorem take_path (s : List Nat) (n : Nat) : (pathL s).take n = pathL (s.take n) := by
  unfold pathL
  rw [List.map_take]
theorem prefix_take {a b : List Nat} : b.take a.length = a ↔ a <+: b := by
  constructor
  · intro h
    exact ⟨b.drop a.length, by
      have := List.take_append_drop a.length b
      rw [h] at this
      exact this⟩
  · rintro ⟨t, rfl⟩
    exact List.take_left
theorem allF_shift (l : List Nat) : ∀ (n : Nat) (d : DV) (r : List Nat), allF n d (l ++ r) = (allF n d r).map fun e => (l ++ e.1, e.2)
  | 0, _, _ => rfl
  | n + 1, d, r => by
    show (l ++ r, d) :: _ = (l ++ r, d) :: _
    congr 1
    rw [List.map_flatMap]
    refine flatMap_same fun p hp => ?_
    rw [List.append_assoc]
    exact allF_shift l n p.2 (r ++ p.1)
theorem allD_shift (l : List Nat) (d : DV) : allD d l = (allD d []).map fun e => (l ++ e.1, e.2) := by
  have := allF_shift l 15 d []
  rw [List.append_nil] at this
  exact this
theorem heardD_mem : ∀ {ts : List DV} {k : Nat} {e : List Nat × DV}, e ∈ heardD k ts ↔ ∃ i t, ts[i]? = some t ∧ e ∈ allD t [2, k + i]
  | [], k, e => by
    constructor
    · intro h; cases h
    · rintro ⟨i, t, h, _⟩; simp at h
  | t :: ts, k, e => by
    show e ∈ allD t [2, k] ++ heardD (k + 1) ts ↔ _
    rw [List.mem_append, heardD_mem]
    constructor
    · rintro (h | ⟨i, u, h1, h2⟩)
      · exact ⟨0, t, rfl, h⟩
      · exact ⟨i + 1, u, h1, by rw [show k + (i + 1) = k + 1 + i by omega]; exact h2⟩
    · rintro ⟨i, u, h1, h2⟩
      cases i with
      | zero =>
        have : t = u := by simpa using h1
        subst this
        exact .inl h2
      | succ i => exact .inr ⟨i, u, by simpa using h1, by rw [show k + 1 + i = k + (i + 1) by omega]; exact h2⟩
section
variable {refs heard order : List DV} {wh lim : DV}
theorem every_mem (h : QOk refs wh heard order lim) {e : List Nat × DV} : e ∈ everyD wh heard ↔ (isNone wh = false ∧ Part 12 wh ∧ e ∈ allD wh [1]) ∨ ∃ i t, heard[i]? = some t ∧ e ∈ allD t [2, i] := by
  unfold everyD
  rw [List.mem_append, heardD_mem]
  constructor
  · rintro (h1 | ⟨i, t, h1, h2⟩)
    · cases hn : isNone wh with
      | true => rw [hn, if_pos rfl] at h1; cases h1
      | false =>
        rw [hn, if_neg Bool.false_ne_true] at h1
        refine .inl ⟨rfl, ?_, h1⟩
        rcases h.hw with rfl | hp
        · cases hn
        · exact hp
    · exact .inr ⟨i, t, h1, by rw [Nat.zero_add] at h2; exact h2⟩
  · rintro (⟨hn, _, h1⟩ | ⟨i, t, h1, h2⟩)
    · left
      rw [hn, if_neg Bool.false_ne_true]
      exact h1
    · exact .inr ⟨i, t, h1, by rw [Nat.zero_add]; exact h2⟩
/-- each part that is told stands at its place -/
theorem every_at (h : QOk refs wh heard order lim) {e : List Nat × DV} (he : e ∈ everyD wh heard) : atP (quest refs wh heard order lim) e.1 = some e.2 ∧ ∃ n, Part n e.2 ∧ e.1.length ≤ 30 := by
  rcases (every_mem h).mp he with ⟨_, hp, h1⟩ | ⟨i, t, h1, h2⟩
  · obtain ⟨rel, m, e1, e2, e3, _, e5, _⟩ := allD_at hp (by decide) e h1
    refine ⟨?_, m, e3, by rw [e1, List.length_append]; show 1 + rel.length ≤ 30; omega⟩
    rw [e1, atP_append [1] rel (quest refs wh heard order lim) wh rfl]
    exact e2
  · have ht := h.hs t (List.mem_of_getElem? h1)
    obtain ⟨rel, m, e1, e2, e3, _, e5, _⟩ := allD_at ht (by decide) e h2
    refine ⟨?_, m, e3, by rw [e1, List.length_append]; show 2 + rel.length ≤ 30; omega⟩
    rw [e1, atP_append [2, i] rel (quest refs wh heard order lim) t ?_]
    · exact e2
    · show (match heard[i]? with | some e => atP e [] | none => none) = some t
      rw [h1]
      rfl
/-- what belongs to a main part -/
theorem main_at (h : QOk refs wh heard order lim) {lead : List Nat} (hl : lead ∈ mainP wh heard) : ∃ q, atP (quest refs wh heard order lim) lead = some q ∧ Part 6 q ∧ (∀ i ∈ lead, i < 1000) ∧ lead.length ≤ 30 ∧ ∀ x, (∃ e ∈ everyD wh heard, lead <+: e.1 ∧ e.2 = x) ↔ ∃ e ∈ allD q [], e.2 = x := by
  have hh := h.hlen
  unfold mainP at hl
  rcases List.mem_append.mp hl with hl | hl
  · rw [List.mem_map] at hl
    obtain ⟨f, hf, rfl⟩ := hl
    have h6 := h.leaf f hf
    unfold leavesW at hf
    cases hn : isNone wh with
    | true => rw [hn, if_pos rfl] at hf; cases hf
    | false =>
      rw [hn, if_neg Bool.false_ne_true] at hf
      have hp : Part 12 wh := by
        rcases h.hw with rfl | hp
        · cases hn
        · exact hp
      have hfa := (leaves_all hp (by decide) f hf).1
      obtain ⟨rel, m, e1, e2, e3, _, e5, e6⟩ := allD_at hp (by decide) f hfa
      have hev : f ∈ everyD wh heard := (every_mem h).mpr (.inl ⟨hn, hp, hfa⟩)
      refine ⟨f.2, (every_at h hev).1, h6, fun i hi => ?_, by rw [e1, List.length_append]; show 1 + rel.length ≤ 30; omega, fun x => ⟨?_, ?_⟩⟩
      · rw [e1] at hi
        rcases List.mem_append.mp hi with hi | hi
        · rw [List.mem_singleton] at hi
          omega
        · exact e6 i hi
      · rintro ⟨e, he, hpre, rfl⟩
        rcases (every_mem h).mp he with ⟨_, _, h1⟩ | ⟨i, t, h1, h2⟩
        · have := allD_pre hp (by decide) f hfa e h1 hpre
          rw [allD_shift, List.mem_map] at this
          obtain ⟨g, hg, e'⟩ := this
          exact ⟨g, hg, by rw [← e']⟩
        · exfalso
          have ht := h.hs t (List.mem_of_getElem? h1)
          obtain ⟨rel2, m2, e1', _⟩ := allD_at ht (by decide) e h2
          rw [e1, e1'] at hpre
          obtain ⟨t', ht'⟩ := hpre
          exact absurd (List.cons.inj ht').1 (by decide)
      · rintro ⟨g, hg, rfl⟩
        refine ⟨(f.1 ++ g.1, g.2), (every_mem h).mpr (.inl ⟨hn, hp, allD_sub hp (by decide) f hfa _ ?_⟩), List.prefix_append _ _, rfl⟩
        rw [allD_shift]
        exact List.mem_map.mpr ⟨g, hg, rfl⟩
  · rw [List.mem_map] at hl
    obtain ⟨k, hk, rfl⟩ := hl
    rw [List.mem_range] at hk
    have hgt := List.getElem?_eq_getElem hk
    have ht := h.hs heard[k] (List.getElem_mem hk)
    have hev : ([2, k], heard[k]) ∈ everyD wh heard := (every_mem h).mpr (.inr ⟨k, _, hgt, allD_self ht (by decide)⟩)
    refine ⟨heard[k], (every_at h hev).1, ht, fun i hi => ?_, (by show 2 ≤ 30; decide), fun x => ⟨?_, ?_⟩⟩
    · simp only [List.mem_cons, List.not_mem_nil, or_false] at hi
      omega
    · rintro ⟨e, he, hpre, rfl⟩
      rcases (every_mem h).mp he with ⟨_, hp, h1⟩ | ⟨i, t, h1, h2⟩
      · exfalso
        obtain ⟨rel2, m2, e1', _⟩ := allD_at hp (by decide) e h1
        rw [e1'] at hpre
        obtain ⟨t', ht'⟩ := hpre
        exact absurd (List.cons.inj ht').1 (by decide)
      · have ht2 := h.hs t (List.mem_of_getElem? h1)
        obtain ⟨rel2, m2, e1', _⟩ := allD_at ht2 (by decide) e h2
        rw [e1'] at hpre
        obtain ⟨t', ht'⟩ := hpre
        have hki : k = i := (List.cons.inj (List.cons.inj ht').2).1
        subst hki
        rw [hgt] at h1
        have : heard[k] = t := by simpa using h1
        subst this
        rw [allD_shift, List.mem_map] at h2
        obtain ⟨g, hg, e'⟩ := h2
        exact ⟨g, hg, by rw [← e']⟩
    · rintro ⟨g, hg, rfl⟩
      refine ⟨([2, k] ++ g.1, g.2), (every_mem h).mpr (.inr ⟨k, _, hgt, ?_⟩), List.prefix_append _ _, rfl⟩
      rw [allD_shift]
      exact List.mem_map.mpr ⟨g, hg, rfl⟩
end
/-! ### rising texts -/
abbrev leS (a b : Str) : Prop := PySem.Spec.ltCps b.cps.toList a.cps.toList = false
theorem leS_iff {a b : Str} : leS a b ↔ a.cps.toList ≤ b.cps.toList := by
  unfold leS
  rw [ltCps_eq, decide_eq_false_iff_not, List.not_lt]
theorem leS_trans {a b c : Str} (h : leS a b) (h' : leS b c) : leS a c := leS_iff.mpr (List.le_trans (leS_iff.mp h) (leS_iff.mp h'))
theorem leS_anti {a b : Str} (h : leS a b) (h' : leS b a) : a = b := by
  have := List.le_antisymm (leS_iff.mp h) (leS_iff.mp h')
  exact PySem.W.str_of_cps this
theorem rising_pair : ∀ {p : Str} {l : List Str}, risingS p l = true → (p :: l).Pairwise leS
  | p, [], _ => List.pairwise_singleton _ _
  | p, x :: r, h => by
    have h' : (!PySem.Spec.ltCps x.cps.toList p.cps.toList && risingS x r) = true := h
    rw [Bool.and_eq_true, Bool.not_eq_true'] at h'
    have ih := rising_pair h'.2
    refine List.pairwise_cons.mpr ⟨fun y hy => ?_, ih⟩
    rcases List.mem_cons.mp hy with rfl | hy
    · exact h'.1
    · exact leS_trans h'.1 (List.rel_of_pairwise_cons ih hy)
theorem sorted_pair : ∀ {l : List Str}, sortedS l = true → l.Pairwise leS
  | [], _ => .nil
  | _ :: _, h => rising_pair h
theorem rising_unique {xs ys : List Str} (h1 : xs.Nodup) (h2 : ys.Nodup) (p1 : xs.Pairwise leS) (p2 : ys.Pairwise leS) (h : ∀ k, k ∈ xs ↔ k ∈ ys) : xs = ys := by
  have pm : xs.Perm ys := (List.perm_ext_iff_of_nodup h1 h2).mpr h
  exact pm.eq_of_pairwise (fun a b _ _ h h' => leS_anti h h') p1 p2
theorem leD_str {a b : Str} : leD (.str a) (.str b) = true ↔ leS a b := by
  unfold leD
  rw [show toPy (.str b) = .str b from rfl, show toPy (.str a) = .str a from rfl, PySem.W.dataLt_str, Bool.not_eq_true']
  unfold leS
  rw [ltCps_eq]
def unS (d : DV) : Str := match d with | .str s => s | _ => ⟨#[]⟩
theorem unS_map (l : List Str) : (l.map DV.str).map unS = l := by
  rw [List.map_map]
  exact List.map_id l
/-- sorted(names) -/
theorem sort_strs {l : List Str} {μ : Mh} {P : DV → Mh → Prop} (hl : l.length ≤ 1000) (k : ∀ es : List Str, es.Perm l → es.Pairwise leS → P (.lst (es.map .str)) μ) : sortW (l.map .str) μ P := by
  have no : ∀ l : List Str, noObjs (l.map DV.str) = true := fun l => noObjs_mem fun d hd => by
    rw [List.mem_map] at hd
    obtain ⟨x, _, rfl⟩ := hd
    rfl
  refine ⟨no l, ?_, ?_, fun d hd => ?_, by rw [List.length_map]; exact sl (by omega), fun es pm pw => ?_⟩
  · unfold allAlike
    rw [List.all_eq_true]
    intro x hx
    rw [List.all_eq_true]
    intro y hy
    rw [List.mem_map] at hx hy
    obtain ⟨s, _, rfl⟩ := hx
    obtain ⟨t, _, rfl⟩ := hy
    rfl
  · unfold sortable
    rw [Bool.or_eq_true]
    right
    rw [List.all_eq_true]
    intro x hx
    rw [List.mem_map] at hx
    obtain ⟨s, _, rfl⟩ := hx
    rfl
  · rw [List.mem_map] at hd
    obtain ⟨s, _, rfl⟩ := hd
    exact Nat.zero_le _
  · have hst : ∀ z ∈ es, ∃ s, z = DV.str s := fun z hz => by
      have := pm.mem_iff.mp hz
      rw [List.mem_map] at this
      obtain ⟨s, _, rfl⟩ := this
      exact ⟨s, rfl⟩
    have hes : ∃ zs : List Str, es = zs.map .str := by
      clear pm pw
      induction es with
      | nil => exact ⟨[], rfl⟩
      | cons z es ih =>
        obtain ⟨s, rfl⟩ := hst z List.mem_cons_self
        obtain ⟨zs, rfl⟩ := ih fun y hy => hst y (List.mem_cons_of_mem _ hy)
        exact ⟨s :: zs, rfl⟩
    obtain ⟨zs, rfl⟩ := hes
    refine k zs ?_ ?_
    · have e := pm.map unS
      rw [unS_map, unS_map] at e
      exact e
    · rw [List.pairwise_map] at pw
      exact pw.imp fun h => leD_str.mp h
end Qz

set_option Elab.async false
set_option linter.all false
set_option maxRecDepth 100000
set_option maxHeartbeats 1000000
/-! Qz13: the columns of a world. -/
namespace Qz
open PySem L2 Dz

theorem valD_append {kvs : List (Key × DV)} {k k' : Key} {d : DV} (h : (kvs.any fun kv => decide (kv.1 = k)) = false) : valD (kvs ++ [(k, d)]) k' = if k = k' then some d else valD kvs k' := by
  unfold valD
  rw [List.find?_append]
  by_cases e : k = k'
  · subst e
    have hn : (kvs.find? fun kv => decide (kv.1 = k)) = none := by
      rw [List.find?_eq_none]
      intro x hx hh
      rw [List.any_eq_false] at h
      exact h x hx hh
    rw [hn, if_pos rfl]
    simp
  · rw [if_neg e]
    have : ([(k, d)] : List (Key × DV)).find? (fun kv => decide (kv.1 = k')) = none := by simp [e]
    rw [this]
    simp
abbrev setK (k : Key) (d : DV) (kv : Key × DV) : Key × DV := if kv.1 = k then (kv.1, d) else kv
theorem setK_fst {k : Key} {d : DV} (x : Key × DV) : (setK k d x).1 = x.1 := by
  unfold setK
  split <;> rfl
theorem valD_cons {x : Key × DV} {kvs : List (Key × DV)} {k : Key} : valD (x :: kvs) k = if x.1 = k then some x.2 else valD kvs k := by
  unfold valD
  by_cases h : x.1 = k
  · rw [List.find?_cons_of_pos (by simpa using h), if_pos h]
    rfl
  · rw [List.find?_cons_of_neg (by simpa using h), if_neg h]
theorem valD_map_ne {k k' : Key} {d : DV} (h : ¬ k = k') : ∀ kvs : List (Key × DV), valD (kvs.map (setK k d)) k' = valD kvs k'
  | [] => rfl
  | x :: kvs => by
    rw [List.map_cons, valD_cons, valD_cons, setK_fst, valD_map_ne h kvs]
    by_cases e : x.1 = k'
    · have e2 : ¬ x.1 = k := fun z => h (z.symm.trans e)
      have : setK k d x = x := if_neg e2
      rw [this]
    · rw [if_neg e, if_neg e]
theorem valD_map_eq {k : Key} {d : DV} : ∀ kvs : List (Key × DV), (kvs.any fun kv => decide (kv.1 = k)) = true → valD (kvs.map (setK k d)) k = some d
  | [], h => by cases h
  | x :: kvs, h => by
    rw [List.map_cons, valD_cons, setK_fst]
    by_cases e : x.1 = k
    · rw [if_pos e]
      have : setK k d x = (x.1, d) := if_pos e
      rw [this]
    · rw [if_neg e]
      refine valD_map_eq kvs ?_
      rw [List.any_cons] at h
      simpa [e] using h
theorem valD_put {kvs : List (Key × DV)} {k k' : Key} {d : DV} : valD (putD kvs k d) k' = if k = k' then some d else valD kvs k' := by
  unfold putD
  cases h : kvs.any fun kv => decide (kv.1 = k) with
  | false => rw [if_neg Bool.false_ne_true]; exact valD_append h
  | true =>
    rw [if_pos rfl]
    by_cases e : k = k'
    · subst e
      rw [if_pos rfl]
      exact valD_map_eq kvs h
    · rw [if_neg e]
      exact valD_map_ne e kvs
theorem len_put {kvs : List (Key × DV)} {k : Key} {d : DV} : (putD kvs k d).length ≤ kvs.length + 1 := by
  unfold putD
  split
  · rw [List.length_map]; omega
  · rw [List.length_append]; exact Nat.le_refl _
theorem tab_put {kv : List (Key × DV)} {x y : Str} {cs : List DV} (h : IsTab kv y ∨ x = y) (hx : 0 < cs.length ∧ cs.length ≤ 100 ∧ (∀ d ∈ cs, IsNm d) ∧ plainS x = true ∧ x.length ≤ 8) : IsTab (putD kv (.inr x) (.lst cs)) y := by
  by_cases e : x = y
  · subst e
    exact ⟨cs, by rw [valD_put, if_pos rfl], hx⟩
  · rcases h with ⟨cs', h1, h2⟩ | h
    · refine ⟨cs', ?_, h2⟩
      rw [valD_put, if_neg (fun z => e (Sum.inr.inj z))]
      exact h1
    · exact absurd h e
theorem put_st {q : Addr} {tabs : List DV} {kv : List (Key × DV)} {x : Str} {cs : DV} {wv : WE} {E : DEnds} {ρ : Rho} {μ : Mh} (h1 : ρ[5]? = some (some (world tabs q))) (h2 : ρ[7]? = some (some (.str x))) (h : μ q = some (.dct kv)) (l : kv.length ≤ 1000) (hw : ∀ P : DV → Mh → Prop, P cs μ → wv ρ μ P) (k : E.nx ρ (updM μ q (.dct (putD kv (.inr x) cs)))) :
    wDPut (wBin wDGet (wVar 5) (wC (.str "columns"))) (wVar 7) wv E ρ μ := by
  have G := @get_columns
  unfold wDPut
  generalize wDGet = g at G ⊢
  have v5 : ∀ P : DV → Mh → Prop, P (world tabs q) μ → wVar 5 ρ μ P := fun P hP => by
    unfold wVar
    rw [h1]
    exact hP
  have v7 : ∀ P : DV → Mh → Prop, P (.str x) μ → wVar 7 ρ μ P := fun P hP => by
    unfold wVar
    rw [h2]
    exact hP
  refine hw _ ?_
  refine v5 _ ?_
  refine G (tabs := tabs) (q := q) ?_
  refine v7 _ ?_
  show (match μ q with | some (.dct kvs) => _ | _ => False)
  rw [h]
  exact ⟨by rw [sizeLine_eq]; omega, k⟩
theorem cut_nd {ds : List DV} {lo hi : Option Int} (h : ds.Nodup) : (cutD ds lo hi).Nodup := by
  unfold cutD
  exact h.sublist ((List.take_sublist _ _).trans (List.drop_sublist _ _))
/-- the columns of the world, table by table -/
theorem cols_step {tx : Str} {tcols : List DV} {ρ : Rho} {μ : Mh} {s t : Nat} (gc : GCols tcols) (h8 : ρ[8]? = some (some (.tup tcols))) (hst : s ≠ t) (hs : s < ρ.length) (ht : t < ρ.length) (hs8 : s ≠ 8) (ht8 : t ≠ 8) (P : DV → Mh → Prop)
    (hP : P (.lst (tcols.map fun d => match d with | .tup [.str y, _] => .str y | _ => .none)) μ) : wLc (sTup (wVar 8)) (wgTup 2 (wgCons (wgName s) (wgCons (wgName t) wgNil))) wYes (wVar s) [s, t] ρ μ P := by
  show (match ρ[8]? with | some (some d) => _ | _ => False)
  rw [h8]
  let ρ' : Rho := wipeD ρ [s, t]
  have hlen : ρ'.length = ρ.length := by
    show ((ρ.set t none).set s none).length = _
    rw [List.length_set, List.length_set]
  have hcols := gc.le
  let f : DV → DV := fun d => match d with | .tup [.str y, _] => .str y | _ => .none
  refine comp_pure (fun _ => true) f tcols [] _ (fun col hcol acc P hacc hP => ?_) (by rw [List.length_nil]; exact sl (by omega)) (by rw [List.filter_eq_self.mpr fun _ _ => rfl, List.nil_append]; exact hP)
  obtain ⟨y, ks, rfl, py, ly⟩ := gc.all col hcol
  refine ⟨rfl, rfl, ?_⟩
  show (match ((ρ'.set s (some (.str y))).set t (some (.tup (ks.map .str))))[s]? with | some (some d) => _ | _ => False)
  rw [List.getElem?_set_ne (fun z => hst z.symm), List.getElem?_set_self (by rw [hlen]; exact hs)]
  exact ⟨hacc, hP⟩
theorem cols_ok {tcols : List DV} (gc : GCols tcols) : 0 < (tcols.map fun d => match d with | .tup [.str y, _] => DV.str y | _ => .none).length ∧ (tcols.map fun d => match d with | .tup [.str y, _] => DV.str y | _ => .none).length ≤ 100 ∧ ∀ d ∈ (tcols.map fun d => match d with | .tup [.str y, _] => DV.str y | _ => .none), IsNm d := by
  have hcols := gc.le
  refine ⟨by rw [List.length_map]; exact gc.ne, by rw [List.length_map]; omega, fun d hd => ?_⟩
  rw [List.mem_map] at hd
  obtain ⟨col, hcol, rfl⟩ := hd
  obtain ⟨y, ks, rfl, py, ly⟩ := gc.all col hcol
  exact ⟨y, rfl, py, ly⟩
end Qz

set_option Elab.async false
set_option linter.all false
set_option maxRecDepth 100000
/-! K21w: what the defs of the text do, over plain data (printed by gen.py). -/
namespace K21
open PySem L2 Dz

def w_part_at : WS :=
  (wSeq (wAsg (wVar 0) (wgName 2))
    (wSeq (wFor (sTup (wVar 1)) (wgName 3) (wAsg (wBin wIx (wVar 2) (wVar 3)) (wgName 2)))
    (wRet (wVar 2))))

def w_straight_parts (f_part_at : WF) : WS :=
  (wRet (wLc (sTup (wIxK [("column", (.tup [])), ("value", (.tup [])), ("plus", (.tup [(.tup [(.int 1)])])), ("less", (.tup [(.tup [(.int 1)]), (.tup [(.int 2)])])), ("most", (.tup [(.tup [(.int 1)]), (.tup [(.int 2)])])), ("same", (.tup [(.tup [(.int 1)]), (.tup [(.int 2)])])), ("is", (.tup [(.tup [(.int 1)])])), ("not", (.tup [(.tup [(.int 1)])])), ("and", (.tup [(.tup [(.int 1)]), (.tup [(.int 2)])])), ("or", (.tup [(.tup [(.int 1)]), (.tup [(.int 2)])])), ("exists", (.tup [(.tup [(.int 1), (.int 1)])])), ("only", (.tup [(.tup [(.int 1), (.int 1)]), (.tup [(.int 2)])])), ("first", (.tup [(.tup [(.int 1), (.int 1)]), (.tup [(.int 2)])]))] (wBin wIx (wVar 0) (wC (.int 0))))) (wgName 1) wYes (wTup (wCons (wVar 1) (wCons (wCall 2 f_part_at (wCons (wVar 0) (wCons (wVar 1) wNil))) wNil))) [1]))

def w_all_parts (f_straight_parts : WF) : WS :=
  wPure (wSeq (wPar 1 2 (wCons (wLstM wNil) (wCons (wLstM (wCons (wTup (wCons (wTup wNil) (wCons (wVar 0) wNil))) wNil)) wNil)))
    (wSeq (wWhile (wTest (wBin wNeL (wVar 2) (wLst wNil))) (wSeq (wAsg (wUn wPop (wVar 2)) (wgTup 2 (wgCons (wgName 3) (wgCons (wgName 4) wgNil))))
    (wSeq (wDrop (wApp (wVar 1) (wTup (wCons (wVar 3) (wCons (wVar 4) wNil)))))
    (wDrop (wExt (wVar 2) (wRev (wLc (sLst (wCall 1 f_straight_parts (wCons (wVar 4) wNil))) (wgTup 2 (wgCons (wgName 5) (wgCons (wgName 6) wgNil))) wYes (wTup (wCons (wBin wAdd (wVar 3) (wVar 5)) (wCons (wVar 6) wNil))) [5, 6])))))))
    (wRet (wFrz (wVar 1)))))

def w_columns_in (f_all_parts : WF) : WS :=
  (wRet (wLc (sLst (wCall 1 f_all_parts (wCons (wVar 0) wNil))) (wgTup 2 (wgCons (wgName 1) (wgCons (wgName 2) wgNil))) (wTest (wBin wEqL (wBin wIx (wVar 2) (wC (.int 0))) (wC (.str "column")))) (wSl (wVar 2) (wPart (wC (.int 1))) wNoPart) [1, 2]))

def w_leaves_of (f_straight_parts : WF) : WS :=
  wPure (wSeq (wPar 2 3 (wCons (wLstM wNil) (wCons (wLstM (wCons (wTup (wCons (wVar 1) (wCons (wVar 0) wNil))) wNil)) wNil)))
    (wSeq (wWhile (wTest (wBin wNeL (wVar 3) (wLst wNil))) (wSeq (wAsg (wUn wPop (wVar 3)) (wgTup 2 (wgCons (wgName 4) (wgCons (wgName 5) wgNil))))
    (wIfS (wTest (wBin wIn (wBin wIx (wVar 5) (wC (.int 0))) (wC (.tup [(.str "not"), (.str "and"), (.str "or")])))) (wDrop (wExt (wVar 3) (wRev (wLc (sLst (wCall 1 f_straight_parts (wCons (wVar 5) wNil))) (wgTup 2 (wgCons (wgName 6) (wgCons (wgName 7) wgNil))) wYes (wTup (wCons (wBin wAdd (wVar 4) (wVar 6)) (wCons (wVar 7) wNil))) [6, 7])))) (wDrop (wApp (wVar 2) (wVar 4))))))
    (wRet (wFrz (wVar 2)))))

def w_main_parts (f_leaves_of : WF) : WS :=
  (wSeq (wAsg (wIf (wTest (wBin wIsN (wBin wIx (wVar 0) (wC (.int 1))) (wC .none))) (wLst wNil) (wCall 2 f_leaves_of (wCons (wBin wIx (wVar 0) (wC (.int 1))) (wCons (wTup (wCons (wC (.int 1)) wNil)) wNil)))) (wgName 1))
    (wRet (wB wTuple (wCons (wBin wAdd (wVar 1) (wLc (sRng1 (wB wLen (wCons (wBin wIx (wVar 0) (wC (.int 2))) wNil))) (wgName 2) wYes (wTup (wCons (wC (.int 2)) (wCons (wVar 2) wNil))) [2])) wNil))))

def w_named (f_columns_in : WF) (f_part_at : WF) : WS :=
  (wSeq (wAsg (wLc (sTup (wBin wIx (wVar 0) (wC (.int 0)))) (wgTup 2 (wgCons (wgName 3) (wgCons (wgName 4) wgNil))) wYes (wVar 3) [3, 4]) (wgName 2))
    (wRet (wB wTuple (wCons (wSortSc (sLst (wCall 1 f_columns_in (wCons (wCall 2 f_part_at (wCons (wVar 0) (wCons (wVar 1) wNil))) wNil))) (wgTup 2 (wgCons (wgName 3) (wgCons (wgName 5) wgNil))) (wTest (wBin wIn (wVar 3) (wVar 2))) (wVar 3) [3, 5]) wNil))))

def w_law_deck : WS :=
  (wSeq (wPar 1 2 (wCons (wB wList (wCons (wSl (wVar 0) wNoPart (wPart (wC (.int 63)))) wNil)) (wCons (wC (.int 77211)) wNil)))
    (wSeq (wFor (sLst (wVar 1)) (wgName 3) (wAsg (wBin wMod (wBin wAdd (wBin wAdd (wBin wMul (wVar 2) (wC (.int 48271))) (wBin wMod (wVar 3) (wC (.int 2147483629)))) (wC (.int 41))) (wC (.int 2147483587))) (wgName 2)))
    (wRet (wDctM [((.inr "cells"), (wRevM (wVar 1))), ((.inr "total"), (wVar 2)), ((.inr "draws"), (wC (.int 0)))]))))

def w_law_draw : WS :=
  (wSeq (wPar 2 3 (wCons (wBin wAdd (wBin wDGet (wVar 0) (wC (.str "draws"))) (wC (.int 1))) (wCons (wBin wDGet (wVar 0) (wC (.str "total"))) wNil)))
    (wSeq (wDPut (wVar 0) (wC (.str "draws")) (wVar 2))
    (wSeq (wIfS (wTest (wBin wNeL (wBin wDGet (wVar 0) (wC (.str "cells"))) (wLst wNil))) (wSeq (wAsg (wUn wPop (wBin wDGet (wVar 0) (wC (.str "cells")))) (wgName 3))
    (wSeq (wIfS (wTest (wBin wGe (wVar 3) (wBin wPow (wC (.int 10)) (wC (.int 18))))) (wSeq (wDrop (wApp (wBin wDGet (wVar 0) (wC (.str "cells"))) (wBin wDiv (wVar 3) (wVar 1))))
    (wRet (wBin wMod (wVar 3) (wVar 1)))) wNext)
    (wAsg (wBin wAdd (wVar 3) (wBin wDGet (wVar 0) (wC (.str "total")))) (wgName 3)))) wNext)
    (wSeq (wAsg (wBin wMod (wBin wMul (wBin wAdd (wBin wAdd (wBin wMod (wVar 3) (wC (.int 2147483629))) (wBin wMul (wBin wMul (wC (.int 60209)) (wVar 2)) (wVar 2))) (wC (.int 53))) (wC (.int 40692))) (wC (.int 2147483647))) (wgName 4))
    (wSeq (wAsg (wBin wMod (wBin wAdd (wBin wAdd (wBin wMul (wVar 4) (wVar 4)) (wBin wMul (wC (.int 69761)) (wVar 2))) (wC (.int 37))) (wC (.int 2147483587))) (wgName 4))
    (wRet (wBin wMod (wBin wDiv (wBin wMod (wBin wMul (wVar 4) (wC (.int 39373))) (wC (.int 2147483563))) (wC (.int 64))) (wVar 1))))))))

def w_law_pick (f_law_draw : WF) : WS :=
  (wRet (wBin wIx (wVar 1) (wCall 2 f_law_draw (wCons (wVar 0) (wCons (wB wLen (wCons (wVar 1) wNil)) wNil)))))

def w_law_names (f_law_draw : WF) : WS :=
  (wSeq (wAsg (wTup (wCons (wCall 2 f_law_draw (wCons (wVar 0) (wCons (wC (.int 17)) wNil))) (wCons (wCall 2 f_law_draw (wCons (wVar 0) (wCons (wC (.int 2)) wNil))) wNil))) (wgTup 2 (wgCons (wgName 2) (wgCons (wgName 3) wgNil))))
    (wSeq (wAsg (wSplit (wC (.str "less is plus from in only where not first nothing exists or t tell limit and order")) (wC (.str " "))) (wgName 4))
    (wRet (wLc (sRng1 (wVar 1)) (wgName 5) wYes (wBin wIx (wBin wIx (wLst (wCons (wVar 4) (wCons (wC (.str "abcdefghijklmnopq")) wNil))) (wVar 3)) (wBin wMod (wBin wAdd (wVar 2) (wBin wMul (wC (.int 5)) (wVar 5))) (wC (.int 17)))) [5]))))

def w_law_schema (f_law_draw : WF) (f_law_pick : WF) : WS :=
  (wSeq (wAsg (wLstM wNil) (wgName 3))
    (wSeq (wAsg (wLst (wCons (wTup (wCons (wC (.str "number")) wNil)) (wCons (wTup (wCons (wC (.str "number")) (wCons (wC (.str "word")) wNil))) (wCons (wTup (wCons (wC (.str "nothing")) (wCons (wC (.str "number")) (wCons (wC (.str "word")) wNil)))) (wCons (wTup (wCons (wC (.str "word")) wNil)) (wCons (wTup (wCons (wC (.str "nothing")) (wCons (wC (.str "number")) wNil))) wNil)))))) (wgName 4))
    (wSeq (wFor (sRng1 (wVar 2)) (wgName 5) (wSeq (wAsg (wB wTuple (wCons (wLc (sLst (wSl (wVar 1) (wPart (wBin wAdd (wC (.int 5)) (wVar 5))) (wPart (wBin wAdd (wBin wAdd (wC (.int 6)) (wVar 5)) (wCall 2 f_law_draw (wCons (wVar 0) (wCons (wC (.int 3)) wNil))))))) (wgName 9) wYes (wTup (wCons (wVar 9) (wCons (wCall 2 f_law_pick (wCons (wVar 0) (wCons (wVar 4) wNil))) wNil))) [9]) wNil)) (wgName 6))
    (wSeq (wAsg (wIf (wTest (wBin wEqL (wCall 2 f_law_draw (wCons (wVar 0) (wCons (wC (.int 6)) wNil))) (wC (.int 0)))) (wTup (wCons (wBin wIx (wBin wIx (wVar 6) (wC (.int 0))) (wC (.int 0))) wNil)) (wTup wNil)) (wgName 7))
    (wSeq (wAsg (wB wTuple (wCons (wB wSorted (wCons (wLc (sTup (wVar 6)) (wgTup 2 (wgCons (wgName 9) (wgCons (wgName 10) wgNil))) (wTest (wBin wGt (wCall 2 f_law_draw (wCons (wVar 0) (wCons (wC (.int 3)) wNil))) (wC (.int 0)))) (wVar 9) [9, 10]) wNil)) wNil)) (wgName 8))
    (wDrop (wApp (wVar 3) (wTup (wCons (wBin wIx (wVar 1) (wVar 5)) (wCons (wVar 6) (wCons (wVar 7) (wCons (wVar 8) wNil)))))))))))
    (wRet (wB wTuple (wCons (wB wSorted (wCons (wVar 3) wNil)) wNil))))))

def w_law_any_value (f_law_pick : WF) : WS :=
  (wSeq (wAsg (wCall 2 f_law_pick (wCons (wVar 0) (wCons (wVar 1) wNil))) (wgName 2))
    (wSeq (wIfS (wTest (wBin wEqL (wVar 2) (wC (.str "nothing")))) (wRet (wC .none)) wNext)
    (wSeq (wIfS (wTest (wBin wEqL (wVar 2) (wC (.str "word")))) (wRet (wCall 2 f_law_pick (wCons (wVar 0) (wCons (wLst (wCons (wC (.str "a")) (wCons (wC (.str "b")) (wCons (wC (.str "less")) wNil)))) wNil)))) wNext)
    (wRet (wCall 2 f_law_pick (wCons (wVar 0) (wCons (wLst (wCons (wC (.int 0)) (wCons (wC (.int 1)) (wCons (wC (.int 2)) (wCons (wC (.int 2)) (wCons (wC (.int 3)) (wCons (wBin wPow (wC (.int 10)) (wC (.int 12))) (wCons (wBin wSub (wC (.int 1)) (wBin wPow (wC (.int 10)) (wC (.int 12)))) wNil)))))))) wNil)))))))

def w_law_column (f_law_pick : WF) : WS :=
  (wSeq (wAsg (wCall 2 f_law_pick (wCons (wVar 0) (wCons (wVar 2) wNil))) (wgTup 2 (wgCons (wgName 3) (wgCons (wgName 4) wgNil))))
    (wRet (wTup (wCons (wC (.str "column")) (wCons (wVar 3) (wCons (wCall 2 f_law_pick (wCons (wVar 0) (wCons (wBin wDGet (wBin wDGet (wVar 1) (wC (.str "columns"))) (wVar 4)) wNil))) wNil))))))

def w_law_some_term (f_law_draw : WF) (f_law_column : WF) (f_law_any_value : WF) (f_law_some_term : WF) (f_law_pick : WF) : WS :=
  (wSeq (wAsg (wCall 2 f_law_draw (wCons (wVar 0) (wCons (wC (.int 9)) wNil))) (wgName 4))
    (wSeq (wIfS (wTest (wBin wLtA (wVar 4) (wC (.int 5)))) (wRet (wCall 3 f_law_column (wCons (wVar 0) (wCons (wVar 1) (wCons (wVar 2) wNil))))) wNext)
    (wSeq (wIfS (wOrT (wTest (wBin wLtA (wVar 4) (wC (.int 7)))) (wTest (wBin wEqL (wVar 3) (wC (.int 0))))) (wRet (wTup (wCons (wC (.str "value")) (wCons (wCall 2 f_law_any_value (wCons (wVar 0) (wCons (wTup (wCons (wC (.str "nothing")) (wCons (wC (.str "number")) (wCons (wC (.str "number")) (wCons (wC (.str "word")) wNil))))) wNil))) wNil)))) wNext)
    (wRet (wTup (wCons (wC (.str "plus")) (wCons (wCall 4 f_law_some_term (wCons (wVar 0) (wCons (wVar 1) (wCons (wVar 2) (wCons (wBin wSub (wVar 3) (wC (.int 1))) wNil))))) (wCons (wCall 2 f_law_pick (wCons (wVar 0) (wCons (wLst (wCons (wC (.int 1)) (wCons (wUn wNeg (wC (.int 1))) (wCons (wC (.int 2)) (wCons (wBin wPow (wC (.int 10)) (wC (.int 12))) wNil))))) wNil))) wNil))))))))

def w_law_some_leaf (f_law_pick : WF) (f_law_some_term : WF) : WS :=
  (wSeq (wAsg (wCall 2 f_law_pick (wCons (wVar 0) (wCons (wLst (wCons (wC (.str "less")) (wCons (wC (.str "most")) (wCons (wC (.str "same")) (wCons (wC (.str "same")) (wCons (wC (.str "is")) wNil)))))) wNil))) (wgName 4))
    (wSeq (wAsg (wCall 4 f_law_some_term (wCons (wVar 0) (wCons (wVar 1) (wCons (wVar 2) (wCons (wVar 3) wNil))))) (wgName 5))
    (wSeq (wIfS (wTest (wBin wEqL (wVar 4) (wC (.str "is")))) (wRet (wTup (wCons (wC (.str "is")) (wCons (wVar 5) (wCons (wCall 2 f_law_pick (wCons (wVar 0) (wCons (wLst (wCons (wC (.str "nothing")) (wCons (wC (.str "number")) (wCons (wC (.str "word")) wNil)))) wNil))) wNil))))) wNext)
    (wRet (wTup (wCons (wVar 4) (wCons (wVar 5) (wCons (wCall 4 f_law_some_term (wCons (wVar 0) (wCons (wVar 1) (wCons (wVar 2) (wCons (wVar 3) wNil))))) wNil))))))))

def w_law_inner (f_law_pick : WF) (f_law_draw : WF) (f_law_some_leaf : WF) : WS :=
  (wSeq (wAsg (wB wTuple (wCons (wLc (sLst (wSl (wVar 3) wNoPart (wPart (wBin wAdd (wC (.int 1)) (wBin wDiv (wCall 2 f_law_draw (wCons (wVar 0) (wCons (wC (.int 4)) wNil))) (wC (.int 3))))))) (wgName 5) wYes (wTup (wCons (wVar 5) (wCons (wBin wIx (wCall 2 f_law_pick (wCons (wVar 0) (wCons (wBin wDGet (wVar 1) (wC (.str "tables"))) wNil))) (wC (.int 0))) wNil))) [5]) wNil)) (wgName 4))
    (wSeq (wAsg (wCall 4 f_law_some_leaf (wCons (wVar 0) (wCons (wVar 1) (wCons (wBin wAdd (wBin wAdd (wVar 4) (wVar 4)) (wVar 2)) (wCons (wC (.int 1)) wNil))))) (wgName 6))
    (wSeq (wAsg (wCall 2 f_law_pick (wCons (wVar 0) (wCons (wLst (wCons (wC (.str "and")) (wCons (wC (.str "or")) (wCons (wC (.str "")) (wCons (wC (.str "")) (wCons (wC (.str "not")) wNil)))))) wNil))) (wgName 7))
    (wSeq (wIfS (wTest (wBin wEqL (wVar 7) (wC (.str "not")))) (wRet (wTup (wCons (wVar 4) (wCons (wTup (wCons (wC (.str "not")) (wCons (wVar 6) wNil))) wNil)))) wNext)
    (wRet (wTup (wCons (wVar 4) (wCons (wIf (wTest (wBin wEqL (wVar 7) (wC (.str "")))) (wVar 6) (wTup (wCons (wVar 7) (wCons (wVar 6) (wCons (wCall 4 f_law_some_leaf (wCons (wVar 0) (wCons (wVar 1) (wCons (wBin wAdd (wVar 4) (wVar 2)) (wCons (wC (.int 1)) wNil))))) wNil))))) wNil))))))))

def w_law_condition (f_law_draw : WF) (f_law_condition : WF) (f_law_inner : WF) (f_law_pick : WF) (f_law_column : WF) (f_law_some_leaf : WF) : WS :=
  (wSeq (wAsg (wCall 2 f_law_draw (wCons (wVar 0) (wCons (wC (.int 10)) wNil))) (wgName 5))
    (wSeq (wIfS (wAndT (wTest (wBin wGt (wVar 4) (wC (.int 0)))) (wTest (wBin wLtA (wVar 5) (wC (.int 4))))) (wSeq (wAsg (wCall 5 f_law_condition (wCons (wVar 0) (wCons (wVar 1) (wCons (wVar 2) (wCons (wVar 3) (wCons (wBin wSub (wVar 4) (wC (.int 1))) wNil)))))) (wgName 6))
    (wRet (wTup (wCons (wBin wIx (wLst (wCons (wC (.str "and")) (wCons (wC (.str "or")) (wCons (wC (.str "and")) (wCons (wC (.str "or")) wNil))))) (wVar 5)) (wCons (wVar 6) (wCons (wCall 5 f_law_condition (wCons (wVar 0) (wCons (wVar 1) (wCons (wVar 2) (wCons (wVar 3) (wCons (wBin wSub (wVar 4) (wC (.int 1))) wNil)))))) wNil)))))) wNext)
    (wSeq (wIfS (wAndT (wTest (wBin wGt (wVar 4) (wC (.int 0)))) (wTest (wBin wEqL (wVar 5) (wC (.int 4))))) (wRet (wTup (wCons (wC (.str "not")) (wCons (wCall 5 f_law_condition (wCons (wVar 0) (wCons (wVar 1) (wCons (wVar 2) (wCons (wVar 3) (wCons (wBin wSub (wVar 4) (wC (.int 1))) wNil)))))) wNil)))) wNext)
    (wSeq (wIfS (wAndT (wTest (wBin wEqL (wVar 5) (wC (.int 5)))) (wTest (wBin wGt (wB wLen (wCons (wVar 3) wNil)) (wC (.int 1))))) (wSeq (wAsg (wLst (wCons (wUn wPop (wVar 3)) (wCons (wUn wPop (wVar 3)) wNil))) (wgName 7))
    (wSeq (wAsg (wCall 4 f_law_inner (wCons (wVar 0) (wCons (wVar 1) (wCons (wVar 2) (wCons (wVar 7) wNil))))) (wgName 8))
    (wSeq (wAsg (wTup (wCons (wC (.str "column")) (wCons (wBin wIx (wVar 7) (wC (.int 0))) (wCons (wBin wIx (wBin wDGet (wBin wDGet (wVar 1) (wC (.str "columns"))) (wBin wIx (wBin wIx (wBin wIx (wVar 8) (wC (.int 0))) (wC (.int 0))) (wC (.int 1)))) (wC (.int 0))) wNil)))) (wgName 9))
    (wSeq (wAsg (wLst (wCons (wTup (wCons (wC (.str "exists")) (wCons (wVar 8) wNil))) (wCons (wTup (wCons (wC (.str "same")) (wCons (wCall 3 f_law_column (wCons (wVar 0) (wCons (wVar 1) (wCons (wVar 2) wNil)))) (wCons (wTup (wCons (wC (.str "only")) (wCons (wVar 8) (wCons (wVar 9) wNil)))) wNil)))) wNil))) (wgName 10))
    (wRet (wCall 2 f_law_pick (wCons (wVar 0) (wCons (wBin wAdd (wVar 10) (wLst (wCons (wTup (wCons (wC (.str "is")) (wCons (wTup (wCons (wC (.str "first")) (wCons (wVar 8) (wCons (wVar 9) wNil)))) (wCons (wC (.str "number")) wNil)))) wNil))) wNil)))))))) wNext)
    (wRet (wCall 4 f_law_some_leaf (wCons (wVar 0) (wCons (wVar 1) (wCons (wVar 2) (wCons (wC (.int 1)) wNil))))))))))

def w_law_drawn (f_law_pick : WF) (f_law_draw : WF) (f_law_condition : WF) (f_law_some_term : WF) (f_law_column : WF) : WS :=
  (wSeq (wAsg (wB wListM (wCons (wVar 2) wNil)) (wgName 4))
    (wSeq (wAsg (wB wTuple (wCons (wLc (sRng1 (wBin wAdd (wC (.int 1)) (wCall 2 f_law_draw (wCons (wVar 0) (wCons (wVar 3) wNil))))) (wgName 6) wYes (wTup (wCons (wUn wPop (wVar 4)) (wCons (wBin wIx (wCall 2 f_law_pick (wCons (wVar 0) (wCons (wBin wDGet (wVar 1) (wC (.str "tables"))) wNil))) (wC (.int 0))) wNil))) [6]) wNil)) (wgName 5))
    (wSeq (wAsg (wIf (wTest (wBin wGt (wCall 2 f_law_draw (wCons (wVar 0) (wCons (wC (.int 8)) wNil))) (wC (.int 0)))) (wCall 5 f_law_condition (wCons (wVar 0) (wCons (wVar 1) (wCons (wVar 5) (wCons (wVar 4) (wCons (wC (.int 2)) wNil)))))) (wC .none)) (wgName 7))
    (wSeq (wAsg (wB wTuple (wCons (wLc (sRng1 (wBin wAdd (wC (.int 1)) (wCall 2 f_law_draw (wCons (wVar 0) (wCons (wC (.int 2)) wNil))))) (wgName 6) wYes (wCall 4 f_law_some_term (wCons (wVar 0) (wCons (wVar 1) (wCons (wVar 5) (wCons (wC (.int 1)) wNil))))) [6]) wNil)) (wgName 8))
    (wSeq (wAsg (wB wTuple (wCons (wLc (sRng1 (wBin wIx (wLst (wCons (wC (.int 0)) (wCons (wC (.int 0)) (wCons (wC (.int 0)) (wCons (wC (.int 1)) (wCons (wC (.int 2)) wNil)))))) (wCall 2 f_law_draw (wCons (wVar 0) (wCons (wC (.int 5)) wNil))))) (wgName 6) wYes (wCall 3 f_law_column (wCons (wVar 0) (wCons (wVar 1) (wCons (wVar 5) wNil)))) [6]) wNil)) (wgName 9))
    (wRet (wTup (wCons (wVar 5) (wCons (wVar 7) (wCons (wVar 8) (wCons (wVar 9) (wCons (wCall 2 f_law_pick (wCons (wVar 0) (wCons (wLst (wCons (wC .none) (wCons (wC .none) (wCons (wC (.int 0)) (wCons (wC (.int 1)) (wCons (wC (.int 2)) (wCons (wC (.int 5)) wNil))))))) wNil))) wNil))))))))))))

def w_law_below : WS :=
  (wSeq (wIfS (wTest (wBin wIn (wBin wIx (wVar 0) (wC (.int 0))) (wTup (wCons (wC (.str "column")) (wCons (wC (.str "value")) wNil))))) (wRet (wLst wNil)) wNext)
    (wSeq (wIfS (wTest (wBin wIn (wBin wIx (wVar 0) (wC (.int 0))) (wTup (wCons (wC (.str "plus")) (wCons (wC (.str "is")) (wCons (wC (.str "not")) wNil)))))) (wRet (wLst (wCons (wTup (wCons (wTup (wCons (wC (.int 1)) wNil)) (wCons (wBin wIx (wVar 0) (wC (.int 1))) wNil))) wNil))) wNext)
    (wSeq (wIfS (wTest (wBin wEqL (wBin wIx (wVar 0) (wC (.int 0))) (wC (.str "exists")))) (wRet (wLst (wCons (wTup (wCons (wTup (wCons (wC (.int 1)) (wCons (wC (.int 1)) wNil))) (wCons (wBin wIx (wBin wIx (wVar 0) (wC (.int 1))) (wC (.int 1))) wNil))) wNil))) wNext)
    (wSeq (wIfS (wTest (wBin wIn (wBin wIx (wVar 0) (wC (.int 0))) (wTup (wCons (wC (.str "only")) (wCons (wC (.str "first")) wNil))))) (wRet (wLst (wCons (wTup (wCons (wTup (wCons (wC (.int 1)) (wCons (wC (.int 1)) wNil))) (wCons (wBin wIx (wBin wIx (wVar 0) (wC (.int 1))) (wC (.int 1))) wNil))) (wCons (wTup (wCons (wTup (wCons (wC (.int 2)) wNil)) (wCons (wBin wIx (wVar 0) (wC (.int 2))) wNil))) wNil)))) wNext)
    (wRet (wLst (wCons (wTup (wCons (wTup (wCons (wC (.int 1)) wNil)) (wCons (wBin wIx (wVar 0) (wC (.int 1))) wNil))) (wCons (wTup (wCons (wTup (wCons (wC (.int 2)) wNil)) (wCons (wBin wIx (wVar 0) (wC (.int 2))) wNil))) wNil))))))))

def w_law_all (f_law_below : WF) (f_law_all : WF) : WS :=
  (wSeq (wAsg (wLst (wCons (wTup (wCons (wVar 1) (wCons (wVar 0) wNil))) wNil)) (wgName 2))
    (wSeq (wFor (sLst (wCall 1 f_law_below (wCons (wVar 0) wNil))) (wgTup 2 (wgCons (wgName 3) (wgCons (wgName 4) wgNil))) (wAsg (wBin wAdd (wVar 2) (wCall 2 f_law_all (wCons (wVar 4) (wCons (wBin wAdd (wVar 1) (wVar 3)) wNil)))) (wgName 2)))
    (wRet (wVar 2))))

def w_law_every (f_law_all : WF) : WS :=
  (wSeq (wAsg (wIf (wTest (wBin wIsN (wBin wIx (wVar 0) (wC (.int 1))) (wC .none))) (wLst wNil) (wCall 2 f_law_all (wCons (wBin wIx (wVar 0) (wC (.int 1))) (wCons (wTup (wCons (wC (.int 1)) wNil)) wNil)))) (wgName 1))
    (wSeq (wFor (sEnumT (wBin wIx (wVar 0) (wC (.int 2)))) (wgTup 2 (wgCons (wgName 2) (wgCons (wgName 3) wgNil))) (wAsg (wBin wAdd (wVar 1) (wCall 2 f_law_all (wCons (wVar 3) (wCons (wTup (wCons (wC (.int 2)) (wCons (wVar 2) wNil))) wNil)))) (wgName 1)))
    (wRet (wVar 1))))

def w_law_leaves (f_law_leaves : WF) : WS :=
  (wSeq (wIfS (wTest (wBin wEqL (wBin wIx (wVar 0) (wC (.int 0))) (wC (.str "not")))) (wRet (wCall 2 f_law_leaves (wCons (wBin wIx (wVar 0) (wC (.int 1))) (wCons (wBin wAdd (wVar 1) (wTup (wCons (wC (.int 1)) wNil))) wNil)))) wNext)
    (wSeq (wIfS (wTest (wBin wIn (wBin wIx (wVar 0) (wC (.int 0))) (wTup (wCons (wC (.str "and")) (wCons (wC (.str "or")) wNil))))) (wRet (wBin wAdd (wCall 2 f_law_leaves (wCons (wBin wIx (wVar 0) (wC (.int 1))) (wCons (wBin wAdd (wVar 1) (wTup (wCons (wC (.int 1)) wNil))) wNil))) (wCall 2 f_law_leaves (wCons (wBin wIx (wVar 0) (wC (.int 2))) (wCons (wBin wAdd (wVar 1) (wTup (wCons (wC (.int 2)) wNil))) wNil))))) wNext)
    (wRet (wLst (wCons (wVar 1) wNil)))))

def w_law_widened (f_law_pick : WF) (f_law_some_leaf : WF) (f_law_column : WF) (f_law_some_term : WF) : WS :=
  (wSeq (wAsg (wTup (wCons (wTup (wCons (wBin wIx (wVar 3) (wC (.int 0))) (wCons (wBin wIx (wCall 2 f_law_pick (wCons (wVar 0) (wCons (wBin wDGet (wVar 1) (wC (.str "tables"))) wNil))) (wC (.int 0))) wNil))) wNil)) (wgName 4))
    (wSeq (wAsg (wTup (wCons (wC (.str "column")) (wCons (wBin wIx (wVar 3) (wC (.int 0))) (wCons (wBin wIx (wBin wDGet (wBin wDGet (wVar 1) (wC (.str "columns"))) (wBin wIx (wBin wIx (wVar 4) (wC (.int 0))) (wC (.int 1)))) (wC (.int 0))) wNil)))) (wgName 5))
    (wSeq (wAsg (wTup (wCons (wVar 4) (wCons (wCall 4 f_law_some_leaf (wCons (wVar 0) (wCons (wVar 1) (wCons (wBin wAdd (wVar 4) (wBin wIx (wVar 2) (wC (.int 0)))) (wCons (wC (.int 2)) wNil))))) wNil))) (wgName 6))
    (wSeq (wAsg (wCall 2 f_law_pick (wCons (wVar 0) (wCons (wLst (wCons (wVar 5) (wCons (wCall 3 f_law_column (wCons (wVar 0) (wCons (wVar 1) (wCons (wBin wIx (wVar 2) (wC (.int 0))) wNil)))) wNil))) wNil))) (wgName 5))
    (wSeq (wAsg (wTup (wCons (wCall 2 f_law_pick (wCons (wVar 0) (wCons (wLst (wCons (wC (.str "only")) (wCons (wC (.str "first")) wNil))) wNil))) (wCons (wVar 6) (wCons (wVar 5) wNil)))) (wgName 7))
    (wSeq (wAsg (wBin wAdd (wBin wIx (wVar 2) (wC (.int 2))) (wTup (wCons (wTup (wCons (wC (.str "plus")) (wCons (wVar 7) (wCons (wC (.int 3)) wNil)))) (wCons (wCall 4 f_law_some_term (wCons (wVar 0) (wCons (wVar 1) (wCons (wBin wIx (wVar 2) (wC (.int 0))) (wCons (wC (.int 3)) wNil))))) wNil)))) (wgName 8))
    (wRet (wBin wAdd (wBin wAdd (wSl (wVar 2) wNoPart (wPart (wC (.int 2)))) (wTup (wCons (wVar 8) wNil))) (wSl (wVar 2) (wPart (wC (.int 3))) wNoPart)))))))))

def w_law_right (f_law_every : WF) (f_law_leaves : WF) (f_main_parts : WF) (f_part_at : WF) (f_named : WF) : WS :=
  (wSeq (wPar 1 2 (wCons (wLc (sTup (wBin wIx (wVar 0) (wC (.int 0)))) (wgTup 2 (wgCons (wgName 3) (wgCons (wgName 4) wgNil))) wYes (wVar 3) [3, 4]) (wCons (wCall 1 f_law_every (wCons (wVar 0) wNil)) wNil)))
    (wSeq (wAsg (wIf (wTest (wBin wIsN (wBin wIx (wVar 0) (wC (.int 1))) (wC .none))) (wLst wNil) (wCall 2 f_law_leaves (wCons (wBin wIx (wVar 0) (wC (.int 1))) (wCons (wTup (wCons (wC (.int 1)) wNil)) wNil)))) (wgName 5))
    (wSeq (wAsg (wB wTuple (wCons (wBin wAdd (wVar 5) (wLc (sRng1 (wB wLen (wCons (wBin wIx (wVar 0) (wC (.int 2))) wNil))) (wgName 7) wYes (wTup (wCons (wC (.int 2)) (wCons (wVar 7) wNil))) [7])) wNil)) (wgName 6))
    (wSeq (wIfS (wOrT (wTest (wBin wNeL (wB wRepr (wCons (wCall 1 f_main_parts (wCons (wVar 0) wNil)) wNil)) (wB wRepr (wCons (wVar 6) wNil)))) (wTest (wBin wNeL (wB wRepr (wCons (wCallP 1 f_main_parts [0] (wCons (wVar 0) wNil)) wNil)) (wB wRepr (wCons (wVar 6) wNil))))) (wRet (wC (.bool false))) wNext)
    (wSeq (wIfS (wTest (wBin wNeL (wB wRepr (wCons (wCall 2 f_part_at (wCons (wVar 0) (wCons (wTup wNil) wNil))) wNil)) (wB wRepr (wCons (wVar 0) wNil)))) (wRet (wC (.bool false))) wNext)
    (wSeq (wIfS (wTest (wBin wNeL (wLc (sEnumT (wBin wIx (wVar 0) (wC (.int 3)))) (wgTup 2 (wgCons (wgName 7) (wgCons (wgName 8) wgNil))) (wTest (wBin wNeL (wB wRepr (wCons (wCall 2 f_part_at (wCons (wVar 0) (wCons (wTup (wCons (wC (.int 3)) (wCons (wVar 7) wNil))) wNil))) wNil)) (wB wRepr (wCons (wVar 8) wNil)))) (wC (.int 1)) [7, 8]) (wLst wNil))) (wRet (wC (.bool false))) wNext)
    (wSeq (wFor (sLst (wVar 2)) (wgTup 2 (wgCons (wgName 9) (wgCons (wgName 10) wgNil))) (wSeq (wIfS (wOrT (wTest (wBin wNeL (wB wRepr (wCons (wCall 2 f_part_at (wCons (wVar 0) (wCons (wVar 9) wNil))) wNil)) (wB wRepr (wCons (wVar 10) wNil)))) (wTest (wBin wNeL (wB wRepr (wCons (wCallP 2 f_part_at [1, 0] (wCons (wVar 9) (wCons (wVar 0) wNil))) wNil)) (wB wRepr (wCons (wVar 10) wNil))))) (wRet (wC (.bool false))) wNext)
    (wIfS (wAndT (wTest (wBin wIn (wBin wIx (wVar 10) (wC (.int 0))) (wTup (wCons (wC (.str "exists")) (wCons (wC (.str "only")) (wCons (wC (.str "first")) wNil)))))) (wTest (wBin wNeL (wB wRepr (wCons (wCall 2 f_part_at (wCons (wVar 0) (wCons (wBin wAdd (wVar 9) (wTup (wCons (wC (.int 1)) wNil))) wNil))) wNil)) (wB wRepr (wCons (wBin wIx (wVar 10) (wC (.int 1))) wNil))))) (wRet (wC (.bool false))) wNext)))
    (wSeq (wFor (sTup (wVar 6)) (wgName 9) (wSeq (wAsg (wLc (sLst (wVar 2)) (wgTup 2 (wgCons (wgName 13) (wgCons (wgName 10) wgNil))) (wAndT (wTest (wBin wEqL (wSl (wVar 13) wNoPart (wPart (wB wLen (wCons (wVar 9) wNil)))) (wVar 9))) (wTest (wBin wEqL (wBin wIx (wVar 10) (wC (.int 0))) (wC (.str "column"))))) (wVar 10) [13, 10]) (wgName 11))
    (wSeq (wAsg (wB wTuple (wCons (wLc (sLst (wB wSorted (wCons (wVar 1) wNil))) (wgName 14) (wTest (wBin wNeL (wLc (sLst (wVar 11)) (wgName 10) (wTest (wBin wEqL (wBin wIx (wVar 10) (wC (.int 1))) (wVar 14))) (wC (.int 1)) [10]) (wLst wNil))) (wVar 14) [14]) wNil)) (wgName 12))
    (wIfS (wOrT (wTest (wBin wNeL (wB wRepr (wCons (wCall 2 f_named (wCons (wVar 0) (wCons (wVar 9) wNil))) wNil)) (wB wRepr (wCons (wVar 12) wNil)))) (wTest (wBin wNeL (wB wRepr (wCons (wCallP 2 f_named [1, 0] (wCons (wVar 9) (wCons (wVar 0) wNil))) wNil)) (wB wRepr (wCons (wVar 12) wNil))))) (wRet (wC (.bool false))) wNext))))
    (wRet (wC (.bool true)))))))))))

def w_law_main (f_law_deck : WF) (f_law_names : WF) (f_law_schema : WF) (f_law_drawn : WF) (f_law_draw : WF) (f_law_widened : WF) (f_law_right : WF) : WS :=
  (wSeq (wAsg (wCall 1 f_law_deck (wCons (wVar 0) wNil)) (wgName 1))
    (wSeq (wFor (sRng1 (wC (.int 6))) (wgName 2) (wSeq (wAsg (wCall 2 f_law_names (wCons (wVar 1) (wCons (wC (.int 16)) wNil))) (wgName 3))
    (wSeq (wAsg (wCall 3 f_law_schema (wCons (wVar 1) (wCons (wVar 3) (wCons (wBin wAdd (wC (.int 1)) (wCall 2 f_law_draw (wCons (wVar 1) (wCons (wC (.int 3)) wNil)))) wNil)))) (wgName 4))
    (wSeq (wAsg (wDct [((.inr "tables"), (wVar 4)), ((.inr "columns"), wDct0M)]) (wgName 5))
    (wSeq (wFor (sTup (wVar 4)) (wgTup 4 (wgCons (wgName 7) (wgCons (wgName 8) (wgCons (wgName 9) (wgCons (wgName 10) wgNil))))) (wDPut (wBin wDGet (wVar 5) (wC (.str "columns"))) (wVar 7) (wLc (sTup (wVar 8)) (wgTup 2 (wgCons (wgName 13) (wgCons (wgName 14) wgNil))) wYes (wVar 13) [13, 14])))
    (wFor (sRng1 (wC (.int 5))) (wgName 6) (wSeq (wAsg (wCall 4 f_law_drawn (wCons (wVar 1) (wCons (wVar 5) (wCons (wSl (wVar 3) (wPart (wC (.int 8))) (wPart (wC (.int 12)))) (wCons (wC (.int 4)) wNil))))) (wgName 11))
    (wSeq (wIfS (wTest (wBin wEqL (wCall 2 f_law_draw (wCons (wVar 1) (wCons (wC (.int 2)) wNil))) (wC (.int 0)))) (wAsg (wCall 4 f_law_widened (wCons (wVar 1) (wCons (wVar 5) (wCons (wVar 11) (wCons (wSl (wVar 3) (wPart (wC (.int 14))) wNoPart) wNil))))) (wgName 11)) wNext)
    (wSeq (wAsg (wB wRepr (wCons (wVar 11) wNil)) (wgName 12))
    (wIfS (wOrT (wNotT (wTest (wCall 1 f_law_right (wCons (wVar 11) wNil)))) (wTest (wBin wNeL (wB wRepr (wCons (wVar 11) wNil)) (wVar 12)))) (wRet (wC (.bool false))) wNext))))))))))
    (wRet (wC (.bool true)))))

end K21

set_option Elab.async false
set_option linter.all false
set_option maxRecDepth 100000
set_option maxHeartbeats 400000
/-! K21v: the derivations (printed by gen.py). -/
namespace K21
open PySem L2 Dz

def top (i : Nat) : Stmt := PySem.Challenge.pw_failsalike_k21_places_and_main_parts.main.body.getD i (.Pass ⟨0, 0, 0, 0⟩)
abbrev s_part_at : Stmt := top 5
abbrev s_straight_parts : Stmt := top 6
abbrev s_all_parts : Stmt := top 7
abbrev s_columns_in : Stmt := top 8
abbrev s_leaves_of : Stmt := top 9
abbrev s_main_parts : Stmt := top 10
abbrev s_named : Stmt := top 11
abbrev s_law_deck : Stmt := top 13
abbrev s_law_draw : Stmt := top 14
abbrev s_law_pick : Stmt := top 15
abbrev s_law_names : Stmt := top 16
abbrev s_law_schema : Stmt := top 17
abbrev s_law_any_value : Stmt := top 18
abbrev s_law_column : Stmt := top 19
abbrev s_law_some_term : Stmt := top 20
abbrev s_law_some_leaf : Stmt := top 21
abbrev s_law_inner : Stmt := top 22
abbrev s_law_condition : Stmt := top 23
abbrev s_law_drawn : Stmt := top 24
abbrev s_law_below : Stmt := top 25
abbrev s_law_all : Stmt := top 26
abbrev s_law_every : Stmt := top 27
abbrev s_law_leaves : Stmt := top 28
abbrev s_law_widened : Stmt := top 29
abbrev s_law_right : Stmt := top 30
abbrev s_law_main : Stmt := top 31
abbrev N_part_at : List Str := ["question", "place", "part", "index"]
theorem sc_part_at : FnScope N_part_at ["question", "place"] (defScope s_part_at) := ⟨rfl, rfl, rfl, by decide +kernel, rfl, by decide +kernel, by decide +kernel⟩
abbrev N_straight_parts : List Str := ["part", "place"]
theorem sc_straight_parts : FnScope N_straight_parts ["part"] (defScope s_straight_parts) := ⟨rfl, rfl, rfl, by decide +kernel, rfl, by decide +kernel, by decide +kernel⟩
abbrev N_all_parts : List Str := ["part", "found", "waiting", "place", "here", "more", "inner"]
theorem sc_all_parts : FnScope N_all_parts ["part"] (defScope s_all_parts) := ⟨rfl, rfl, rfl, by decide +kernel, rfl, by decide +kernel, by decide +kernel⟩
abbrev N_columns_in : List Str := ["part", "place", "here"]
theorem sc_columns_in : FnScope N_columns_in ["part"] (defScope s_columns_in) := ⟨rfl, rfl, rfl, by decide +kernel, rfl, by decide +kernel, by decide +kernel⟩
abbrev N_leaves_of : List Str := ["condition", "place", "found", "waiting", "here", "part", "more", "inner"]
theorem sc_leaves_of : FnScope N_leaves_of ["condition", "place"] (defScope s_leaves_of) := ⟨rfl, rfl, rfl, by decide +kernel, rfl, by decide +kernel, by decide +kernel⟩
abbrev N_main_parts : List Str := ["question", "leaves", "index"]
theorem sc_main_parts : FnScope N_main_parts ["question"] (defScope s_main_parts) := ⟨rfl, rfl, rfl, by decide +kernel, rfl, by decide +kernel, by decide +kernel⟩
abbrev N_named : List Str := ["question", "place", "own", "alias", "table", "name"]
theorem sc_named : FnScope N_named ["question", "place"] (defScope s_named) := ⟨rfl, rfl, rfl, by decide +kernel, rfl, by decide +kernel, by decide +kernel⟩
abbrev N_law_deck : List Str := ["_law_script", "_law_cells", "_law_total", "_law_cell"]
theorem sc_law_deck : FnScope N_law_deck ["_law_script"] (defScope s_law_deck) := ⟨rfl, rfl, rfl, by decide +kernel, rfl, by decide +kernel, by decide +kernel⟩
abbrev N_law_draw : List Str := ["_law_deck_here", "_law_many", "_law_turn", "_law_cell", "_law_mixed"]
theorem sc_law_draw : FnScope N_law_draw ["_law_deck_here", "_law_many"] (defScope s_law_draw) := ⟨rfl, rfl, rfl, by decide +kernel, rfl, by decide +kernel, by decide +kernel⟩
abbrev N_law_pick : List Str := ["_law_deck_here", "_law_some"]
theorem sc_law_pick : FnScope N_law_pick ["_law_deck_here", "_law_some"] (defScope s_law_pick) := ⟨rfl, rfl, rfl, by decide +kernel, rfl, by decide +kernel, by decide +kernel⟩
abbrev N_law_names : List Str := ["_law_deck_here", "_law_many", "_law_first", "_law_way", "_law_words", "_law_k"]
theorem sc_law_names : FnScope N_law_names ["_law_deck_here", "_law_many"] (defScope s_law_names) := ⟨rfl, rfl, rfl, by decide +kernel, rfl, by decide +kernel, by decide +kernel⟩
abbrev N_law_schema : List Str := ["_law_deck_here", "_law_names_here", "_law_many", "_law_found", "_law_kinds", "_law_at", "_law_columns", "_law_keys", "_law_indexes", "_law_name", "_law_some"]
theorem sc_law_schema : FnScope N_law_schema ["_law_deck_here", "_law_names_here", "_law_many"] (defScope s_law_schema) := ⟨rfl, rfl, rfl, by decide +kernel, rfl, by decide +kernel, by decide +kernel⟩
abbrev N_law_any_value : List Str := ["_law_deck_here", "_law_kinds", "_law_kind"]
theorem sc_law_any_value : FnScope N_law_any_value ["_law_deck_here", "_law_kinds"] (defScope s_law_any_value) := ⟨rfl, rfl, rfl, by decide +kernel, rfl, by decide +kernel, by decide +kernel⟩
abbrev N_law_column : List Str := ["_law_deck_here", "_law_world", "_law_refs", "_law_alias", "_law_table"]
theorem sc_law_column : FnScope N_law_column ["_law_deck_here", "_law_world", "_law_refs"] (defScope s_law_column) := ⟨rfl, rfl, rfl, by decide +kernel, rfl, by decide +kernel, by decide +kernel⟩
abbrev N_law_some_term : List Str := ["_law_deck_here", "_law_world", "_law_refs", "_law_deep", "_law_way"]
theorem sc_law_some_term : FnScope N_law_some_term ["_law_deck_here", "_law_world", "_law_refs", "_law_deep"] (defScope s_law_some_term) := ⟨rfl, rfl, rfl, by decide +kernel, rfl, by decide +kernel, by decide +kernel⟩
abbrev N_law_some_leaf : List Str := ["_law_deck_here", "_law_world", "_law_refs", "_law_deep", "_law_word", "_law_first"]
theorem sc_law_some_leaf : FnScope N_law_some_leaf ["_law_deck_here", "_law_world", "_law_refs", "_law_deep"] (defScope s_law_some_leaf) := ⟨rfl, rfl, rfl, by decide +kernel, rfl, by decide +kernel, by decide +kernel⟩
abbrev N_law_inner : List Str := ["_law_deck_here", "_law_world", "_law_refs", "_law_aliases", "_law_own", "_law_alias", "_law_leaf", "_law_word"]
theorem sc_law_inner : FnScope N_law_inner ["_law_deck_here", "_law_world", "_law_refs", "_law_aliases"] (defScope s_law_inner) := ⟨rfl, rfl, rfl, by decide +kernel, rfl, by decide +kernel, by decide +kernel⟩
abbrev N_law_condition : List Str := ["_law_deck_here", "_law_world", "_law_refs", "_law_aliases", "_law_deep", "_law_way", "_law_one", "_law_own", "_law_inner_here", "_law_term", "_law_some"]
theorem sc_law_condition : FnScope N_law_condition ["_law_deck_here", "_law_world", "_law_refs", "_law_aliases", "_law_deep"] (defScope s_law_condition) := ⟨rfl, rfl, rfl, by decide +kernel, rfl, by decide +kernel, by decide +kernel⟩
abbrev N_law_drawn : List Str := ["_law_deck_here", "_law_world", "_law_names_here", "_law_most", "_law_pool", "_law_refs", "_law_k", "_law_where", "_law_heard", "_law_order"]
theorem sc_law_drawn : FnScope N_law_drawn ["_law_deck_here", "_law_world", "_law_names_here", "_law_most"] (defScope s_law_drawn) := ⟨rfl, rfl, rfl, by decide +kernel, rfl, by decide +kernel, by decide +kernel⟩
abbrev N_law_below : List Str := ["_law_part"]
theorem sc_law_below : FnScope N_law_below ["_law_part"] (defScope s_law_below) := ⟨rfl, rfl, rfl, by decide +kernel, rfl, by decide +kernel, by decide +kernel⟩
abbrev N_law_all : List Str := ["_law_part", "_law_lead", "_law_found", "_law_more", "_law_one"]
theorem sc_law_all : FnScope N_law_all ["_law_part", "_law_lead"] (defScope s_law_all) := ⟨rfl, rfl, rfl, by decide +kernel, rfl, by decide +kernel, by decide +kernel⟩
abbrev N_law_every : List Str := ["_law_asked", "_law_found", "_law_k", "_law_term"]
theorem sc_law_every : FnScope N_law_every ["_law_asked"] (defScope s_law_every) := ⟨rfl, rfl, rfl, by decide +kernel, rfl, by decide +kernel, by decide +kernel⟩
abbrev N_law_leaves : List Str := ["_law_condition_here", "_law_lead"]
theorem sc_law_leaves : FnScope N_law_leaves ["_law_condition_here", "_law_lead"] (defScope s_law_leaves) := ⟨rfl, rfl, rfl, by decide +kernel, rfl, by decide +kernel, by decide +kernel⟩
abbrev N_law_widened : List Str := ["_law_deck_here", "_law_world", "_law_asked", "_law_aliases", "_law_own", "_law_column_here", "_law_inner_here", "_law_term", "_law_some"]
theorem sc_law_widened : FnScope N_law_widened ["_law_deck_here", "_law_world", "_law_asked", "_law_aliases"] (defScope s_law_widened) := ⟨rfl, rfl, rfl, by decide +kernel, rfl, by decide +kernel, by decide +kernel⟩
abbrev N_law_right : List Str := ["_law_asked", "_law_own", "_law_found", "_law_alias", "_law_table", "_law_places", "_law_due", "_law_k", "_law_column_here", "_law_lead", "_law_part", "_law_within", "_law_names_here", "_law_spot", "_law_one"]
theorem sc_law_right : FnScope N_law_right ["_law_asked"] (defScope s_law_right) := ⟨rfl, rfl, rfl, by decide +kernel, rfl, by decide +kernel, by decide +kernel⟩
abbrev N_law_main : List Str := ["_law_script", "_law_deck_here", "_law_turn", "_law_names_here", "_law_schema_here", "_law_world", "_law_k", "_law_table", "_law_columns", "_law_unique", "_law_indexes", "_law_asked", "_law_kept", "_law_name", "_law_some"]
theorem sc_law_main : FnScope N_law_main ["_law_script"] (defScope s_law_main) := ⟨rfl, rfl, rfl, by decide +kernel, rfl, by decide +kernel, by decide +kernel⟩
structure Tops (K : PySem.W.Frag) (mg : Str → Option Value) (base : Heap) (w0 : World) : Prop where
  a_part_at : At1 K mg "part_at" s_part_at
  a_straight_parts : At1 K mg "straight_parts" s_straight_parts
  a_all_parts : At1 K mg "all_parts" s_all_parts
  a_columns_in : At1 K mg "columns_in" s_columns_in
  a_leaves_of : At1 K mg "leaves_of" s_leaves_of
  a_main_parts : At1 K mg "main_parts" s_main_parts
  a_named : At1 K mg "named" s_named
  a_law_deck : At1 K mg "_law_deck" s_law_deck
  a_law_draw : At1 K mg "_law_draw" s_law_draw
  a_law_pick : At1 K mg "_law_pick" s_law_pick
  a_law_names : At1 K mg "_law_names" s_law_names
  a_law_schema : At1 K mg "_law_schema" s_law_schema
  a_law_any_value : At1 K mg "_law_any_value" s_law_any_value
  a_law_column : At1 K mg "_law_column" s_law_column
  a_law_some_term : At1 K mg "_law_some_term" s_law_some_term
  a_law_some_leaf : At1 K mg "_law_some_leaf" s_law_some_leaf
  a_law_inner : At1 K mg "_law_inner" s_law_inner
  a_law_condition : At1 K mg "_law_condition" s_law_condition
  a_law_drawn : At1 K mg "_law_drawn" s_law_drawn
  a_law_below : At1 K mg "_law_below" s_law_below
  a_law_all : At1 K mg "_law_all" s_law_all
  a_law_every : At1 K mg "_law_every" s_law_every
  a_law_leaves : At1 K mg "_law_leaves" s_law_leaves
  a_law_widened : At1 K mg "_law_widened" s_law_widened
  a_law_right : At1 K mg "_law_right" s_law_right
  a_law_main : At1 K mg "law" s_law_main
  b_enumerate : mg "enumerate" = none
  b_len : mg "len" = none
  b_list : mg "list" = none
  b_range : mg "range" = none
  b_repr : mg "repr" = none
  b_sorted : mg "sorted" = none
  b_tuple : mg "tuple" = none
  c_JOINING : GlobIs K mg "JOINING" (.tup [(.str "not"), (.str "and"), (.str "or")])
  k_SUB_PLACES : DctIs K w0 mg "SUB_PLACES" [("column", (.tup [])), ("value", (.tup [])), ("plus", (.tup [(.tup [(.int 1)])])), ("less", (.tup [(.tup [(.int 1)]), (.tup [(.int 2)])])), ("most", (.tup [(.tup [(.int 1)]), (.tup [(.int 2)])])), ("same", (.tup [(.tup [(.int 1)]), (.tup [(.int 2)])])), ("is", (.tup [(.tup [(.int 1)])])), ("not", (.tup [(.tup [(.int 1)])])), ("and", (.tup [(.tup [(.int 1)]), (.tup [(.int 2)])])), ("or", (.tup [(.tup [(.int 1)]), (.tup [(.int 2)])])), ("exists", (.tup [(.tup [(.int 1), (.int 1)])])), ("only", (.tup [(.tup [(.int 1), (.int 1)]), (.tup [(.int 2)])])), ("first", (.tup [(.tup [(.int 1), (.int 1)]), (.tup [(.int 2)])]))]
  g_TOLD : ∃ u, mg "TOLD" = some u ∧ RelV (.int 2) u
  g_WHERE : ∃ u, mg "WHERE" = some u ∧ RelV (.int 1) u
  sm : ∃ o, base.get? sysModules = some o
theorem Tops.i_TOLD {K : PySem.W.Frag} {mg : Str → Option Value} {base : Heap} {w0 : World} (_ : Tops K mg base w0) : ∀ H, Is K H (.int 2) (.int 2) := fun _ => .int _
theorem Tops.i_WHERE {K : PySem.W.Frag} {mg : Str → Option Value} {base : Heap} {w0 : World} (_ : Tops K mg base w0) : ∀ H, Is K H (.int 1) (.int 1) := fun _ => .int _
section
variable {P : Program} {w0 : World} {K : PySem.W.Frag} {mg : Str → Option Value} {base : Heap}
theorem dv_part_at (T : Tops K mg base w0) (f : Addr) (cdv : Value) (A : Around) (outer : List Env) (s : Shared) (H : Hp) (E : XK) (hgd : A.guards = some []) (hr : Room 0 (A.deeper (PyProof.Rows.envOfC "part_at" (defScope s_part_at) s.heap.objs.size f cdv))) :
  PSs (cxOf CX0 P w0 K mg base N_part_at "part_at" (defScope s_part_at) f cdv A outer s H E).nox (defBody s_part_at) (tDS K (w_part_at)) :=
  (dss_cons (ds_set (i := 2) sc_part_at.nd rfl (Or.inl rfl) (d_var 0))
    (dss_cons (ds_for (di_tup (d_var 1)) (dg_name (i := 3) sc_part_at.nd rfl (Or.inl rfl)) (dss_one (ds_set (i := 2) sc_part_at.nd rfl (Or.inl rfl) (d_ix (d_var 2) (d_var 3)))))
    (dss_one (ds_ret (d_var 2)))))
theorem dv_straight_parts (T : Tops K mg base w0) {f_part_at : WF} (D_part_at : Def P w0 K mg base 1 "part_at" s_part_at ["question", "place"] f_part_at) (f : Addr) (cdv : Value) (A : Around) (outer : List Env) (s : Shared) (H : Hp) (E : XK) (hgd : A.guards = some []) (hr : Room 1 (A.deeper (PyProof.Rows.envOfC "straight_parts" (defScope s_straight_parts) s.heap.objs.size f cdv))) :
  PSs (cxOf CX0 P w0 K mg base N_straight_parts "straight_parts" (defScope s_straight_parts) f cdv A outer s H E).nox (defBody s_straight_parts) (tDS K (w_straight_parts f_part_at)) :=
  (dss_one (ds_ret (d_lc (own := [("place", 1)]) (di_tup (d_ixK (by rfl) T.k_SUB_PLACES (d_ix (d_var 0) d_int))) (blkOk_by (own := [("place", 1)]) (N := N_straight_parts) (sc := defScope s_straight_parts) (by decide +kernel)) (fun _ _ _ _ _ => dg_name (i := 1) sc_straight_parts.nd rfl (Or.inl rfl)) (fun _ _ _ _ _ => dts_nil) (fun _ _ _ _ _ => (d_tup (da_cons (d_var 1) (da_cons (d_f D_part_at hgd hr (by decide) (by rfl) (fun _ _ _ _ _ _ us hl => match us, hl with | [_, _], _ => rfl) (da_cons (d_var 0) (da_cons (d_var 1) da_nil))) da_nil)))) sc_straight_parts.nd)))
theorem dv_all_parts (T : Tops K mg base w0) {f_straight_parts : WF} (D_straight_parts : Def P w0 K mg base 2 "straight_parts" s_straight_parts ["part"] f_straight_parts) (f : Addr) (cdv : Value) (A : Around) (outer : List Env) (s : Shared) (H : Hp) (E : XK) (hgd : A.guards = some []) (hr : Room 2 (A.deeper (PyProof.Rows.envOfC "all_parts" (defScope s_all_parts) s.heap.objs.size f cdv))) :
  PSs (cxOf CX0 P w0 K mg base N_all_parts "all_parts" (defScope s_all_parts) f cdv A outer s H E).nox (defBody s_all_parts) (tDS K (w_all_parts f_straight_parts)) :=
  (dss_pure (dss_cons (ds_par (i := 1) (j := 2) sc_all_parts.nd rfl rfl (by decide) rfl rfl (da_cons (d_lstM da_nil) (da_cons (d_lstM (da_cons (d_tup (da_cons (d_tup da_nil) (da_cons (d_var 0) da_nil))) da_nil)) da_nil)) (by rfl))
    (dss_cons (ds_while (t_ne hr (d_var 2) (d_lst da_nil)) (dss_cons (ds_asg (d_pop (d_var 2)) (dg_tup (n := 2) rfl (dgs_cons (dg_name (i := 3) sc_all_parts.nd rfl (Or.inr rfl)) (dgs_cons (dg_name (i := 4) sc_all_parts.nd rfl (Or.inl rfl)) dgs_nil))))
    (dss_cons (ds_expr (d_append (d_var 1) (d_tup (da_cons (d_var 3) (da_cons (d_var 4) da_nil)))))
    (dss_one (ds_expr (d_extend (d_var 2) (d_rev (d_lc (own := [("more", 5), ("inner", 6)]) (di_list (d_f D_straight_parts hgd hr (by decide) (by rfl) (fun _ _ _ _ _ _ us hl => match us, hl with | [_], _ => rfl) (da_cons (d_var 4) da_nil))) (blkOk_by (own := [("more", 5), ("inner", 6)]) (N := N_all_parts) (sc := defScope s_all_parts) (by decide +kernel)) (fun _ _ _ _ _ => dg_tup (n := 2) rfl (dgs_cons (dg_name (i := 5) sc_all_parts.nd rfl (Or.inl rfl)) (dgs_cons (dg_name (i := 6) sc_all_parts.nd rfl (Or.inl rfl)) dgs_nil))) (fun _ _ _ _ _ => dts_nil) (fun _ _ _ _ _ => (d_tup (da_cons (d_add (d_var 3) (d_var 5)) (da_cons (d_var 6) da_nil)))) sc_all_parts.nd))))))))
    (dss_one (ds_ret (d_frz (d_var 1)))))))
theorem dv_columns_in (T : Tops K mg base w0) {f_all_parts : WF} (D_all_parts : Def P w0 K mg base 3 "all_parts" s_all_parts ["part"] f_all_parts) (f : Addr) (cdv : Value) (A : Around) (outer : List Env) (s : Shared) (H : Hp) (E : XK) (hgd : A.guards = some []) (hr : Room 3 (A.deeper (PyProof.Rows.envOfC "columns_in" (defScope s_columns_in) s.heap.objs.size f cdv))) :
  PSs (cxOf CX0 P w0 K mg base N_columns_in "columns_in" (defScope s_columns_in) f cdv A outer s H E).nox (defBody s_columns_in) (tDS K (w_columns_in f_all_parts)) :=
  (dss_one (ds_ret (d_lc (own := [("place", 1), ("here", 2)]) (di_list (d_f D_all_parts hgd hr (by decide) (by rfl) (fun _ _ _ _ _ _ us hl => match us, hl with | [_], _ => rfl) (da_cons (d_var 0) da_nil))) (blkOk_by (own := [("place", 1), ("here", 2)]) (N := N_columns_in) (sc := defScope s_columns_in) (by decide +kernel)) (fun _ _ _ _ _ => dg_tup (n := 2) rfl (dgs_cons (dg_name (i := 1) sc_columns_in.nd rfl (Or.inl rfl)) (dgs_cons (dg_name (i := 2) sc_columns_in.nd rfl (Or.inl rfl)) dgs_nil))) (fun _ _ _ _ _ => (dts_one (t_eq hr (d_ix (d_var 2) d_int) d_str))) (fun _ _ _ _ _ => (d_slice (d_var 2) (do_some d_int) do_none)) sc_columns_in.nd)))
theorem dv_leaves_of (T : Tops K mg base w0) {f_straight_parts : WF} (D_straight_parts : Def P w0 K mg base 2 "straight_parts" s_straight_parts ["part"] f_straight_parts) (f : Addr) (cdv : Value) (A : Around) (outer : List Env) (s : Shared) (H : Hp) (E : XK) (hgd : A.guards = some []) (hr : Room 2 (A.deeper (PyProof.Rows.envOfC "leaves_of" (defScope s_leaves_of) s.heap.objs.size f cdv))) :
  PSs (cxOf CX0 P w0 K mg base N_leaves_of "leaves_of" (defScope s_leaves_of) f cdv A outer s H E).nox (defBody s_leaves_of) (tDS K (w_leaves_of f_straight_parts)) :=
  (dss_pure (dss_cons (ds_par (i := 2) (j := 3) sc_leaves_of.nd rfl rfl (by decide) rfl rfl (da_cons (d_lstM da_nil) (da_cons (d_lstM (da_cons (d_tup (da_cons (d_var 1) (da_cons (d_var 0) da_nil))) da_nil)) da_nil)) (by rfl))
    (dss_cons (ds_while (t_ne hr (d_var 3) (d_lst da_nil)) (dss_cons (ds_asg (d_pop (d_var 3)) (dg_tup (n := 2) rfl (dgs_cons (dg_name (i := 4) sc_leaves_of.nd rfl (Or.inr rfl)) (dgs_cons (dg_name (i := 5) sc_leaves_of.nd rfl (Or.inl rfl)) dgs_nil))))
    (dss_one (ds_if (t_in hr (d_ix (d_var 5) d_int) (d_globE (by rfl) T.c_JOINING) (by rfl)) (dss_one (ds_expr (d_extend (d_var 3) (d_rev (d_lc (own := [("more", 6), ("inner", 7)]) (di_list (d_f D_straight_parts hgd hr (by decide) (by rfl) (fun _ _ _ _ _ _ us hl => match us, hl with | [_], _ => rfl) (da_cons (d_var 5) da_nil))) (blkOk_by (own := [("more", 6), ("inner", 7)]) (N := N_leaves_of) (sc := defScope s_leaves_of) (by decide +kernel)) (fun _ _ _ _ _ => dg_tup (n := 2) rfl (dgs_cons (dg_name (i := 6) sc_leaves_of.nd rfl (Or.inl rfl)) (dgs_cons (dg_name (i := 7) sc_leaves_of.nd rfl (Or.inl rfl)) dgs_nil))) (fun _ _ _ _ _ => dts_nil) (fun _ _ _ _ _ => (d_tup (da_cons (d_add (d_var 4) (d_var 6)) (da_cons (d_var 7) da_nil)))) sc_leaves_of.nd))))) (dss_one (ds_expr (d_append (d_var 2) (d_var 4))))))))
    (dss_one (ds_ret (d_frz (d_var 2)))))))
theorem dv_main_parts (T : Tops K mg base w0) {f_leaves_of : WF} (D_leaves_of : Def P w0 K mg base 3 "leaves_of" s_leaves_of ["condition", "place"] f_leaves_of) (f : Addr) (cdv : Value) (A : Around) (outer : List Env) (s : Shared) (H : Hp) (E : XK) (hgd : A.guards = some []) (hr : Room 3 (A.deeper (PyProof.Rows.envOfC "main_parts" (defScope s_main_parts) s.heap.objs.size f cdv))) :
  PSs (cxOf CX0 P w0 K mg base N_main_parts "main_parts" (defScope s_main_parts) f cdv A outer s H E).nox (defBody s_main_parts) (tDS K (w_main_parts f_leaves_of)) :=
  (dss_cons (ds_set (i := 1) sc_main_parts.nd rfl (Or.inl rfl) (d_if (t_is (d_ix (d_var 0) (d_glob (by rfl) T.g_WHERE T.i_WHERE)) d_non) (d_lst da_nil) (d_f D_leaves_of hgd hr (by decide) (by rfl) (fun _ _ _ _ _ _ us hl => match us, hl with | [_, _], _ => rfl) (da_cons (d_ix (d_var 0) (d_glob (by rfl) T.g_WHERE T.i_WHERE)) (da_cons (d_tup (da_cons (d_glob (by rfl) T.g_WHERE T.i_WHERE) da_nil)) da_nil)))))
    (dss_one (ds_ret (d_tuple (by rfl) T.b_tuple (d_add (d_var 1) (d_lc (own := [("index", 2)]) (di_range1 (by rfl) T.b_range (d_len (by rfl) T.b_len (d_ix (d_var 0) (d_glob (by rfl) T.g_TOLD T.i_TOLD)))) (blkOk_by (own := [("index", 2)]) (N := N_main_parts) (sc := defScope s_main_parts) (by decide +kernel)) (fun _ _ _ _ _ => dg_name (i := 2) sc_main_parts.nd rfl (Or.inl rfl)) (fun _ _ _ _ _ => dts_nil) (fun _ _ _ _ _ => (d_tup (da_cons (d_glob (by rfl) T.g_TOLD T.i_TOLD) (da_cons (d_var 2) da_nil)))) sc_main_parts.nd))))))
theorem dv_named (T : Tops K mg base w0) {f_columns_in : WF} (D_columns_in : Def P w0 K mg base 4 "columns_in" s_columns_in ["part"] f_columns_in) {f_part_at : WF} (D_part_at : Def P w0 K mg base 1 "part_at" s_part_at ["question", "place"] f_part_at) (f : Addr) (cdv : Value) (A : Around) (outer : List Env) (s : Shared) (H : Hp) (E : XK) (hgd : A.guards = some []) (hr : Room 4 (A.deeper (PyProof.Rows.envOfC "named" (defScope s_named) s.heap.objs.size f cdv))) :
  PSs (cxOf CX0 P w0 K mg base N_named "named" (defScope s_named) f cdv A outer s H E).nox (defBody s_named) (tDS K (w_named f_columns_in f_part_at)) :=
  (dss_cons (ds_set (i := 2) sc_named.nd rfl (Or.inr rfl) (d_lc (own := [("alias", 3), ("table", 4)]) (di_tup (d_ix (d_var 0) d_int)) (blkOk_by (own := [("alias", 3), ("table", 4)]) (N := N_named) (sc := defScope s_named) (by decide +kernel)) (fun _ _ _ _ _ => dg_tup (n := 2) rfl (dgs_cons (dg_name (i := 3) sc_named.nd rfl (Or.inl rfl)) (dgs_cons (dg_name (i := 4) sc_named.nd rfl (Or.inl rfl)) dgs_nil))) (fun _ _ _ _ _ => dts_nil) (fun _ _ _ _ _ => (d_var 3)) sc_named.nd))
    (dss_one (ds_ret (d_tuple (by rfl) T.b_tuple (d_sortSc (own := [("alias", 3), ("name", 5)]) (by rfl) T.b_sorted (di_list (d_f D_columns_in hgd hr (by decide) (by rfl) (fun _ _ _ _ _ _ us hl => match us, hl with | [_], _ => rfl) (da_cons (d_f D_part_at hgd hr (by decide) (by rfl) (fun _ _ _ _ _ _ us hl => match us, hl with | [_, _], _ => rfl) (da_cons (d_var 0) (da_cons (d_var 1) da_nil))) da_nil))) (blkOk_by (own := [("alias", 3), ("name", 5)]) (N := N_named) (sc := defScope s_named) (by decide +kernel)) (fun _ _ _ _ _ => dg_tup (n := 2) rfl (dgs_cons (dg_name (i := 3) sc_named.nd rfl (Or.inl rfl)) (dgs_cons (dg_name (i := 5) sc_named.nd rfl (Or.inl rfl)) dgs_nil))) (fun _ _ _ _ _ => (dts_one (t_in hr (d_var 3) (d_var 2) (by rfl)))) (fun _ _ _ _ _ => (d_var 3)) sc_named.nd)))))
theorem dv_law_deck (T : Tops K mg base w0) (f : Addr) (cdv : Value) (A : Around) (outer : List Env) (s : Shared) (H : Hp) (E : XK) (hgd : A.guards = some []) (hr : Room 0 (A.deeper (PyProof.Rows.envOfC "_law_deck" (defScope s_law_deck) s.heap.objs.size f cdv))) :
  PSs (cxOf CX0 P w0 K mg base N_law_deck "_law_deck" (defScope s_law_deck) f cdv A outer s H E).nox (defBody s_law_deck) (tDS K (w_law_deck)) :=
  (dss_cons (ds_par (i := 1) (j := 2) sc_law_deck.nd rfl rfl (by decide) rfl rfl (da_cons (d_list (by rfl) T.b_list (d_slice (d_var 0) do_none (do_some d_int))) (da_cons d_int da_nil)) (by rfl))
    (dss_cons (ds_for (di_list (d_var 1)) (dg_name (i := 3) sc_law_deck.nd rfl (Or.inl rfl)) (dss_one (ds_set (i := 2) sc_law_deck.nd rfl (Or.inl rfl) (d_mod (d_add (d_add (d_mul (d_var 2) d_int) (d_mod (d_var 3) d_int)) d_int) d_int))))
    (dss_one (ds_ret (d_dctM _ (pps_cons pe_str (d_revM (d_var 1)) (pps_cons pe_str (d_var 2) (pps_cons pe_str d_int pps_nil))))))))
theorem dv_law_draw (T : Tops K mg base w0) (f : Addr) (cdv : Value) (A : Around) (outer : List Env) (s : Shared) (H : Hp) (E : XK) (hgd : A.guards = some []) (hr : Room 0 (A.deeper (PyProof.Rows.envOfC "_law_draw" (defScope s_law_draw) s.heap.objs.size f cdv))) :
  PSs (cxOf CX0 P w0 K mg base N_law_draw "_law_draw" (defScope s_law_draw) f cdv A outer s H E).nox (defBody s_law_draw) (tDS K (w_law_draw)) :=
  (dss_cons (ds_par (i := 2) (j := 3) sc_law_draw.nd rfl rfl (by decide) rfl rfl (da_cons (d_add (d_dget hr (d_var 0) d_str) d_int) (da_cons (d_dget hr (d_var 0) d_str) da_nil)) (by rfl))
    (dss_cons (ds_dput hr (d_var 0) d_str (d_var 2))
    (dss_cons (ds_if (t_ne hr (d_dget hr (d_var 0) d_str) (d_lst da_nil)) (dss_cons (ds_set (i := 3) sc_law_draw.nd rfl (Or.inl rfl) (d_pop (d_dget hr (d_var 0) d_str)))
    (dss_cons (ds_if (t_ge (d_var 3) (d_pow d_int d_int)) (dss_cons (ds_expr (d_append (d_dget hr (d_var 0) d_str) (d_div (d_var 3) (d_var 1))))
    (dss_one (ds_ret (d_mod (d_var 3) (d_var 1))))) dss_nil)
    (dss_one (ds_set (i := 3) sc_law_draw.nd rfl (Or.inl rfl) (d_add (d_var 3) (d_dget hr (d_var 0) d_str)))))) dss_nil)
    (dss_cons (ds_set (i := 4) sc_law_draw.nd rfl (Or.inl rfl) (d_mod (d_mul (d_add (d_add (d_mod (d_var 3) d_int) (d_mul (d_mul d_int (d_var 2)) (d_var 2))) d_int) d_int) d_int))
    (dss_cons (ds_set (i := 4) sc_law_draw.nd rfl (Or.inl rfl) (d_mod (d_add (d_add (d_mul (d_var 4) (d_var 4)) (d_mul d_int (d_var 2))) d_int) d_int))
    (dss_one (ds_ret (d_mod (d_div (d_mod (d_mul (d_var 4) d_int) d_int) d_int) (d_var 1)))))))))
theorem dv_law_pick (T : Tops K mg base w0) {f_law_draw : WF} (D_law_draw : Def P w0 K mg base 1 "_law_draw" s_law_draw ["_law_deck_here", "_law_many"] f_law_draw) (f : Addr) (cdv : Value) (A : Around) (outer : List Env) (s : Shared) (H : Hp) (E : XK) (hgd : A.guards = some []) (hr : Room 1 (A.deeper (PyProof.Rows.envOfC "_law_pick" (defScope s_law_pick) s.heap.objs.size f cdv))) :
  PSs (cxOf CX0 P w0 K mg base N_law_pick "_law_pick" (defScope s_law_pick) f cdv A outer s H E).nox (defBody s_law_pick) (tDS K (w_law_pick f_law_draw)) :=
  (dss_one (ds_ret (d_ix (d_var 1) (d_f D_law_draw hgd hr (by decide) (by rfl) (fun _ _ _ _ _ _ us hl => match us, hl with | [_, _], _ => rfl) (da_cons (d_var 0) (da_cons (d_len (by rfl) T.b_len (d_var 1)) da_nil))))))
theorem dv_law_names (T : Tops K mg base w0) {f_law_draw : WF} (D_law_draw : Def P w0 K mg base 1 "_law_draw" s_law_draw ["_law_deck_here", "_law_many"] f_law_draw) (f : Addr) (cdv : Value) (A : Around) (outer : List Env) (s : Shared) (H : Hp) (E : XK) (hgd : A.guards = some []) (hr : Room 1 (A.deeper (PyProof.Rows.envOfC "_law_names" (defScope s_law_names) s.heap.objs.size f cdv))) :
  PSs (cxOf CX0 P w0 K mg base N_law_names "_law_names" (defScope s_law_names) f cdv A outer s H E).nox (defBody s_law_names) (tDS K (w_law_names f_law_draw)) :=
  (dss_cons (ds_asg (d_tup (da_cons (d_f D_law_draw hgd hr (by decide) (by rfl) (fun _ _ _ _ _ _ us hl => match us, hl with | [_, _], _ => rfl) (da_cons (d_var 0) (da_cons d_int da_nil))) (da_cons (d_f D_law_draw hgd hr (by decide) (by rfl) (fun _ _ _ _ _ _ us hl => match us, hl with | [_, _], _ => rfl) (da_cons (d_var 0) (da_cons d_int da_nil))) da_nil))) (dg_tup (n := 2) rfl (dgs_cons (dg_name (i := 2) sc_law_names.nd rfl (Or.inr rfl)) (dgs_cons (dg_name (i := 3) sc_law_names.nd rfl (Or.inr rfl)) dgs_nil))))
    (dss_cons (ds_set (i := 4) sc_law_names.nd rfl (Or.inr rfl) (d_split d_str d_str))
    (dss_one (ds_ret (d_lc (own := [("_law_k", 5)]) (di_range1 (by rfl) T.b_range (d_var 1)) (blkOk_by (own := [("_law_k", 5)]) (N := N_law_names) (sc := defScope s_law_names) (by decide +kernel)) (fun _ _ _ _ _ => dg_name (i := 5) sc_law_names.nd rfl (Or.inl rfl)) (fun _ _ _ _ _ => dts_nil) (fun _ _ _ _ _ => (d_ix (d_ix (d_lst (da_cons (d_var 4) (da_cons d_str da_nil))) (d_var 3)) (d_mod (d_add (d_var 2) (d_mul d_int (d_var 5))) d_int))) sc_law_names.nd)))))
theorem dv_law_schema (T : Tops K mg base w0) {f_law_draw : WF} (D_law_draw : Def P w0 K mg base 1 "_law_draw" s_law_draw ["_law_deck_here", "_law_many"] f_law_draw) {f_law_pick : WF} (D_law_pick : Def P w0 K mg base 2 "_law_pick" s_law_pick ["_law_deck_here", "_law_some"] f_law_pick) (f : Addr) (cdv : Value) (A : Around) (outer : List Env) (s : Shared) (H : Hp) (E : XK) (hgd : A.guards = some []) (hr : Room 2 (A.deeper (PyProof.Rows.envOfC "_law_schema" (defScope s_law_schema) s.heap.objs.size f cdv))) :
  PSs (cxOf CX0 P w0 K mg base N_law_schema "_law_schema" (defScope s_law_schema) f cdv A outer s H E).nox (defBody s_law_schema) (tDS K (w_law_schema f_law_draw f_law_pick)) :=
  (dss_cons (ds_set (i := 3) sc_law_schema.nd rfl (Or.inl rfl) (d_lstM da_nil))
    (dss_cons (ds_set (i := 4) sc_law_schema.nd rfl (Or.inr rfl) (d_lst (da_cons (d_tup (da_cons d_str da_nil)) (da_cons (d_tup (da_cons d_str (da_cons d_str da_nil))) (da_cons (d_tup (da_cons d_str (da_cons d_str (da_cons d_str da_nil)))) (da_cons (d_tup (da_cons d_str da_nil)) (da_cons (d_tup (da_cons d_str (da_cons d_str da_nil))) da_nil)))))))
    (dss_cons (ds_for (di_range1 (by rfl) T.b_range (d_var 2)) (dg_name (i := 5) sc_law_schema.nd rfl (Or.inl rfl)) (dss_cons (ds_set (i := 6) sc_law_schema.nd rfl (Or.inl rfl) (d_tuple (by rfl) T.b_tuple (d_lc (own := [("_law_name", 9)]) (di_list (d_slice (d_var 1) (do_some (d_add d_int (d_var 5))) (do_some (d_add (d_add d_int (d_var 5)) (d_f D_law_draw hgd hr (by decide) (by rfl) (fun _ _ _ _ _ _ us hl => match us, hl with | [_, _], _ => rfl) (da_cons (d_var 0) (da_cons d_int da_nil))))))) (blkOk_by (own := [("_law_name", 9)]) (N := N_law_schema) (sc := defScope s_law_schema) (by decide +kernel)) (fun _ _ _ _ _ => dg_name (i := 9) sc_law_schema.nd rfl (Or.inl rfl)) (fun _ _ _ _ _ => dts_nil) (fun _ _ _ _ _ => (d_tup (da_cons (d_var 9) (da_cons (d_f D_law_pick hgd hr (by decide) (by rfl) (fun _ _ _ _ _ _ us hl => match us, hl with | [_, _], _ => rfl) (da_cons (d_var 0) (da_cons (d_var 4) da_nil))) da_nil)))) sc_law_schema.nd)))
    (dss_cons (ds_set (i := 7) sc_law_schema.nd rfl (Or.inl rfl) (d_if (t_eq hr (d_f D_law_draw hgd hr (by decide) (by rfl) (fun _ _ _ _ _ _ us hl => match us, hl with | [_, _], _ => rfl) (da_cons (d_var 0) (da_cons d_int da_nil))) d_int) (d_tup (da_cons (d_ix (d_ix (d_var 6) d_int) d_int) da_nil)) (d_tup da_nil)))
    (dss_cons (ds_set (i := 8) sc_law_schema.nd rfl (Or.inl rfl) (d_tuple (by rfl) T.b_tuple (d_sorted hr T.sm (by rfl) T.b_sorted (d_lc (own := [("_law_name", 9), ("_law_some", 10)]) (di_tup (d_var 6)) (blkOk_by (own := [("_law_name", 9), ("_law_some", 10)]) (N := N_law_schema) (sc := defScope s_law_schema) (by decide +kernel)) (fun _ _ _ _ _ => dg_tup (n := 2) rfl (dgs_cons (dg_name (i := 9) sc_law_schema.nd rfl (Or.inl rfl)) (dgs_cons (dg_name (i := 10) sc_law_schema.nd rfl (Or.inl rfl)) dgs_nil))) (fun _ _ _ _ _ => (dts_one (t_gt (d_f D_law_draw hgd hr (by decide) (by rfl) (fun _ _ _ _ _ _ us hl => match us, hl with | [_, _], _ => rfl) (da_cons (d_var 0) (da_cons d_int da_nil))) d_int))) (fun _ _ _ _ _ => (d_var 9)) sc_law_schema.nd))))
    (dss_one (ds_expr (d_append (d_var 3) (d_tup (da_cons (d_ix (d_var 1) (d_var 5)) (da_cons (d_var 6) (da_cons (d_var 7) (da_cons (d_var 8) da_nil))))))))))))
    (dss_one (ds_ret (d_tuple (by rfl) T.b_tuple (d_sorted hr T.sm (by rfl) T.b_sorted (d_var 3))))))))
theorem dv_law_any_value (T : Tops K mg base w0) {f_law_pick : WF} (D_law_pick : Def P w0 K mg base 2 "_law_pick" s_law_pick ["_law_deck_here", "_law_some"] f_law_pick) (f : Addr) (cdv : Value) (A : Around) (outer : List Env) (s : Shared) (H : Hp) (E : XK) (hgd : A.guards = some []) (hr : Room 2 (A.deeper (PyProof.Rows.envOfC "_law_any_value" (defScope s_law_any_value) s.heap.objs.size f cdv))) :
  PSs (cxOf CX0 P w0 K mg base N_law_any_value "_law_any_value" (defScope s_law_any_value) f cdv A outer s H E).nox (defBody s_law_any_value) (tDS K (w_law_any_value f_law_pick)) :=
  (dss_cons (ds_set (i := 2) sc_law_any_value.nd rfl (Or.inl rfl) (d_f D_law_pick hgd hr (by decide) (by rfl) (fun _ _ _ _ _ _ us hl => match us, hl with | [_, _], _ => rfl) (da_cons (d_var 0) (da_cons (d_var 1) da_nil))))
    (dss_cons (ds_if (t_eq hr (d_var 2) d_str) (dss_one (ds_ret d_non)) dss_nil)
    (dss_cons (ds_if (t_eq hr (d_var 2) d_str) (dss_one (ds_ret (d_f D_law_pick hgd hr (by decide) (by rfl) (fun _ _ _ _ _ _ us hl => match us, hl with | [_, _], _ => rfl) (da_cons (d_var 0) (da_cons (d_lst (da_cons d_str (da_cons d_str (da_cons d_str da_nil)))) da_nil))))) dss_nil)
    (dss_one (ds_ret (d_f D_law_pick hgd hr (by decide) (by rfl) (fun _ _ _ _ _ _ us hl => match us, hl with | [_, _], _ => rfl) (da_cons (d_var 0) (da_cons (d_lst (da_cons d_int (da_cons d_int (da_cons d_int (da_cons d_int (da_cons d_int (da_cons (d_pow d_int d_int) (da_cons (d_sub d_int (d_pow d_int d_int)) da_nil)))))))) da_nil))))))))
theorem dv_law_column (T : Tops K mg base w0) {f_law_pick : WF} (D_law_pick : Def P w0 K mg base 2 "_law_pick" s_law_pick ["_law_deck_here", "_law_some"] f_law_pick) (f : Addr) (cdv : Value) (A : Around) (outer : List Env) (s : Shared) (H : Hp) (E : XK) (hgd : A.guards = some []) (hr : Room 2 (A.deeper (PyProof.Rows.envOfC "_law_column" (defScope s_law_column) s.heap.objs.size f cdv))) :
  PSs (cxOf CX0 P w0 K mg base N_law_column "_law_column" (defScope s_law_column) f cdv A outer s H E).nox (defBody s_law_column) (tDS K (w_law_column f_law_pick)) :=
  (dss_cons (ds_asg (d_f D_law_pick hgd hr (by decide) (by rfl) (fun _ _ _ _ _ _ us hl => match us, hl with | [_, _], _ => rfl) (da_cons (d_var 0) (da_cons (d_var 2) da_nil))) (dg_tup (n := 2) rfl (dgs_cons (dg_name (i := 3) sc_law_column.nd rfl (Or.inl rfl)) (dgs_cons (dg_name (i := 4) sc_law_column.nd rfl (Or.inl rfl)) dgs_nil))))
    (dss_one (ds_ret (d_tup (da_cons d_str (da_cons (d_var 3) (da_cons (d_f D_law_pick hgd hr (by decide) (by rfl) (fun _ _ _ _ _ _ us hl => match us, hl with | [_, _], _ => rfl) (da_cons (d_var 0) (da_cons (d_dget hr (d_dget hr (d_var 1) d_str) (d_var 4)) da_nil))) da_nil)))))))
theorem dv_law_some_term (T : Tops K mg base w0) {kk lv : Nat} (hlv : 3 ≤ lv) (hkk : kk ≤ lv) {f_law_draw : WF} (D_law_draw : Def P w0 K mg base 1 "_law_draw" s_law_draw ["_law_deck_here", "_law_many"] f_law_draw) {f_law_column : WF} (D_law_column : Def P w0 K mg base 3 "_law_column" s_law_column ["_law_deck_here", "_law_world", "_law_refs"] f_law_column) {f_law_any_value : WF} (D_law_any_value : Def P w0 K mg base 3 "_law_any_value" s_law_any_value ["_law_deck_here", "_law_kinds"] f_law_any_value) {f_law_some_term : WF} (D_law_some_term : Def P w0 K mg base kk "_law_some_term" s_law_some_term ["_law_deck_here", "_law_world", "_law_refs", "_law_deep"] f_law_some_term) {f_law_pick : WF} (D_law_pick : Def P w0 K mg base 2 "_law_pick" s_law_pick ["_law_deck_here", "_law_some"] f_law_pick) (f : Addr) (cdv : Value) (A : Around) (outer : List Env) (s : Shared) (H : Hp) (E : XK) (hgd : A.guards = some []) (hr : Room lv (A.deeper (PyProof.Rows.envOfC "_law_some_term" (defScope s_law_some_term) s.heap.objs.size f cdv))) :
  PSs (cxOf CX0 P w0 K mg base N_law_some_term "_law_some_term" (defScope s_law_some_term) f cdv A outer s H E).nox (defBody s_law_some_term) (tDS K (w_law_some_term f_law_draw f_law_column f_law_any_value f_law_some_term f_law_pick)) :=
  (dss_cons (ds_set (i := 4) sc_law_some_term.nd rfl (Or.inl rfl) (d_f D_law_draw hgd hr (by omega) (by rfl) (fun _ _ _ _ _ _ us hl => match us, hl with | [_, _], _ => rfl) (da_cons (d_var 0) (da_cons d_int da_nil))))
    (dss_cons (ds_if (t_lt hr (d_var 4) d_int) (dss_one (ds_ret (d_f D_law_column hgd hr (by omega) (by rfl) (fun _ _ _ _ _ _ us hl => match us, hl with | [_, _, _], _ => rfl) (da_cons (d_var 0) (da_cons (d_var 1) (da_cons (d_var 2) da_nil)))))) dss_nil)
    (dss_cons (ds_if (PW.pt (dw_or (t_lt hr (d_var 4) d_int) (dw_or1 (t_eq hr (d_var 3) d_int)))) (dss_one (ds_ret (d_tup (da_cons d_str (da_cons (d_f D_law_any_value hgd hr (by omega) (by rfl) (fun _ _ _ _ _ _ us hl => match us, hl with | [_, _], _ => rfl) (da_cons (d_var 0) (da_cons (d_tup (da_cons d_str (da_cons d_str (da_cons d_str (da_cons d_str da_nil))))) da_nil))) da_nil))))) dss_nil)
    (dss_one (ds_ret (d_tup (da_cons d_str (da_cons (d_f D_law_some_term hgd hr (by omega) (by rfl) (fun _ _ _ _ _ _ us hl => match us, hl with | [_, _, _, _], _ => rfl) (da_cons (d_var 0) (da_cons (d_var 1) (da_cons (d_var 2) (da_cons (d_sub (d_var 3) d_int) da_nil))))) (da_cons (d_f D_law_pick hgd hr (by omega) (by rfl) (fun _ _ _ _ _ _ us hl => match us, hl with | [_, _], _ => rfl) (da_cons (d_var 0) (da_cons (d_lst (da_cons d_int (da_cons (d_neg d_int) (da_cons d_int (da_cons (d_pow d_int d_int) da_nil))))) da_nil))) da_nil)))))))))
theorem dv_law_some_leaf (T : Tops K mg base w0) {f_law_pick : WF} (D_law_pick : Def P w0 K mg base 2 "_law_pick" s_law_pick ["_law_deck_here", "_law_some"] f_law_pick) {f_law_some_term : WF} (D_law_some_term : Def P w0 K mg base 10 "_law_some_term" s_law_some_term ["_law_deck_here", "_law_world", "_law_refs", "_law_deep"] f_law_some_term) (f : Addr) (cdv : Value) (A : Around) (outer : List Env) (s : Shared) (H : Hp) (E : XK) (hgd : A.guards = some []) (hr : Room 10 (A.deeper (PyProof.Rows.envOfC "_law_some_leaf" (defScope s_law_some_leaf) s.heap.objs.size f cdv))) :
  PSs (cxOf CX0 P w0 K mg base N_law_some_leaf "_law_some_leaf" (defScope s_law_some_leaf) f cdv A outer s H E).nox (defBody s_law_some_leaf) (tDS K (w_law_some_leaf f_law_pick f_law_some_term)) :=
  (dss_cons (ds_set (i := 4) sc_law_some_leaf.nd rfl (Or.inl rfl) (d_f D_law_pick hgd hr (by decide) (by rfl) (fun _ _ _ _ _ _ us hl => match us, hl with | [_, _], _ => rfl) (da_cons (d_var 0) (da_cons (d_lst (da_cons d_str (da_cons d_str (da_cons d_str (da_cons d_str (da_cons d_str da_nil)))))) da_nil))))
    (dss_cons (ds_set (i := 5) sc_law_some_leaf.nd rfl (Or.inl rfl) (d_f D_law_some_term hgd hr (by decide) (by rfl) (fun _ _ _ _ _ _ us hl => match us, hl with | [_, _, _, _], _ => rfl) (da_cons (d_var 0) (da_cons (d_var 1) (da_cons (d_var 2) (da_cons (d_var 3) da_nil))))))
    (dss_cons (ds_if (t_eq hr (d_var 4) d_str) (dss_one (ds_ret (d_tup (da_cons d_str (da_cons (d_var 5) (da_cons (d_f D_law_pick hgd hr (by decide) (by rfl) (fun _ _ _ _ _ _ us hl => match us, hl with | [_, _], _ => rfl) (da_cons (d_var 0) (da_cons (d_lst (da_cons d_str (da_cons d_str (da_cons d_str da_nil)))) da_nil))) da_nil)))))) dss_nil)
    (dss_one (ds_ret (d_tup (da_cons (d_var 4) (da_cons (d_var 5) (da_cons (d_f D_law_some_term hgd hr (by decide) (by rfl) (fun _ _ _ _ _ _ us hl => match us, hl with | [_, _, _, _], _ => rfl) (da_cons (d_var 0) (da_cons (d_var 1) (da_cons (d_var 2) (da_cons (d_var 3) da_nil))))) da_nil)))))))))
theorem dv_law_inner (T : Tops K mg base w0) {f_law_pick : WF} (D_law_pick : Def P w0 K mg base 2 "_law_pick" s_law_pick ["_law_deck_here", "_law_some"] f_law_pick) {f_law_draw : WF} (D_law_draw : Def P w0 K mg base 1 "_law_draw" s_law_draw ["_law_deck_here", "_law_many"] f_law_draw) {f_law_some_leaf : WF} (D_law_some_leaf : Def P w0 K mg base 11 "_law_some_leaf" s_law_some_leaf ["_law_deck_here", "_law_world", "_law_refs", "_law_deep"] f_law_some_leaf) (f : Addr) (cdv : Value) (A : Around) (outer : List Env) (s : Shared) (H : Hp) (E : XK) (hgd : A.guards = some []) (hr : Room 11 (A.deeper (PyProof.Rows.envOfC "_law_inner" (defScope s_law_inner) s.heap.objs.size f cdv))) :
  PSs (cxOf CX0 P w0 K mg base N_law_inner "_law_inner" (defScope s_law_inner) f cdv A outer s H E).nox (defBody s_law_inner) (tDS K (w_law_inner f_law_pick f_law_draw f_law_some_leaf)) :=
  (dss_cons (ds_set (i := 4) sc_law_inner.nd rfl (Or.inl rfl) (d_tuple (by rfl) T.b_tuple (d_lc (own := [("_law_alias", 5)]) (di_list (d_slice (d_var 3) do_none (do_some (d_add d_int (d_div (d_f D_law_draw hgd hr (by decide) (by rfl) (fun _ _ _ _ _ _ us hl => match us, hl with | [_, _], _ => rfl) (da_cons (d_var 0) (da_cons d_int da_nil))) d_int))))) (blkOk_by (own := [("_law_alias", 5)]) (N := N_law_inner) (sc := defScope s_law_inner) (by decide +kernel)) (fun _ _ _ _ _ => dg_name (i := 5) sc_law_inner.nd rfl (Or.inl rfl)) (fun _ _ _ _ _ => dts_nil) (fun _ _ _ _ _ => (d_tup (da_cons (d_var 5) (da_cons (d_ix (d_f D_law_pick hgd hr (by decide) (by rfl) (fun _ _ _ _ _ _ us hl => match us, hl with | [_, _], _ => rfl) (da_cons (d_var 0) (da_cons (d_dget hr (d_var 1) d_str) da_nil))) d_int) da_nil)))) sc_law_inner.nd)))
    (dss_cons (ds_set (i := 6) sc_law_inner.nd rfl (Or.inl rfl) (d_f D_law_some_leaf hgd hr (by decide) (by rfl) (fun _ _ _ _ _ _ us hl => match us, hl with | [_, _, _, _], _ => rfl) (da_cons (d_var 0) (da_cons (d_var 1) (da_cons (d_add (d_add (d_var 4) (d_var 4)) (d_var 2)) (da_cons d_int da_nil))))))
    (dss_cons (ds_set (i := 7) sc_law_inner.nd rfl (Or.inl rfl) (d_f D_law_pick hgd hr (by decide) (by rfl) (fun _ _ _ _ _ _ us hl => match us, hl with | [_, _], _ => rfl) (da_cons (d_var 0) (da_cons (d_lst (da_cons d_str (da_cons d_str (da_cons d_str (da_cons d_str (da_cons d_str da_nil)))))) da_nil))))
    (dss_cons (ds_if (t_eq hr (d_var 7) d_str) (dss_one (ds_ret (d_tup (da_cons (d_var 4) (da_cons (d_tup (da_cons d_str (da_cons (d_var 6) da_nil))) da_nil))))) dss_nil)
    (dss_one (ds_ret (d_tup (da_cons (d_var 4) (da_cons (d_if (t_eq hr (d_var 7) d_str) (d_var 6) (d_tup (da_cons (d_var 7) (da_cons (d_var 6) (da_cons (d_f D_law_some_leaf hgd hr (by decide) (by rfl) (fun _ _ _ _ _ _ us hl => match us, hl with | [_, _, _, _], _ => rfl) (da_cons (d_var 0) (da_cons (d_var 1) (da_cons (d_add (d_var 4) (d_var 2)) (da_cons d_int da_nil))))) da_nil))))) da_nil)))))))))
theorem dv_law_condition (T : Tops K mg base w0) {kk lv : Nat} (hlv : 12 ≤ lv) (hkk : kk ≤ lv) {f_law_draw : WF} (D_law_draw : Def P w0 K mg base 1 "_law_draw" s_law_draw ["_law_deck_here", "_law_many"] f_law_draw) {f_law_condition : WF} (D_law_condition : Def P w0 K mg base kk "_law_condition" s_law_condition ["_law_deck_here", "_law_world", "_law_refs", "_law_aliases", "_law_deep"] f_law_condition) {f_law_inner : WF} (D_law_inner : Def P w0 K mg base 12 "_law_inner" s_law_inner ["_law_deck_here", "_law_world", "_law_refs", "_law_aliases"] f_law_inner) {f_law_pick : WF} (D_law_pick : Def P w0 K mg base 2 "_law_pick" s_law_pick ["_law_deck_here", "_law_some"] f_law_pick) {f_law_column : WF} (D_law_column : Def P w0 K mg base 3 "_law_column" s_law_column ["_law_deck_here", "_law_world", "_law_refs"] f_law_column) {f_law_some_leaf : WF} (D_law_some_leaf : Def P w0 K mg base 11 "_law_some_leaf" s_law_some_leaf ["_law_deck_here", "_law_world", "_law_refs", "_law_deep"] f_law_some_leaf) (f : Addr) (cdv : Value) (A : Around) (outer : List Env) (s : Shared) (H : Hp) (E : XK) (hgd : A.guards = some []) (hr : Room lv (A.deeper (PyProof.Rows.envOfC "_law_condition" (defScope s_law_condition) s.heap.objs.size f cdv))) :
  PSs (cxOf CX0 P w0 K mg base N_law_condition "_law_condition" (defScope s_law_condition) f cdv A outer s H E).nox (defBody s_law_condition) (tDS K (w_law_condition f_law_draw f_law_condition f_law_inner f_law_pick f_law_column f_law_some_leaf)) :=
  (dss_cons (ds_set (i := 5) sc_law_condition.nd rfl (Or.inl rfl) (d_f D_law_draw hgd hr (by omega) (by rfl) (fun _ _ _ _ _ _ us hl => match us, hl with | [_, _], _ => rfl) (da_cons (d_var 0) (da_cons d_int da_nil))))
    (dss_cons (ds_if (PW.pt (dw_and (t_gt (d_var 4) d_int) (dw_and1 (t_lt hr (d_var 5) d_int)))) (dss_cons (ds_set (i := 6) sc_law_condition.nd rfl (Or.inl rfl) (d_f D_law_condition hgd hr (by omega) (by rfl) (fun _ _ _ _ _ _ us hl => match us, hl with | [_, _, _, _, _], _ => rfl) (da_cons (d_var 0) (da_cons (d_var 1) (da_cons (d_var 2) (da_cons (d_var 3) (da_cons (d_sub (d_var 4) d_int) da_nil)))))))
    (dss_one (ds_ret (d_tup (da_cons (d_ix (d_lst (da_cons d_str (da_cons d_str (da_cons d_str (da_cons d_str da_nil))))) (d_var 5)) (da_cons (d_var 6) (da_cons (d_f D_law_condition hgd hr (by omega) (by rfl) (fun _ _ _ _ _ _ us hl => match us, hl with | [_, _, _, _, _], _ => rfl) (da_cons (d_var 0) (da_cons (d_var 1) (da_cons (d_var 2) (da_cons (d_var 3) (da_cons (d_sub (d_var 4) d_int) da_nil)))))) da_nil))))))) dss_nil)
    (dss_cons (ds_if (PW.pt (dw_and (t_gt (d_var 4) d_int) (dw_and1 (t_eq hr (d_var 5) d_int)))) (dss_one (ds_ret (d_tup (da_cons d_str (da_cons (d_f D_law_condition hgd hr (by omega) (by rfl) (fun _ _ _ _ _ _ us hl => match us, hl with | [_, _, _, _, _], _ => rfl) (da_cons (d_var 0) (da_cons (d_var 1) (da_cons (d_var 2) (da_cons (d_var 3) (da_cons (d_sub (d_var 4) d_int) da_nil)))))) da_nil))))) dss_nil)
    (dss_cons (ds_if (PW.pt (dw_and (t_eq hr (d_var 5) d_int) (dw_and1 (t_gt (d_len (by rfl) T.b_len (d_var 3)) d_int)))) (dss_cons (ds_set (i := 7) sc_law_condition.nd rfl (Or.inl rfl) (d_lst (da_cons (d_pop (d_var 3)) (da_cons (d_pop (d_var 3)) da_nil))))
    (dss_cons (ds_set (i := 8) sc_law_condition.nd rfl (Or.inl rfl) (d_f D_law_inner hgd hr (by omega) (by rfl) (fun _ _ _ _ _ _ us hl => match us, hl with | [_, _, _, _], _ => rfl) (da_cons (d_var 0) (da_cons (d_var 1) (da_cons (d_var 2) (da_cons (d_var 7) da_nil))))))
    (dss_cons (ds_set (i := 9) sc_law_condition.nd rfl (Or.inl rfl) (d_tup (da_cons d_str (da_cons (d_ix (d_var 7) d_int) (da_cons (d_ix (d_dget hr (d_dget hr (d_var 1) d_str) (d_ix (d_ix (d_ix (d_var 8) d_int) d_int) d_int)) d_int) da_nil)))))
    (dss_cons (ds_set (i := 10) sc_law_condition.nd rfl (Or.inl rfl) (d_lst (da_cons (d_tup (da_cons d_str (da_cons (d_var 8) da_nil))) (da_cons (d_tup (da_cons d_str (da_cons (d_f D_law_column hgd hr (by omega) (by rfl) (fun _ _ _ _ _ _ us hl => match us, hl with | [_, _, _], _ => rfl) (da_cons (d_var 0) (da_cons (d_var 1) (da_cons (d_var 2) da_nil)))) (da_cons (d_tup (da_cons d_str (da_cons (d_var 8) (da_cons (d_var 9) da_nil)))) da_nil)))) da_nil))))
    (dss_one (ds_ret (d_f D_law_pick hgd hr (by omega) (by rfl) (fun _ _ _ _ _ _ us hl => match us, hl with | [_, _], _ => rfl) (da_cons (d_var 0) (da_cons (d_add (d_var 10) (d_lst (da_cons (d_tup (da_cons d_str (da_cons (d_tup (da_cons d_str (da_cons (d_var 8) (da_cons (d_var 9) da_nil)))) (da_cons d_str da_nil)))) da_nil))) da_nil))))))))) dss_nil)
    (dss_one (ds_ret (d_f D_law_some_leaf hgd hr (by omega) (by rfl) (fun _ _ _ _ _ _ us hl => match us, hl with | [_, _, _, _], _ => rfl) (da_cons (d_var 0) (da_cons (d_var 1) (da_cons (d_var 2) (da_cons d_int da_nil)))))))))))
theorem dv_law_drawn (T : Tops K mg base w0) {f_law_pick : WF} (D_law_pick : Def P w0 K mg base 2 "_law_pick" s_law_pick ["_law_deck_here", "_law_some"] f_law_pick) {f_law_draw : WF} (D_law_draw : Def P w0 K mg base 1 "_law_draw" s_law_draw ["_law_deck_here", "_law_many"] f_law_draw) {f_law_condition : WF} (D_law_condition : Def P w0 K mg base 20 "_law_condition" s_law_condition ["_law_deck_here", "_law_world", "_law_refs", "_law_aliases", "_law_deep"] f_law_condition) {f_law_some_term : WF} (D_law_some_term : Def P w0 K mg base 10 "_law_some_term" s_law_some_term ["_law_deck_here", "_law_world", "_law_refs", "_law_deep"] f_law_some_term) {f_law_column : WF} (D_law_column : Def P w0 K mg base 3 "_law_column" s_law_column ["_law_deck_here", "_law_world", "_law_refs"] f_law_column) (f : Addr) (cdv : Value) (A : Around) (outer : List Env) (s : Shared) (H : Hp) (E : XK) (hgd : A.guards = some []) (hr : Room 20 (A.deeper (PyProof.Rows.envOfC "_law_drawn" (defScope s_law_drawn) s.heap.objs.size f cdv))) :
  PSs (cxOf CX0 P w0 K mg base N_law_drawn "_law_drawn" (defScope s_law_drawn) f cdv A outer s H E).nox (defBody s_law_drawn) (tDS K (w_law_drawn f_law_pick f_law_draw f_law_condition f_law_some_term f_law_column)) :=
  (dss_cons (ds_set (i := 4) sc_law_drawn.nd rfl (Or.inr rfl) (d_listM (by rfl) T.b_list (d_var 2)))
    (dss_cons (ds_set (i := 5) sc_law_drawn.nd rfl (Or.inr rfl) (d_tuple (by rfl) T.b_tuple (d_lc (own := [("_law_k", 6)]) (di_range1 (by rfl) T.b_range (d_add d_int (d_f D_law_draw hgd hr (by decide) (by rfl) (fun _ _ _ _ _ _ us hl => match us, hl with | [_, _], _ => rfl) (da_cons (d_var 0) (da_cons (d_var 3) da_nil))))) (blkOk_by (own := [("_law_k", 6)]) (N := N_law_drawn) (sc := defScope s_law_drawn) (by decide +kernel)) (fun _ _ _ _ _ => dg_name (i := 6) sc_law_drawn.nd rfl (Or.inl rfl)) (fun _ _ _ _ _ => dts_nil) (fun _ _ _ _ _ => (d_tup (da_cons (d_pop (d_var 4)) (da_cons (d_ix (d_f D_law_pick hgd hr (by decide) (by rfl) (fun _ _ _ _ _ _ us hl => match us, hl with | [_, _], _ => rfl) (da_cons (d_var 0) (da_cons (d_dget hr (d_var 1) d_str) da_nil))) d_int) da_nil)))) sc_law_drawn.nd)))
    (dss_cons (ds_set (i := 7) sc_law_drawn.nd rfl (Or.inl rfl) (d_if (t_gt (d_f D_law_draw hgd hr (by decide) (by rfl) (fun _ _ _ _ _ _ us hl => match us, hl with | [_, _], _ => rfl) (da_cons (d_var 0) (da_cons d_int da_nil))) d_int) (d_f D_law_condition hgd hr (by decide) (by rfl) (fun _ _ _ _ _ _ us hl => match us, hl with | [_, _, _, _, _], _ => rfl) (da_cons (d_var 0) (da_cons (d_var 1) (da_cons (d_var 5) (da_cons (d_var 4) (da_cons d_int da_nil)))))) d_non))
    (dss_cons (ds_set (i := 8) sc_law_drawn.nd rfl (Or.inl rfl) (d_tuple (by rfl) T.b_tuple (d_lc (own := [("_law_k", 6)]) (di_range1 (by rfl) T.b_range (d_add d_int (d_f D_law_draw hgd hr (by decide) (by rfl) (fun _ _ _ _ _ _ us hl => match us, hl with | [_, _], _ => rfl) (da_cons (d_var 0) (da_cons d_int da_nil))))) (blkOk_by (own := [("_law_k", 6)]) (N := N_law_drawn) (sc := defScope s_law_drawn) (by decide +kernel)) (fun _ _ _ _ _ => dg_name (i := 6) sc_law_drawn.nd rfl (Or.inl rfl)) (fun _ _ _ _ _ => dts_nil) (fun _ _ _ _ _ => (d_f D_law_some_term hgd hr (by decide) (by rfl) (fun _ _ _ _ _ _ us hl => match us, hl with | [_, _, _, _], _ => rfl) (da_cons (d_var 0) (da_cons (d_var 1) (da_cons (d_var 5) (da_cons d_int da_nil)))))) sc_law_drawn.nd)))
    (dss_cons (ds_set (i := 9) sc_law_drawn.nd rfl (Or.inl rfl) (d_tuple (by rfl) T.b_tuple (d_lc (own := [("_law_k", 6)]) (di_range1 (by rfl) T.b_range (d_ix (d_lst (da_cons d_int (da_cons d_int (da_cons d_int (da_cons d_int (da_cons d_int da_nil)))))) (d_f D_law_draw hgd hr (by decide) (by rfl) (fun _ _ _ _ _ _ us hl => match us, hl with | [_, _], _ => rfl) (da_cons (d_var 0) (da_cons d_int da_nil))))) (blkOk_by (own := [("_law_k", 6)]) (N := N_law_drawn) (sc := defScope s_law_drawn) (by decide +kernel)) (fun _ _ _ _ _ => dg_name (i := 6) sc_law_drawn.nd rfl (Or.inl rfl)) (fun _ _ _ _ _ => dts_nil) (fun _ _ _ _ _ => (d_f D_law_column hgd hr (by decide) (by rfl) (fun _ _ _ _ _ _ us hl => match us, hl with | [_, _, _], _ => rfl) (da_cons (d_var 0) (da_cons (d_var 1) (da_cons (d_var 5) da_nil))))) sc_law_drawn.nd)))
    (dss_one (ds_ret (d_tup (da_cons (d_var 5) (da_cons (d_var 7) (da_cons (d_var 8) (da_cons (d_var 9) (da_cons (d_f D_law_pick hgd hr (by decide) (by rfl) (fun _ _ _ _ _ _ us hl => match us, hl with | [_, _], _ => rfl) (da_cons (d_var 0) (da_cons (d_lst (da_cons d_non (da_cons d_non (da_cons d_int (da_cons d_int (da_cons d_int (da_cons d_int da_nil))))))) da_nil))) da_nil)))))))))))))
theorem dv_law_below (T : Tops K mg base w0) (f : Addr) (cdv : Value) (A : Around) (outer : List Env) (s : Shared) (H : Hp) (E : XK) (hgd : A.guards = some []) (hr : Room 0 (A.deeper (PyProof.Rows.envOfC "_law_below" (defScope s_law_below) s.heap.objs.size f cdv))) :
  PSs (cxOf CX0 P w0 K mg base N_law_below "_law_below" (defScope s_law_below) f cdv A outer s H E).nox (defBody s_law_below) (tDS K (w_law_below)) :=
  (dss_cons (ds_if (t_in hr (d_ix (d_var 0) d_int) (d_tup (da_cons d_str (da_cons d_str da_nil))) (by rfl)) (dss_one (ds_ret (d_lst da_nil))) dss_nil)
    (dss_cons (ds_if (t_in hr (d_ix (d_var 0) d_int) (d_tup (da_cons d_str (da_cons d_str (da_cons d_str da_nil)))) (by rfl)) (dss_one (ds_ret (d_lst (da_cons (d_tup (da_cons (d_tup (da_cons d_int da_nil)) (da_cons (d_ix (d_var 0) d_int) da_nil))) da_nil)))) dss_nil)
    (dss_cons (ds_if (t_eq hr (d_ix (d_var 0) d_int) d_str) (dss_one (ds_ret (d_lst (da_cons (d_tup (da_cons (d_tup (da_cons d_int (da_cons d_int da_nil))) (da_cons (d_ix (d_ix (d_var 0) d_int) d_int) da_nil))) da_nil)))) dss_nil)
    (dss_cons (ds_if (t_in hr (d_ix (d_var 0) d_int) (d_tup (da_cons d_str (da_cons d_str da_nil))) (by rfl)) (dss_one (ds_ret (d_lst (da_cons (d_tup (da_cons (d_tup (da_cons d_int (da_cons d_int da_nil))) (da_cons (d_ix (d_ix (d_var 0) d_int) d_int) da_nil))) (da_cons (d_tup (da_cons (d_tup (da_cons d_int da_nil)) (da_cons (d_ix (d_var 0) d_int) da_nil))) da_nil))))) dss_nil)
    (dss_one (ds_ret (d_lst (da_cons (d_tup (da_cons (d_tup (da_cons d_int da_nil)) (da_cons (d_ix (d_var 0) d_int) da_nil))) (da_cons (d_tup (da_cons (d_tup (da_cons d_int da_nil)) (da_cons (d_ix (d_var 0) d_int) da_nil))) da_nil)))))))))
theorem dv_law_all (T : Tops K mg base w0) {kk lv : Nat} (hlv : 1 ≤ lv) (hkk : kk ≤ lv) {f_law_below : WF} (D_law_below : Def P w0 K mg base 1 "_law_below" s_law_below ["_law_part"] f_law_below) {f_law_all : WF} (D_law_all : Def P w0 K mg base kk "_law_all" s_law_all ["_law_part", "_law_lead"] f_law_all) (f : Addr) (cdv : Value) (A : Around) (outer : List Env) (s : Shared) (H : Hp) (E : XK) (hgd : A.guards = some []) (hr : Room lv (A.deeper (PyProof.Rows.envOfC "_law_all" (defScope s_law_all) s.heap.objs.size f cdv))) :
  PSs (cxOf CX0 P w0 K mg base N_law_all "_law_all" (defScope s_law_all) f cdv A outer s H E).nox (defBody s_law_all) (tDS K (w_law_all f_law_below f_law_all)) :=
  (dss_cons (ds_set (i := 2) sc_law_all.nd rfl (Or.inl rfl) (d_lst (da_cons (d_tup (da_cons (d_var 1) (da_cons (d_var 0) da_nil))) da_nil)))
    (dss_cons (ds_for (di_list (d_f D_law_below hgd hr (by omega) (by rfl) (fun _ _ _ _ _ _ us hl => match us, hl with | [_], _ => rfl) (da_cons (d_var 0) da_nil))) (dg_tup (n := 2) rfl (dgs_cons (dg_name (i := 3) sc_law_all.nd rfl (Or.inl rfl)) (dgs_cons (dg_name (i := 4) sc_law_all.nd rfl (Or.inl rfl)) dgs_nil))) (dss_one (ds_set (i := 2) sc_law_all.nd rfl (Or.inl rfl) (d_add (d_var 2) (d_f D_law_all hgd hr (by omega) (by rfl) (fun _ _ _ _ _ _ us hl => match us, hl with | [_, _], _ => rfl) (da_cons (d_var 4) (da_cons (d_add (d_var 1) (d_var 3)) da_nil)))))))
    (dss_one (ds_ret (d_var 2)))))
theorem dv_law_every (T : Tops K mg base w0) {f_law_all : WF} (D_law_all : Def P w0 K mg base 40 "_law_all" s_law_all ["_law_part", "_law_lead"] f_law_all) (f : Addr) (cdv : Value) (A : Around) (outer : List Env) (s : Shared) (H : Hp) (E : XK) (hgd : A.guards = some []) (hr : Room 40 (A.deeper (PyProof.Rows.envOfC "_law_every" (defScope s_law_every) s.heap.objs.size f cdv))) :
  PSs (cxOf CX0 P w0 K mg base N_law_every "_law_every" (defScope s_law_every) f cdv A outer s H E).nox (defBody s_law_every) (tDS K (w_law_every f_law_all)) :=
  (dss_cons (ds_set (i := 1) sc_law_every.nd rfl (Or.inl rfl) (d_if (t_is (d_ix (d_var 0) d_int) d_non) (d_lst da_nil) (d_f D_law_all hgd hr (by decide) (by rfl) (fun _ _ _ _ _ _ us hl => match us, hl with | [_, _], _ => rfl) (da_cons (d_ix (d_var 0) d_int) (da_cons (d_tup (da_cons d_int da_nil)) da_nil)))))
    (dss_cons (ds_for (di_enumT (by rfl) T.b_enumerate (d_ix (d_var 0) d_int)) (dg_tup (n := 2) rfl (dgs_cons (dg_name (i := 2) sc_law_every.nd rfl (Or.inl rfl)) (dgs_cons (dg_name (i := 3) sc_law_every.nd rfl (Or.inl rfl)) dgs_nil))) (dss_one (ds_set (i := 1) sc_law_every.nd rfl (Or.inl rfl) (d_add (d_var 1) (d_f D_law_all hgd hr (by decide) (by rfl) (fun _ _ _ _ _ _ us hl => match us, hl with | [_, _], _ => rfl) (da_cons (d_var 3) (da_cons (d_tup (da_cons d_int (da_cons (d_var 2) da_nil))) da_nil)))))))
    (dss_one (ds_ret (d_var 1)))))
theorem dv_law_leaves (T : Tops K mg base w0) {kk lv : Nat} (hlv : 0 ≤ lv) (hkk : kk ≤ lv) {f_law_leaves : WF} (D_law_leaves : Def P w0 K mg base kk "_law_leaves" s_law_leaves ["_law_condition_here", "_law_lead"] f_law_leaves) (f : Addr) (cdv : Value) (A : Around) (outer : List Env) (s : Shared) (H : Hp) (E : XK) (hgd : A.guards = some []) (hr : Room lv (A.deeper (PyProof.Rows.envOfC "_law_leaves" (defScope s_law_leaves) s.heap.objs.size f cdv))) :
  PSs (cxOf CX0 P w0 K mg base N_law_leaves "_law_leaves" (defScope s_law_leaves) f cdv A outer s H E).nox (defBody s_law_leaves) (tDS K (w_law_leaves f_law_leaves)) :=
  (dss_cons (ds_if (t_eq hr (d_ix (d_var 0) d_int) d_str) (dss_one (ds_ret (d_f D_law_leaves hgd hr (by omega) (by rfl) (fun _ _ _ _ _ _ us hl => match us, hl with | [_, _], _ => rfl) (da_cons (d_ix (d_var 0) d_int) (da_cons (d_add (d_var 1) (d_tup (da_cons d_int da_nil))) da_nil))))) dss_nil)
    (dss_cons (ds_if (t_in hr (d_ix (d_var 0) d_int) (d_tup (da_cons d_str (da_cons d_str da_nil))) (by rfl)) (dss_one (ds_ret (d_add (d_f D_law_leaves hgd hr (by omega) (by rfl) (fun _ _ _ _ _ _ us hl => match us, hl with | [_, _], _ => rfl) (da_cons (d_ix (d_var 0) d_int) (da_cons (d_add (d_var 1) (d_tup (da_cons d_int da_nil))) da_nil))) (d_f D_law_leaves hgd hr (by omega) (by rfl) (fun _ _ _ _ _ _ us hl => match us, hl with | [_, _], _ => rfl) (da_cons (d_ix (d_var 0) d_int) (da_cons (d_add (d_var 1) (d_tup (da_cons d_int da_nil))) da_nil)))))) dss_nil)
    (dss_one (ds_ret (d_lst (da_cons (d_var 1) da_nil))))))
theorem dv_law_widened (T : Tops K mg base w0) {f_law_pick : WF} (D_law_pick : Def P w0 K mg base 2 "_law_pick" s_law_pick ["_law_deck_here", "_law_some"] f_law_pick) {f_law_some_leaf : WF} (D_law_some_leaf : Def P w0 K mg base 11 "_law_some_leaf" s_law_some_leaf ["_law_deck_here", "_law_world", "_law_refs", "_law_deep"] f_law_some_leaf) {f_law_column : WF} (D_law_column : Def P w0 K mg base 3 "_law_column" s_law_column ["_law_deck_here", "_law_world", "_law_refs"] f_law_column) {f_law_some_term : WF} (D_law_some_term : Def P w0 K mg base 10 "_law_some_term" s_law_some_term ["_law_deck_here", "_law_world", "_law_refs", "_law_deep"] f_law_some_term) (f : Addr) (cdv : Value) (A : Around) (outer : List Env) (s : Shared) (H : Hp) (E : XK) (hgd : A.guards = some []) (hr : Room 11 (A.deeper (PyProof.Rows.envOfC "_law_widened" (defScope s_law_widened) s.heap.objs.size f cdv))) :
  PSs (cxOf CX0 P w0 K mg base N_law_widened "_law_widened" (defScope s_law_widened) f cdv A outer s H E).nox (defBody s_law_widened) (tDS K (w_law_widened f_law_pick f_law_some_leaf f_law_column f_law_some_term)) :=
  (dss_cons (ds_set (i := 4) sc_law_widened.nd rfl (Or.inl rfl) (d_tup (da_cons (d_tup (da_cons (d_ix (d_var 3) d_int) (da_cons (d_ix (d_f D_law_pick hgd hr (by decide) (by rfl) (fun _ _ _ _ _ _ us hl => match us, hl with | [_, _], _ => rfl) (da_cons (d_var 0) (da_cons (d_dget hr (d_var 1) d_str) da_nil))) d_int) da_nil))) da_nil)))
    (dss_cons (ds_set (i := 5) sc_law_widened.nd rfl (Or.inl rfl) (d_tup (da_cons d_str (da_cons (d_ix (d_var 3) d_int) (da_cons (d_ix (d_dget hr (d_dget hr (d_var 1) d_str) (d_ix (d_ix (d_var 4) d_int) d_int)) d_int) da_nil)))))
    (dss_cons (ds_set (i := 6) sc_law_widened.nd rfl (Or.inl rfl) (d_tup (da_cons (d_var 4) (da_cons (d_f D_law_some_leaf hgd hr (by decide) (by rfl) (fun _ _ _ _ _ _ us hl => match us, hl with | [_, _, _, _], _ => rfl) (da_cons (d_var 0) (da_cons (d_var 1) (da_cons (d_add (d_var 4) (d_ix (d_var 2) d_int)) (da_cons d_int da_nil))))) da_nil))))
    (dss_cons (ds_set (i := 5) sc_law_widened.nd rfl (Or.inl rfl) (d_f D_law_pick hgd hr (by decide) (by rfl) (fun _ _ _ _ _ _ us hl => match us, hl with | [_, _], _ => rfl) (da_cons (d_var 0) (da_cons (d_lst (da_cons (d_var 5) (da_cons (d_f D_law_column hgd hr (by decide) (by rfl) (fun _ _ _ _ _ _ us hl => match us, hl with | [_, _, _], _ => rfl) (da_cons (d_var 0) (da_cons (d_var 1) (da_cons (d_ix (d_var 2) d_int) da_nil)))) da_nil))) da_nil))))
    (dss_cons (ds_set (i := 7) sc_law_widened.nd rfl (Or.inl rfl) (d_tup (da_cons (d_f D_law_pick hgd hr (by decide) (by rfl) (fun _ _ _ _ _ _ us hl => match us, hl with | [_, _], _ => rfl) (da_cons (d_var 0) (da_cons (d_lst (da_cons d_str (da_cons d_str da_nil))) da_nil))) (da_cons (d_var 6) (da_cons (d_var 5) da_nil)))))
    (dss_cons (ds_set (i := 8) sc_law_widened.nd rfl (Or.inl rfl) (d_add (d_ix (d_var 2) d_int) (d_tup (da_cons (d_tup (da_cons d_str (da_cons (d_var 7) (da_cons d_int da_nil)))) (da_cons (d_f D_law_some_term hgd hr (by decide) (by rfl) (fun _ _ _ _ _ _ us hl => match us, hl with | [_, _, _, _], _ => rfl) (da_cons (d_var 0) (da_cons (d_var 1) (da_cons (d_ix (d_var 2) d_int) (da_cons d_int da_nil))))) da_nil)))))
    (dss_one (ds_ret (d_add (d_add (d_slice (d_var 2) do_none (do_some d_int)) (d_tup (da_cons (d_var 8) da_nil))) (d_slice (d_var 2) (do_some d_int) do_none))))))))))
theorem dv_law_right (T : Tops K mg base w0) {f_law_every : WF} (D_law_every : Def P w0 K mg base 41 "_law_every" s_law_every ["_law_asked"] f_law_every) {f_law_leaves : WF} (D_law_leaves : Def P w0 K mg base 40 "_law_leaves" s_law_leaves ["_law_condition_here", "_law_lead"] f_law_leaves) {f_main_parts : WF} (D_main_parts : Def P w0 K mg base 4 "main_parts" s_main_parts ["question"] f_main_parts) {f_part_at : WF} (D_part_at : Def P w0 K mg base 1 "part_at" s_part_at ["question", "place"] f_part_at) {f_named : WF} (D_named : Def P w0 K mg base 5 "named" s_named ["question", "place"] f_named) (f : Addr) (cdv : Value) (A : Around) (outer : List Env) (s : Shared) (H : Hp) (E : XK) (hgd : A.guards = some []) (hr : Room 41 (A.deeper (PyProof.Rows.envOfC "_law_right" (defScope s_law_right) s.heap.objs.size f cdv))) :
  PSs (cxOf CX0 P w0 K mg base N_law_right "_law_right" (defScope s_law_right) f cdv A outer s H E).nox (defBody s_law_right) (tDS K (w_law_right f_law_every f_law_leaves f_main_parts f_part_at f_named)) :=
  (dss_cons (ds_par (i := 1) (j := 2) sc_law_right.nd rfl rfl (by decide) rfl rfl (da_cons (d_lc (own := [("_law_alias", 3), ("_law_table", 4)]) (di_tup (d_ix (d_var 0) d_int)) (blkOk_by (own := [("_law_alias", 3), ("_law_table", 4)]) (N := N_law_right) (sc := defScope s_law_right) (by decide +kernel)) (fun _ _ _ _ _ => dg_tup (n := 2) rfl (dgs_cons (dg_name (i := 3) sc_law_right.nd rfl (Or.inl rfl)) (dgs_cons (dg_name (i := 4) sc_law_right.nd rfl (Or.inl rfl)) dgs_nil))) (fun _ _ _ _ _ => dts_nil) (fun _ _ _ _ _ => (d_var 3)) sc_law_right.nd) (da_cons (d_f D_law_every hgd hr (by decide) (by rfl) (fun _ _ _ _ _ _ us hl => match us, hl with | [_], _ => rfl) (da_cons (d_var 0) da_nil)) da_nil)) (by rfl))
    (dss_cons (ds_set (i := 5) sc_law_right.nd rfl (Or.inl rfl) (d_if (t_is (d_ix (d_var 0) d_int) d_non) (d_lst da_nil) (d_f D_law_leaves hgd hr (by decide) (by rfl) (fun _ _ _ _ _ _ us hl => match us, hl with | [_, _], _ => rfl) (da_cons (d_ix (d_var 0) d_int) (da_cons (d_tup (da_cons d_int da_nil)) da_nil)))))
    (dss_cons (ds_set (i := 6) sc_law_right.nd rfl (Or.inl rfl) (d_tuple (by rfl) T.b_tuple (d_add (d_var 5) (d_lc (own := [("_law_k", 7)]) (di_range1 (by rfl) T.b_range (d_len (by rfl) T.b_len (d_ix (d_var 0) d_int))) (blkOk_by (own := [("_law_k", 7)]) (N := N_law_right) (sc := defScope s_law_right) (by decide +kernel)) (fun _ _ _ _ _ => dg_name (i := 7) sc_law_right.nd rfl (Or.inl rfl)) (fun _ _ _ _ _ => dts_nil) (fun _ _ _ _ _ => (d_tup (da_cons d_int (da_cons (d_var 7) da_nil)))) sc_law_right.nd))))
    (dss_cons (ds_if (PW.pt (dw_or (t_ne hr (d_repr hgd hr T.sm (by rfl) T.b_repr (d_f D_main_parts hgd hr (by decide) (by rfl) (fun _ _ _ _ _ _ us hl => match us, hl with | [_], _ => rfl) (da_cons (d_var 0) da_nil))) (d_repr hgd hr T.sm (by rfl) T.b_repr (d_var 6))) (dw_or1 (t_ne hr (d_repr hgd hr T.sm (by rfl) T.b_repr (d_fK (ks := ["question"]) [0] D_main_parts hgd hr (by decide) (by rfl) (fun _ _ _ _ _ _ ws hl => match ws, hl with | _ :: _, _ => rfl) (dk_cons (d_var 0) dk_nil))) (d_repr hgd hr T.sm (by rfl) T.b_repr (d_var 6)))))) (dss_one (ds_ret d_bl)) dss_nil)
    (dss_cons (ds_if (t_ne hr (d_repr hgd hr T.sm (by rfl) T.b_repr (d_f D_part_at hgd hr (by decide) (by rfl) (fun _ _ _ _ _ _ us hl => match us, hl with | [_, _], _ => rfl) (da_cons (d_var 0) (da_cons (d_tup da_nil) da_nil)))) (d_repr hgd hr T.sm (by rfl) T.b_repr (d_var 0))) (dss_one (ds_ret d_bl)) dss_nil)
    (dss_cons (ds_if (t_ne hr (d_lc (own := [("_law_k", 7), ("_law_column_here", 8)]) (di_enumT (by rfl) T.b_enumerate (d_ix (d_var 0) d_int)) (blkOk_by (own := [("_law_k", 7), ("_law_column_here", 8)]) (N := N_law_right) (sc := defScope s_law_right) (by decide +kernel)) (fun _ _ _ _ _ => dg_tup (n := 2) rfl (dgs_cons (dg_name (i := 7) sc_law_right.nd rfl (Or.inl rfl)) (dgs_cons (dg_name (i := 8) sc_law_right.nd rfl (Or.inl rfl)) dgs_nil))) (fun _ _ _ _ _ => (dts_one (t_ne hr (d_repr hgd hr T.sm (by rfl) T.b_repr (d_f D_part_at hgd hr (by decide) (by rfl) (fun _ _ _ _ _ _ us hl => match us, hl with | [_, _], _ => rfl) (da_cons (d_var 0) (da_cons (d_tup (da_cons d_int (da_cons (d_var 7) da_nil))) da_nil)))) (d_repr hgd hr T.sm (by rfl) T.b_repr (d_var 8))))) (fun _ _ _ _ _ => d_int) sc_law_right.nd) (d_lst da_nil)) (dss_one (ds_ret d_bl)) dss_nil)
    (dss_cons (ds_for (di_list (d_var 2)) (dg_tup (n := 2) rfl (dgs_cons (dg_name (i := 9) sc_law_right.nd rfl (Or.inr rfl)) (dgs_cons (dg_name (i := 10) sc_law_right.nd rfl (Or.inl rfl)) dgs_nil))) (dss_cons (ds_if (PW.pt (dw_or (t_ne hr (d_repr hgd hr T.sm (by rfl) T.b_repr (d_f D_part_at hgd hr (by decide) (by rfl) (fun _ _ _ _ _ _ us hl => match us, hl with | [_, _], _ => rfl) (da_cons (d_var 0) (da_cons (d_var 9) da_nil)))) (d_repr hgd hr T.sm (by rfl) T.b_repr (d_var 10))) (dw_or1 (t_ne hr (d_repr hgd hr T.sm (by rfl) T.b_repr (d_fK (ks := ["place", "question"]) [1, 0] D_part_at hgd hr (by decide) (by rfl) (fun _ _ _ _ _ _ ws hl => match ws, hl with | _ :: _ :: _, _ => rfl) (dk_cons (d_var 9) (dk_cons (d_var 0) dk_nil)))) (d_repr hgd hr T.sm (by rfl) T.b_repr (d_var 10)))))) (dss_one (ds_ret d_bl)) dss_nil)
    (dss_one (ds_if (PW.pt (dw_and (t_in hr (d_ix (d_var 10) d_int) (d_tup (da_cons d_str (da_cons d_str (da_cons d_str da_nil)))) (by rfl)) (dw_and1 (t_ne hr (d_repr hgd hr T.sm (by rfl) T.b_repr (d_f D_part_at hgd hr (by decide) (by rfl) (fun _ _ _ _ _ _ us hl => match us, hl with | [_, _], _ => rfl) (da_cons (d_var 0) (da_cons (d_add (d_var 9) (d_tup (da_cons d_int da_nil))) da_nil)))) (d_repr hgd hr T.sm (by rfl) T.b_repr (d_ix (d_var 10) d_int)))))) (dss_one (ds_ret d_bl)) dss_nil))))
    (dss_cons (ds_for (di_tup (d_var 6)) (dg_name (i := 9) sc_law_right.nd rfl (Or.inr rfl)) (dss_cons (ds_set (i := 11) sc_law_right.nd rfl (Or.inr rfl) (d_lc (own := [("_law_spot", 13), ("_law_part", 10)]) (di_list (d_var 2)) (blkOk_by (own := [("_law_spot", 13), ("_law_part", 10)]) (N := N_law_right) (sc := defScope s_law_right) (by decide +kernel)) (fun _ _ _ _ _ => dg_tup (n := 2) rfl (dgs_cons (dg_name (i := 13) sc_law_right.nd rfl (Or.inl rfl)) (dgs_cons (dg_name (i := 10) sc_law_right.nd rfl (Or.inl rfl)) dgs_nil))) (fun _ _ _ _ _ => (dts_one (PW.pt (dw_and (t_eq hr (d_slice (d_var 13) do_none (do_some (d_len (by rfl) T.b_len (d_var 9)))) (d_var 9)) (dw_and1 (t_eq hr (d_ix (d_var 10) d_int) d_str)))))) (fun _ _ _ _ _ => (d_var 10)) sc_law_right.nd))
    (dss_cons (ds_set (i := 12) sc_law_right.nd rfl (Or.inl rfl) (d_tuple (by rfl) T.b_tuple (d_lc (own := [("_law_one", 14)]) (di_list (d_sorted hr T.sm (by rfl) T.b_sorted (d_var 1))) (blkOk_by (own := [("_law_one", 14)]) (N := N_law_right) (sc := defScope s_law_right) (by decide +kernel)) (fun _ _ _ _ _ => dg_name (i := 14) sc_law_right.nd rfl (Or.inr rfl)) (fun _ _ _ _ _ => (dts_one (t_ne hr (d_lc (own := [("_law_part", 10)]) (di_list (d_var 11)) (blkOk_by (own := [("_law_part", 10)]) (N := N_law_right) (by kernel_rfl)) (fun _ _ _ _ _ => dg_name (i := 10) sc_law_right.nd rfl (Or.inl rfl)) (fun _ _ _ _ _ => (dts_one (t_eq hr (d_ix (d_var 10) d_int) (d_var 14)))) (fun _ _ _ _ _ => d_int) sc_law_right.nd) (d_lst da_nil)))) (fun _ _ _ _ _ => (d_var 14)) sc_law_right.nd)))
    (dss_one (ds_if (PW.pt (dw_or (t_ne hr (d_repr hgd hr T.sm (by rfl) T.b_repr (d_f D_named hgd hr (by decide) (by rfl) (fun _ _ _ _ _ _ us hl => match us, hl with | [_, _], _ => rfl) (da_cons (d_var 0) (da_cons (d_var 9) da_nil)))) (d_repr hgd hr T.sm (by rfl) T.b_repr (d_var 12))) (dw_or1 (t_ne hr (d_repr hgd hr T.sm (by rfl) T.b_repr (d_fK (ks := ["place", "question"]) [1, 0] D_named hgd hr (by decide) (by rfl) (fun _ _ _ _ _ _ ws hl => match ws, hl with | _ :: _ :: _, _ => rfl) (dk_cons (d_var 9) (dk_cons (d_var 0) dk_nil)))) (d_repr hgd hr T.sm (by rfl) T.b_repr (d_var 12)))))) (dss_one (ds_ret d_bl)) dss_nil)))))
    (dss_one (ds_ret d_bl))))))))))
theorem dv_law_main (T : Tops K mg base w0) {f_law_deck : WF} (D_law_deck : Def P w0 K mg base 1 "_law_deck" s_law_deck ["_law_script"] f_law_deck) {f_law_names : WF} (D_law_names : Def P w0 K mg base 2 "_law_names" s_law_names ["_law_deck_here", "_law_many"] f_law_names) {f_law_schema : WF} (D_law_schema : Def P w0 K mg base 3 "_law_schema" s_law_schema ["_law_deck_here", "_law_names_here", "_law_many"] f_law_schema) {f_law_drawn : WF} (D_law_drawn : Def P w0 K mg base 21 "_law_drawn" s_law_drawn ["_law_deck_here", "_law_world", "_law_names_here", "_law_most"] f_law_drawn) {f_law_draw : WF} (D_law_draw : Def P w0 K mg base 1 "_law_draw" s_law_draw ["_law_deck_here", "_law_many"] f_law_draw) {f_law_widened : WF} (D_law_widened : Def P w0 K mg base 12 "_law_widened" s_law_widened ["_law_deck_here", "_law_world", "_law_asked", "_law_aliases"] f_law_widened) {f_law_right : WF} (D_law_right : Def P w0 K mg base 42 "_law_right" s_law_right ["_law_asked"] f_law_right) (f : Addr) (cdv : Value) (A : Around) (outer : List Env) (s : Shared) (H : Hp) (E : XK) (hgd : A.guards = some []) (hr : Room 42 (A.deeper (PyProof.Rows.envOfC "law" (defScope s_law_main) s.heap.objs.size f cdv))) :
  PSs (cxOf CX0 P w0 K mg base N_law_main "law" (defScope s_law_main) f cdv A outer s H E).nox (defBody s_law_main) (tDS K (w_law_main f_law_deck f_law_names f_law_schema f_law_drawn f_law_draw f_law_widened f_law_right)) :=
  (dss_cons (ds_set (i := 1) sc_law_main.nd rfl (Or.inl rfl) (d_f D_law_deck hgd hr (by decide) (by rfl) (fun _ _ _ _ _ _ us hl => match us, hl with | [_], _ => rfl) (da_cons (d_var 0) da_nil)))
    (dss_cons (ds_for (di_range1 (by rfl) T.b_range d_int) (dg_name (i := 2) sc_law_main.nd rfl (Or.inl rfl)) (dss_cons (ds_set (i := 3) sc_law_main.nd rfl (Or.inl rfl) (d_f D_law_names hgd hr (by decide) (by rfl) (fun _ _ _ _ _ _ us hl => match us, hl with | [_, _], _ => rfl) (da_cons (d_var 1) (da_cons d_int da_nil))))
    (dss_cons (ds_set (i := 4) sc_law_main.nd rfl (Or.inl rfl) (d_f D_law_schema hgd hr (by decide) (by rfl) (fun _ _ _ _ _ _ us hl => match us, hl with | [_, _, _], _ => rfl) (da_cons (d_var 1) (da_cons (d_var 3) (da_cons (d_add d_int (d_f D_law_draw hgd hr (by decide) (by rfl) (fun _ _ _ _ _ _ us hl => match us, hl with | [_, _], _ => rfl) (da_cons (d_var 1) (da_cons d_int da_nil)))) da_nil)))))
    (dss_cons (ds_set (i := 5) sc_law_main.nd rfl (Or.inl rfl) (d_dctN _ (pps_cons pe_str (d_var 4) (pps_cons pe_str d_dct0M pps_nil))))
    (dss_cons (ds_for (di_tup (d_var 4)) (dg_tup (n := 4) rfl (dgs_cons (dg_name (i := 7) sc_law_main.nd rfl (Or.inl rfl)) (dgs_cons (dg_name (i := 8) sc_law_main.nd rfl (Or.inl rfl)) (dgs_cons (dg_name (i := 9) sc_law_main.nd rfl (Or.inl rfl)) (dgs_cons (dg_name (i := 10) sc_law_main.nd rfl (Or.inl rfl)) dgs_nil))))) (dss_one (ds_dput hr (d_dget hr (d_var 5) d_str) (d_var 7) (d_lc (own := [("_law_name", 13), ("_law_some", 14)]) (di_tup (d_var 8)) (blkOk_by (own := [("_law_name", 13), ("_law_some", 14)]) (N := N_law_main) (sc := defScope s_law_main) (by decide +kernel)) (fun _ _ _ _ _ => dg_tup (n := 2) rfl (dgs_cons (dg_name (i := 13) sc_law_main.nd rfl (Or.inl rfl)) (dgs_cons (dg_name (i := 14) sc_law_main.nd rfl (Or.inl rfl)) dgs_nil))) (fun _ _ _ _ _ => dts_nil) (fun _ _ _ _ _ => (d_var 13)) sc_law_main.nd))))
    (dss_one (ds_for (di_range1 (by rfl) T.b_range d_int) (dg_name (i := 6) sc_law_main.nd rfl (Or.inl rfl)) (dss_cons (ds_set (i := 11) sc_law_main.nd rfl (Or.inl rfl) (d_f D_law_drawn hgd hr (by decide) (by rfl) (fun _ _ _ _ _ _ us hl => match us, hl with | [_, _, _, _], _ => rfl) (da_cons (d_var 1) (da_cons (d_var 5) (da_cons (d_slice (d_var 3) (do_some d_int) (do_some d_int)) (da_cons d_int da_nil))))))
    (dss_cons (ds_if (t_eq hr (d_f D_law_draw hgd hr (by decide) (by rfl) (fun _ _ _ _ _ _ us hl => match us, hl with | [_, _], _ => rfl) (da_cons (d_var 1) (da_cons d_int da_nil))) d_int) (dss_one (ds_set (i := 11) sc_law_main.nd rfl (Or.inl rfl) (d_f D_law_widened hgd hr (by decide) (by rfl) (fun _ _ _ _ _ _ us hl => match us, hl with | [_, _, _, _], _ => rfl) (da_cons (d_var 1) (da_cons (d_var 5) (da_cons (d_var 11) (da_cons (d_slice (d_var 3) (do_some d_int) do_none) da_nil))))))) dss_nil)
    (dss_cons (ds_set (i := 12) sc_law_main.nd rfl (Or.inl rfl) (d_repr hgd hr T.sm (by rfl) T.b_repr (d_var 11)))
    (dss_one (ds_if (PW.pt (dw_or (dt_not (dt_val (d_f D_law_right hgd hr (by decide) (by rfl) (fun _ _ _ _ _ _ us hl => match us, hl with | [_], _ => rfl) (da_cons (d_var 11) da_nil)))) (dw_or1 (t_ne hr (d_repr hgd hr T.sm (by rfl) T.b_repr (d_var 11)) (d_var 12))))) (dss_one (ds_ret d_bl)) dss_nil))))))))))))
    (dss_one (ds_ret d_bl))))
end
end K21

set_option Elab.async false
set_option linter.all false
set_option maxRecDepth 100000
set_option maxHeartbeats 1000000
/-! K21x: questions widened. -/
namespace K21
open PySem L2 Dz Qz

theorem sizs_consI {N p : Nat} {d : DV} {ds : List DV} (s : Sizs N p (d :: ds)) : ∃ n m, Siz n p d ∧ Sizs m p ds ∧ n + 1 + m ≤ N := by
  have hb : (toPy d).bulk + 1 + PyData.bulkAll (toPys ds) ≤ N := s.bk
  have hd : max (toPy d).depth (PyData.depthAll (toPys ds)) ≤ p := s.dp
  exact ⟨_, _, ⟨(Bool.and_eq_true_iff.mp s.no).1, (Bool.and_eq_true_iff.mp s.sh).1, (Bool.and_eq_true_iff.mp s.lv).1, Nat.le_refl _, by omega, (Bool.and_eq_true_iff.mp s.pl).1⟩,
    ⟨(Bool.and_eq_true_iff.mp s.no).2, (Bool.and_eq_true_iff.mp s.sh).2, (Bool.and_eq_true_iff.mp s.lv).2, Nat.le_refl _, by omega, (Bool.and_eq_true_iff.mp s.pl).2⟩, hb⟩
theorem sizs_append {M p : Nat} {es : List DV} (h : Sizs M p es) : ∀ {N : Nat} {ds : List DV}, Sizs N p ds → Sizs (N + M) p (ds ++ es)
  | N, [], _ => h.le (by omega) (Nat.le_refl _)
  | N, d :: ds, s => by
    obtain ⟨n, m, h1, h2, h3⟩ := sizs_consI s
    exact (Sizs.cons h1 (sizs_append h h2)).le (by omega) (Nat.le_refl _)
theorem noDcts_append {ds es : List DV} (h : noDcts ds = true) (h' : noDcts es = true) : noDcts (ds ++ es) = true := noDcts_of fun d hd => (List.mem_append.mp hd).elim (noDcts_mem h d) (noDcts_mem h' d)
def wfWid : WF := fun ds μ Q => ∃ a c q tabs kv m refs wh heard order lim al, ds = [.obj a, world tabs q, quest refs wh heard order lim, .lst al] ∧ GQ kv refs wh heard order lim ∧ heard.length ≤ 2 ∧ Siz 500 4 (.tup heard) ∧ 0 < al.length ∧ (∀ d ∈ al, IsNm d) ∧ Ok22 μ a c q tabs kv (m + 100) ∧
  ∀ heard' μ', GQ kv refs wh heard' order lim → Ok22 μ' a c q tabs kv m → Q (quest refs wh heard' order lim) μ'
theorem p_law_widened (ds : List DV) (μ : Mh) (Q : DV → Mh → Prop) (hl : ds.length = 4) (h : wfWid ds μ Q) :
    K21.w_law_widened pickW (wfLeaf 2) wfCol (wfTerm 3) { nx := fun _ μ' => Q .none μ', rt := Q } (ds.map some ++ List.replicate 5 none) μ := by
  obtain ⟨a, c, q, tabs, kv, m, refs, wh, heard, order, lim, al, rfl, gq, h2, sh, l0, hal, hk, k⟩ := h
  have G1 := @get_tables
  have G2 := @get_columns
  have G3 := @get_cols
  unfold K21.w_law_widened
  generalize wDGet = g4 at G1 G2 G3 ⊢
  cases al with
  | nil => exact absurd l0 (Nat.lt_irrefl 0)
  | cons al0 al =>
  obtain ⟨z, rfl, pz, lz⟩ := hal al0 List.mem_cons_self
  show atW (atI (DV.str z :: al) 0) _
  rw [atI_zero]
  refine G1 (tabs := tabs) (q := q) ?_
  refine ⟨rfl, pick22 (m := m + 99) (y := .tup tabs) hk.wd.ne (Nat.le_trans hk.wd.le (by decide)) hk fun t μ1 ht k1 o1 => ?_⟩
  obtain ⟨x, u, v, w, rfl, hx⟩ := k1.wd.all t ht
  refine ⟨sl (Nat.le_of_ble_eq_true rfl), sl (Nat.le_of_ble_eq_true rfl), ?_⟩
  have hown : RefsOk kv [.tup [.str z, .str x]] := ⟨Nat.succ_pos _, Nat.le_of_ble_eq_true rfl, fun r hr => by
    rw [List.mem_singleton] at hr
    exact ⟨z, x, hr, pz, lz, hx⟩⟩
  have hr := gq.rok
  have hr4 := gq.r4
  have hro : RefsOk kv ([.tup [.str z, .str x]] ++ refs) := hown.append hr (by show 1 + refs.length ≤ 20; omega)
  have lro : ([DV.tup [.str z, .str x]] : List DV).length + refs.length ≤ sizeLine := sl (by show 1 + refs.length ≤ _; omega)
  show atW (atI (DV.str z :: al) 0) _
  rw [atI_zero]
  refine G2 (tabs := tabs) (q := q) ?_
  obtain ⟨cs, hv, c0, c1, hcs, px, lx⟩ := hx
  refine G3 k1.cq hv ?_
  cases cs with
  | nil => exact absurd c0 (Nat.lt_irrefl 0)
  | cons cz cs =>
  show atW (atI (cz :: cs) 0) _
  rw [atI_zero]
  obtain ⟨zs, rfl, pzs, lzs⟩ := hcs cz List.mem_cons_self
  have tm : GCol (.tup [.str "column", .str z, .str zs]) := ⟨z, zs, rfl, pz, lz, pzs, lzs⟩
  refine ⟨sl (Nat.le_of_ble_eq_true rfl), lro, rfl, a, c, q, tabs, kv, m + 80, _, 2, rfl, by decide, by decide, k1.le (by omega), hro, fun lf μ2 hlf k2 o2 => ⟨sl (Nat.le_of_ble_eq_true rfl), ?_⟩⟩
  refine ⟨rfl, a, c, q, tabs, kv, m + 78, refs, rfl, k2, hr, fun col μ3 hcol k3 o3 => ⟨sl (Nat.le_of_ble_eq_true rfl), rfl, pick22 (m := m + 77) (Nat.succ_pos _) (Nat.le_of_ble_eq_true rfl) k3 fun y μ4 hy k4 o4 => ?_⟩⟩
  have hy : y ∈ [DV.tup [.str "column", .str z, .str zs], col] := hy
  have gy : GCol y := by
    simp only [List.mem_cons, List.not_mem_nil, or_false] at hy
    rcases hy with rfl | rfl
    · exact tm
    · exact hcol
  refine ⟨sl (Nat.le_of_ble_eq_true rfl), rfl, pick22 (m := m + 76) (Nat.succ_pos _) (Nat.le_of_ble_eq_true rfl) k4 fun w2 μ5 hw2 k5 o5 => ⟨sl (Nat.le_of_ble_eq_true rfl), ?_⟩⟩
  have hw2 : w2 ∈ [DV.str "only", .str "first"] := hw2
  have hw2' : ∃ y, w2 = .str y ∧ plainS y = true ∧ y.length ≤ 5 ∧ (y = "only" ∨ y = "first") := by
    simp only [List.mem_cons, List.not_mem_nil, or_false] at hw2
    rcases hw2 with rfl | rfl
    · exact ⟨_, rfl, by decide +kernel, by decide +kernel, .inl rfl⟩
    · exact ⟨_, rfl, by decide +kernel, by decide +kernel, .inr rfl⟩
  obtain ⟨y2, rfl, py, ly, hy2⟩ := hw2'
  refine ⟨sl (Nat.le_of_ble_eq_true rfl), rfl, a, c, q, tabs, kv, m + 60, refs, 3, rfl, by decide, by decide, k5.le (by omega), hr, fun t2 μ6 ht2 k6 o6 => ⟨sl (Nat.le_of_ble_eq_true rfl), sl (by show heard.length + 2 ≤ _; omega), ?_⟩⟩
  have e1 : cutD [DV.tup refs, wh, .tup heard, .tup order, lim] none (some 2) = [DV.tup refs, wh] := cut_to (ds := [DV.tup refs, wh, .tup heard, .tup order, lim]) 2
  have e2 : cutD [DV.tup refs, wh, .tup heard, .tup order, lim] (some 3) none = [DV.tup order, lim] := cut_from (ds := [DV.tup refs, wh, .tup heard, .tup order, lim]) 3
  let inn : DV := .tup [.tup [.tup [.str z, .str x]], lf]
  let pl : DV := .tup [.str "plus", .tup [.str y2, inn, y], .int 3]
  show ([DV.tup (heard ++ [pl, t2])] : List DV).length ≤ sizeLine ∧ (cutD [DV.tup refs, wh, .tup heard, .tup order, lim] none (some 2)).length + 1 ≤ sizeLine ∧ (cutD [DV.tup refs, wh, .tup heard, .tup order, lim] none (some 2) ++ [DV.tup (heard ++ [pl, t2])]).length + (cutD [DV.tup refs, wh, .tup heard, .tup order, lim] (some 3) none).length ≤ sizeLine ∧ Q (.tup (cutD [DV.tup refs, wh, .tup heard, .tup order, lim] none (some 2) ++ [DV.tup (heard ++ [pl, t2])] ++ cutD [DV.tup refs, wh, .tup heard, .tup order, lim] (some 3) none)) μ6
  rw [e1, e2]
  refine ⟨sl (Nat.le_of_ble_eq_true rfl), sl (Nat.le_of_ble_eq_true rfl), sl (Nat.le_of_ble_eq_true rfl), ?_⟩
  have sref : Siz 21 2 (.tup [.tup [.str z, .str x]]) := ref_siz hown
  have sinn : Siz 290 5 inn := (Siz.tup (Sizs.cons (sref.le (Nat.le_refl 21) (show 2 ≤ 4 by decide)) (Sizs.cons hlf.siz nilS))).le (by omega) (by omega)
  have so3 : Siz 330 6 (.tup [.str y2, inn, y]) := (Siz.tup (Sizs.cons ((Siz.str py).le ly (Nat.zero_le _)) (Sizs.cons sinn (Sizs.cons (gy.siz.le (Nat.le_refl 30) (show 1 ≤ 5 by decide)) nilS)))).le (by omega) (by omega)
  have spl : Siz 340 7 pl := (Siz.tup (Sizs.cons (wordS (x := "plus") (n := 4) (by decide +kernel) (by decide +kernel) 6) (Sizs.cons so3 (Sizs.cons ((Siz.int (i := 3) (by decide)).le (Nat.le_refl 0) (Nat.zero_le _)) nilS)))).le (by omega) (by omega)
  obtain ⟨ph, eph, shs⟩ := siz_tupI sh
  have st2 : Siz 160 7 t2 := ht2.siz.le (by omega) (by omega)
  have sh2 : Siz 3000 10 (.tup (heard ++ [pl, t2])) := (Siz.tup (sizs_append (Sizs.cons spl (Sizs.cons st2 nilS)) (shs.le (Nat.le_refl _) (show ph ≤ 7 by omega)))).le (by omega) (by omega)
  have npl : noDct pl = true := nd3 (nd3 (nd22 (refs_nd hown) hlf.nd) gy.nd) rfl
  have pin : Part 5 (.tup [.str y2, inn, y]) := .mk (.b3 hy2) fun p hp => by
    simp only [List.mem_cons, List.not_mem_nil, or_false] at hp
    rcases hp with rfl | rfl
    · exact hlf.part
    · exact gy.part.le (by omega)
  have ppl : Part 6 pl := .mk (.b1 (.inl rfl)) fun p hp => by
    rw [List.mem_singleton] at hp
    subst hp
    exact pin
  refine k (heard ++ [pl, t2]) μ6 { gq with hs := fun t ht => ?_, hlen := ?_, sh := sh2, nh := ?_ } (k6.le (by omega))
  · rcases List.mem_append.mp ht with ht | ht
    · exact gq.hs t ht
    · simp only [List.mem_cons, List.not_mem_nil, or_false] at ht
      rcases ht with rfl | rfl
      · exact ppl
      · exact ht2.part.le (by omega)
  · rw [List.length_append]
    show heard.length + 2 ≤ 4
    omega
  · refine noDcts_append gq.nh (noDcts_of fun t ht => ?_)
    simp only [List.mem_cons, List.not_mem_nil, or_false] at ht
    rcases ht with rfl | rfl
    · exact npl
    · exact ht2.nd
end K21

set_option Elab.async false
set_option linter.all false
set_option maxRecDepth 100000
set_option maxHeartbeats 2000000
/-! K21y: what is asked of one question. -/
namespace K21
open PySem L2 Dz Qz PyProof.Rows

/-- the places of the leaves, if there is a condition -/
theorem leaves_w {refs heard order : List DV} {wh lim : DV} {ρ : Rho} {μ : Mh} {P : DV → Mh → Prop} (h : wh = .none ∨ Part 12 wh) (h0 : ρ[0]? = some (some (quest refs wh heard order lim))) (hP : P (.lst ((leavesW wh).map fun e => pathD e.1)) μ) :
    wIf (wTest (wBin wIsN (wBin wIx (wVar 0) (wC (.int 1))) (wC .none))) (wLst wNil) (wCall 2 (wfLv 12) (wCons (wBin wIx (wVar 0) (wC (.int 1))) (wCons (wTup (wCons (wC (.int 1)) wNil)) wNil))) ρ μ P := by
  show (match ρ[0]? with | some (some d) => _ | _ => False)
  rw [h0]
  rcases h with rfl | hp
  · exact ⟨sl (Nat.zero_le _), hP⟩
  · obtain ⟨w, r, rfl⟩ := hp.head
    show (match ρ[0]? with | some (some d) => _ | _ => False)
    rw [h0]
    exact ⟨sl (Nat.le_of_ble_eq_true rfl), rfl, _, [1], rfl, by decide, hp, by decide, hP⟩
def wfRight : WF := fun ds μ Q => ∃ refs wh heard order lim kv, ds = [quest refs wh heard order lim] ∧ GQ kv refs wh heard order lim ∧ Q (.bool true) μ
def inB (lead : List Nat) (d : DV) : Bool := match d with | .tup [.tup s, .tup (.str w :: _)] => deepEq (.tup (s.take lead.length)) (pathD lead) && decide (w = "column") | _ => false
def snd (d : DV) : DV := match d with | .tup [_, p] => p | _ => .none
def isA (s : Str) (p : DV) : Bool := match p with | .tup [_, .str a, _] => decide (a = s) | _ => false
theorem inB_itm {lead : List Nat} {e : List Nat × DV} {w : Str} {r : List DV} (h : e.2 = .tup (.str w :: r)) : inB lead (itm e) = (decide (e.1.take lead.length = lead) && decide (w = "column")) := by
  obtain ⟨el, ed⟩ := e
  have h : ed = .tup (.str w :: r) := h
  subst h
  show (deepEq (.tup ((pathL el).take lead.length)) (pathD lead) && decide (w = "column")) = _
  rw [take_path, path_eq]
theorem col_shape {n : Nat} {w : Str} {r : List DV} (h : Part n (.tup (.str w :: r))) (hw : w = "column") : ∃ a c : Str, r = [.str a, .str c] := by
  obtain ⟨m, rfl, b, _⟩ := h.inv
  subst hw
  generalize downs (.tup (.str "column" :: r)) = l at b
  generalize hz : DV.tup (.str "column" :: r) = z at b
  cases b with
  | @col a c => exact ⟨a, c, (List.cons.inj (DV.tup.inj hz)).2⟩
  | val | no | b2 => exact absurd (DV.str.inj (List.cons.inj (DV.tup.inj hz)).1) (by decide +kernel)
  | b1 h => rcases h with rfl | rfl <;> exact absurd (DV.str.inj (List.cons.inj (DV.tup.inj hz)).1) (by decide +kernel)
  | b3 h => rcases h with rfl | rfl <;> exact absurd (DV.str.inj (List.cons.inj (DV.tup.inj hz)).1) (by decide +kernel)
  | b4 h => rcases h with rfl | rfl | rfl | rfl | rfl <;> exact absurd (DV.str.inj (List.cons.inj (DV.tup.inj hz)).1) (by decide +kernel)
theorem part_two {n : Nat} {d : DV} (h : Part n d) : ∃ w x r, d = .tup (.str w :: x :: r) := by
  obtain ⟨m, rfl, b, _⟩ := h.inv
  generalize downs d = l at b
  cases b <;> exact ⟨_, _, _, rfl⟩
theorem enumD_mem {k : Nat} {x : DV} : ∀ {ds : List DV}, x ∈ enumD k ds → ∃ i d, x = .tup [.int (i : Nat), d] ∧ k ≤ i ∧ ds[i - k]? = some d
  | [], h => by cases h
  | e :: ds, h => by
    rcases List.mem_cons.mp h with rfl | h
    · exact ⟨k, e, rfl, Nat.le_refl _, by rw [Nat.sub_self]; rfl⟩
    · obtain ⟨i, d, e1, e2, e3⟩ := enumD_mem (k := k + 1) h
      refine ⟨i, d, e1, by omega, ?_⟩
      have : i - k = (i - (k + 1)) + 1 := by omega
      rw [this]
      simpa using e3
theorem p_law_right (ds : List DV) (μ : Mh) (Q : DV → Mh → Prop) (hl : ds.length = 1) (h : wfRight ds μ Q) :
    K21.w_law_right wfEvery (wfLv 12) wfMain (wfAt 30) wfNamed { nx := fun _ μ' => Q .none μ', rt := Q } (ds.map some ++ List.replicate 14 none) μ := by
  obtain ⟨refs, wh, heard, order, lim, kv, rfl, gq, q⟩ := h
  have ok := gq.ok
  have sz := gq.siz
  have hr4 := gq.r4
  have hh4 := gq.hlen
  have ho4 := gq.olen
  have NE : ∀ (s : Str) (μ : Mh) (P : DV → Mh → Prop), P (.bool false) μ → wNeL (.str s) (.str s) μ P := fun s μ P h => by
    show P (.bool (!decide (s = s))) μ
    rw [decide_eq_true rfl]
    exact h
  have NL : ∀ (ns : List Int) (μ : Mh) (P : DV → Mh → Prop), P (.bool (!ns.isEmpty)) μ → wNeL (.lst (ns.map .int)) (.lst []) μ P := fun ns μ P h => ⟨shaped_ints ns, rfl, by
    cases ns with
    | nil => exact h
    | cons n ns => exact h⟩
  have EP : ∀ (a b : List Nat) (μ : Mh) (P : DV → Mh → Prop), P (.bool (decide (a = b))) μ → wEqL (pathD a) (pathD b) μ P := fun a b μ P h => ⟨shaped_path a, shaped_path b, by rw [path_eq]; exact h⟩
  have EQ := @Qz.eq_str
  have IN := @in_tup
  have SN : ∀ (zs : List DV) (μ : Mh) (P : DV → Mh → Prop), sortW zs μ P → wSorted [.lst zs] μ P := fun zs μ P h => h
  unfold K21.w_law_right
  generalize wNeL = g1 at NE NL ⊢
  generalize wIn = g2 at IN ⊢
  generalize wEqL = g3 at EQ EP ⊢
  generalize wSorted = g4 at SN ⊢
  let W := quest refs wh heard order lim
  have shW : Shows W := sz.shows (by decide) (by decide)
  have shAt : ∀ r y, atP W r = some y → Shows y := fun r y h => (siz_at r sz h).shows (by decide) (by decide)
  have hlv : (leavesW wh).length ≤ 256 := by
    unfold leavesW
    rcases gq.hw with rfl | hp
    · exact Nat.zero_le _
    · split
      · exact Nat.zero_le _
      · exact leaves_len hp (by decide)
  have hev : (everyD wh heard).length ≤ 1000 := by
    unfold everyD
    rw [List.length_append]
    have := heardD_len (k := 0) gq.hs
    have h2 : (if isNone wh then [] else allD wh [1]).length ≤ 256 := by
      rcases gq.hw with rfl | hp
      · exact Nat.zero_le _
      · split
        · exact Nat.zero_le _
        · have := allD_len (lead := [1]) hp (by decide)
          omega
    omega
  refine comp_pure (fun _ => true) (fun d => .str (aliasOf d)) refs [] _ (fun x hx acc P hacc hP => ?_) (by rw [List.length_nil]; exact sl (by omega)) ?_
  · obtain ⟨a, t, rfl⟩ := ok.rs x hx
    exact ⟨rfl, rfl, hacc, hP⟩
  rw [List.filter_eq_self.mpr fun _ _ => rfl, List.nil_append, show refs.map (fun d => DV.str (aliasOf d)) = (refs.map aliasOf).map DV.str by rw [List.map_map]; rfl]
  refine ⟨rfl, refs, wh, heard, order, lim, rfl, ok, ?_⟩
  refine leaves_w (refs := refs) (wh := wh) (heard := heard) (order := order) (lim := lim) (ρ := [some (quest refs wh heard order lim), some (.lst ((refs.map aliasOf).map .str)), some (.lst (belowD (everyD wh heard))), none, none, none, none, none, none, none, none, none, none, none, none]) ok.hw rfl ?_
  refine ⟨by omega, by omega, ?_⟩
  refine told_comp (by show 7 < 15; decide) (by simpa using (by omega : heard.length ≤ 1000)) _ ⟨?_, ?_⟩
  · rw [List.length_map, List.length_map, List.length_map, List.length_range]
    exact sl (by omega)
  rw [leaves_paths, ← List.map_append]
  have mP : ∀ lead ∈ mainP wh heard, (∀ i ∈ lead, i < 1000) ∧ lead.length ≤ 30 := fun lead hl => by
    obtain ⟨_, _, _, h1, h2, _⟩ := main_at ok hl
    exact ⟨h1, h2⟩
  have shD : Shows (.tup ((mainP wh heard).map pathD)) := by
    have hs := Sizs.all (N := 30) (p := 1) (ds := (mainP wh heard).map pathD) (fun d hd => by
      rw [List.mem_map] at hd
      obtain ⟨lead, hl, rfl⟩ := hd
      obtain ⟨h1, h2⟩ := mP lead hl
      exact (siz_path lead h1).le h2 (Nat.le_refl _))
    refine (Siz.tup hs).shows ?_ (by decide)
    have : ((mainP wh heard).map pathD).length ≤ 264 := by
      unfold mainP
      rw [List.length_map, List.length_append, List.length_map, List.length_map, List.length_range]
      omega
    have := Nat.mul_le_mul_right (30 + 1) this
    exact Nat.le_trans this (by decide)
  refine ⟨rfl, refs, wh, heard, order, lim, rfl, ok, shD, shD, NE _ _ _ ?_⟩
  refine ⟨rfl, refs, wh, heard, order, lim, rfl, ok, shD, shD, NE _ _ _ ?_⟩
  refine ⟨sl (Nat.zero_le _), rfl, W, [], W, rfl, rfl, shW, shW, NE _ _ _ ?_⟩
  refine comp_pure (fun _ => false) (fun _ => .int 1) (enumD 0 order) [] _ (fun x hx acc P hacc hP => ?_) (by rw [List.length_nil, enumD_len]; exact sl (by omega)) ?_
  · obtain ⟨i, d, rfl, _, hd⟩ := enumD_mem hx
    rw [Nat.sub_zero] at hd
    have hat : atP W [3, i] = some d := by
      show (match order[i]? with | some e => atP e [] | none => none) = some d
      rw [hd]
      rfl
    exact ⟨rfl, rfl, sl (Nat.le_of_ble_eq_true rfl), rfl, W, [3, i], d, rfl, hat, shAt _ _ hat, shAt _ _ hat, NE _ _ _ hP⟩
  rw [show ((enumD 0 order).filter fun _ => false) = [] from List.filter_eq_nil_iff.mpr fun _ _ => Bool.false_ne_true]
  refine ⟨sl (Nat.zero_le _), NL [] _ _ ?_⟩
  let own : DV := .lst ((refs.map aliasOf).map .str)
  let found : DV := .lst (belowD (everyD wh heard))
  let base (lv du z9 z10 z11 z12 : Option DV) : Rho := [some W, some own, some found, none, none, lv, du, none, none, z9, z10, z11, z12, none, none]
  -- parts at their places
  refine for_rule (I := fun _ ρ μ' => μ' = μ ∧ ∃ z9 z10, ρ = base (some (.lst (((leavesW wh).map (·.1)).map pathD))) (some (.tup ((mainP wh heard).map pathD))) z9 z10 none none) (n := 0) _ _ _ (fun x hx k ρ μ2 F hi hrt _ hnx _ => ?_) ⟨rfl, none, none, rfl⟩ (fun ρ μ2 hi => ?_)
  · obtain ⟨rfl, z9, z10, rfl⟩ := hi
    unfold belowD at hx
    rw [List.mem_map] at hx
    obtain ⟨e, he, rfl⟩ := hx
    obtain ⟨hat, n, hp, hlen⟩ := every_at ok he
    obtain ⟨el, ed⟩ := e
    obtain ⟨w, y, r, hed⟩ := part_two hp
    have hed : ed = .tup (.str w :: y :: r) := hed
    subst hed
    have she := shAt _ _ hat
    refine ⟨rfl, rfl, rfl, W, el, _, rfl, hat, she, she, NE _ _ _ ?_⟩
    refine ⟨rfl, W, el, _, rfl, hat, she, she, NE _ _ _ ?_⟩
    show atW (atI (DV.str w :: y :: r) 0) _
    rw [atI_zero]
    refine ⟨sl (Nat.le_of_ble_eq_true rfl), IN _ rfl rfl ?_⟩
    cases hb : inF (.str w) [.str "exists", .str "only", .str "first"] with
    | false => exact hnx _ _ ⟨rfl, _, _, rfl⟩
    | true =>
      have hat2 : atP W (el ++ [1]) = some y := by
        rw [atP_append el [1] W _ hat]
        rfl
      have e1 : atI (DV.str w :: y :: r) 1 = some y := atI_of (i := 1) rfl
      have hlen : el.length ≤ 30 := hlen
      refine ⟨sl (Nat.le_of_ble_eq_true rfl), sl ?_, rfl, W, el ++ [1], y, ?_, hat2, shAt _ _ hat2, ?_⟩
      · unfold pathL
        rw [List.length_map, List.length_singleton]
        omega
      · show [W, DV.tup (pathL el ++ pathL [1])] = [W, DV.tup (pathL (el ++ [1]))]
        rw [pathL_append]
      · show atW (atI (DV.str w :: y :: r) 1) _
        rw [e1]
        exact ⟨shAt _ _ hat2, NE _ _ _ (hnx _ _ ⟨rfl, _, _, rfl⟩)⟩
  obtain ⟨rfl, y9, y10, rfl⟩ := hi
  -- names of refs
  refine for_rule (I := fun _ ρ μ' => μ' = μ2 ∧ ∃ z9 z10 z11 z12, ρ = base (some (.lst (((leavesW wh).map (·.1)).map pathD))) (some (.tup ((mainP wh heard).map pathD))) z9 z10 z11 z12) (n := 0) _ _ _ (fun x hx k ρ μ3 F hi hrt _ hnx _ => ?_) ⟨rfl, y9, y10, none, none, rfl⟩ (fun ρ μ3 hi => ?_)
  · obtain ⟨rfl, z9, z10, z11, z12, rfl⟩ := hi
    rw [List.mem_map] at hx
    obtain ⟨lead, hlead, rfl⟩ := hx
    obtain ⟨qp, hatq, h6, hli, hll, hwi⟩ := main_at ok hlead
    refine comp_pure (inB lead) snd (belowD (everyD wh heard)) [] _ (fun x hx acc P hacc hP => ?_) (by rw [List.length_nil, belowD_len]; exact sl (by omega)) ?_
    · unfold belowD at hx
      rw [List.mem_map] at hx
      obtain ⟨e, he, rfl⟩ := hx
      obtain ⟨hat, n, hp, hlen⟩ := every_at ok he
      obtain ⟨el, ed⟩ := e
      obtain ⟨w, y, r, hed⟩ := part_two hp
      have hed : ed = .tup (.str w :: y :: r) := hed
      subst hed
      rw [inB_itm (e := (el, _)) rfl] at hP
      refine ⟨rfl, rfl, ?_⟩
      have ec : cutD (pathL el) none (some ((pathL lead).length : Int)) = pathL (el.take lead.length) := by
        have := cut_to (ds := pathL el) (pathL lead).length
        rw [this, take_path]
        unfold pathL
        rw [List.length_map]
      show g3 (.tup (cutD (pathL el) none (some ((pathL lead).length : Int)))) (pathD lead) μ3 _
      rw [ec]
      refine EP _ _ _ _ ?_
      cases hb : decide (el.take lead.length = lead) with
      | false =>
        rw [hb, Bool.false_and, if_neg Bool.false_ne_true] at hP
        exact hP
      | true =>
        rw [hb, Bool.true_and] at hP
        show atW (atI (DV.str w :: y :: r) 0) _
        rw [atI_zero]
        refine EQ _ rfl ?_
        cases hc : decide (w = "column") with
        | false =>
          rw [hc, if_neg Bool.false_ne_true] at hP
          exact hP
        | true =>
          rw [hc, if_pos rfl] at hP
          exact ⟨hacc, hP⟩
    rw [List.nil_append]
    let within : List DV := ((belowD (everyD wh heard)).filter (inB lead)).map snd
    have hwl : within.length ≤ 1000 := by
      show (((belowD (everyD wh heard)).filter (inB lead)).map snd).length ≤ 1000
      rw [List.length_map]
      have := List.length_filter_le (inB lead) (belowD (everyD wh heard))
      rw [belowD_len] at this
      omega
    have hwm : ∀ p, p ∈ within ↔ ∃ a c : Str, p = .tup [.str "column", .str a, .str c] ∧ ∃ e ∈ everyD wh heard, lead <+: e.1 ∧ e.2 = p := fun p => by
      show p ∈ ((belowD (everyD wh heard)).filter (inB lead)).map snd ↔ _
      rw [List.mem_map]
      constructor
      · rintro ⟨y, hy, rfl⟩
        rw [List.mem_filter] at hy
        obtain ⟨hy, hc⟩ := hy
        unfold belowD at hy
        rw [List.mem_map] at hy
        obtain ⟨e, he, rfl⟩ := hy
        obtain ⟨hat, n, hp, hlen⟩ := every_at ok he
        obtain ⟨w, r, hed⟩ := hp.head
        rw [inB_itm hed, Bool.and_eq_true, decide_eq_true_eq, decide_eq_true_eq] at hc
        rw [hed] at hp
        obtain ⟨a, c, rfl⟩ := col_shape hp hc.2
        refine ⟨a, c, ?_, e, he, prefix_take.mp hc.1, rfl⟩
        show e.2 = _
        rw [hed, hc.2]
      · rintro ⟨a, c, rfl, e, he, hpre, he2⟩
        refine ⟨itm e, List.mem_filter.mpr ⟨List.mem_map.mpr ⟨e, he, rfl⟩, ?_⟩, he2⟩
        rw [inB_itm he2, decide_eq_true (prefix_take.mpr hpre)]
        exact decide_eq_true (p := (("column" : Str) = "column")) rfl
    refine SN _ _ _ (sort_strs (by rw [List.length_map]; omega) fun zs pm pw => ?_)
    have hzl : zs.length ≤ 4 := by
      have := pm.length_eq
      rw [List.length_map] at this
      omega
    let B2 : DV → Bool := fun d => match d with | .str s => !(within.filter (isA s)).isEmpty | _ => false
    refine comp_pure B2 id (zs.map .str) [] _ (fun x hx acc P hacc hP => ?_) (by rw [List.length_nil, List.length_map]; exact sl (by omega)) ?_
    · rw [List.mem_map] at hx
      obtain ⟨s, hs, rfl⟩ := hx
      refine comp_pure (isA s) (fun _ => .int 1) within [] _ (fun p hp acc2 P2 hacc2 hP2 => ?_) (by rw [List.length_nil]; exact sl (by omega)) ?_
      · obtain ⟨a, c, rfl, _⟩ := (hwm p).mp hp
        refine EQ _ rfl ?_
        have hP2 : if decide (a = s) = true then P2 (acc2 ++ [.int 1]) μ3 else P2 acc2 μ3 := hP2
        cases hb : decide (a = s) with
        | true =>
          rw [hb, if_pos rfl] at hP2
          exact ⟨hacc2, hP2⟩
        | false =>
          rw [hb, if_neg Bool.false_ne_true] at hP2
          exact hP2
      rw [List.nil_append, show (within.filter (isA s)).map (fun _ => DV.int 1) = ((within.filter (isA s)).map fun _ => (1 : Int)).map .int by rw [List.map_map]; rfl]
      refine ⟨sl (Nat.zero_le _), NL _ _ _ ?_⟩
      have e1 : (!((within.filter (isA s)).map fun _ => (1 : Int)).isEmpty) = B2 (.str s) := by
        show _ = !(within.filter (isA s)).isEmpty
        cases within.filter (isA s) <;> rfl
      rw [e1]
      cases hb : B2 (.str s) with
      | true =>
        rw [hb, if_pos rfl] at hP
        exact ⟨hacc, hP⟩
      | false =>
        rw [hb, if_neg Bool.false_ne_true] at hP
        exact hP
    let xs : List Str := zs.filter fun s => B2 (.str s)
    have exs : [] ++ ((zs.map DV.str).filter B2).map id = xs.map .str := by
      rw [List.nil_append, List.map_id, List.filter_map]
      rfl
    rw [exs]
    have hal : ∀ k ∈ refs.map aliasOf, plainS k = true ∧ k.length ≤ 8 := fun k hk => by
      rw [List.mem_map] at hk
      obtain ⟨r, hr, rfl⟩ := hk
      obtain ⟨al, x, rfl, h1, h2, _⟩ := gq.rok.all r hr
      exact ⟨h1, h2⟩
    have hxz : ∀ k ∈ xs, k ∈ refs.map aliasOf := fun k hk => pm.mem_iff.mp (List.mem_filter.mp hk).1
    have shN : Shows (.tup (xs.map .str)) := by
      have hs := Sizs.all (N := 8) (p := 0) (ds := xs.map .str) (fun d hd => by
        rw [List.mem_map] at hd
        obtain ⟨k, hk, rfl⟩ := hd
        obtain ⟨h1, h2⟩ := hal k (hxz k hk)
        exact (Siz.str h1).le h2 (Nat.le_refl _))
      refine (Siz.tup hs).shows ?_ (by decide)
      have : (xs.map DV.str).length ≤ 4 := by
        rw [List.length_map]
        exact Nat.le_trans (List.length_filter_le _ _) hzl
      have := Nat.mul_le_mul_right (8 + 1) this
      exact Nat.le_trans this (by decide)
    have hmem : ∀ k, k ∈ xs ↔ k ∈ refs.map aliasOf ∧ ∃ x ∈ colsD qp, aliasOf x = k := fun k => by
      show k ∈ zs.filter (fun s => B2 (.str s)) ↔ _
      rw [List.mem_filter, pm.mem_iff]
      refine and_congr Iff.rfl ?_
      have hb : B2 (.str k) = true ↔ ∃ p ∈ within, isA k p = true := by
        show (!(within.filter (isA k)).isEmpty) = true ↔ _
        rw [Bool.not_eq_true', List.isEmpty_eq_false_iff_exists_mem]
        constructor
        · rintro ⟨p, hp⟩
          rw [List.mem_filter] at hp
          exact ⟨p, hp.1, hp.2⟩
        · rintro ⟨p, hp, h⟩
          exact ⟨p, List.mem_filter.mpr ⟨hp, h⟩⟩
      rw [hb]
      constructor
      · rintro ⟨p, hp, h⟩
        obtain ⟨a, c, rfl, e, he, hpre, he2⟩ := (hwm p).mp hp
        have hak : a = k := of_decide_eq_true h
        obtain ⟨e', he', h2⟩ := (hwi _).mp ⟨e, he, hpre, he2⟩
        exact ⟨.tup [.str a, .str c], (cols_mem h6 (by decide)).mpr ⟨e', he', a, c, h2, rfl⟩, hak⟩
      · rintro ⟨x, hx, hk⟩
        obtain ⟨e', he', a, c, h2, rfl⟩ := (cols_mem h6 (by decide)).mp hx
        obtain ⟨e, he, hpre, he2⟩ := (hwi _).mpr ⟨e', he', h2⟩
        exact ⟨.tup [.str "column", .str a, .str c], (hwm _).mpr ⟨a, c, rfl, e, he, hpre, he2⟩, decide_eq_true hk⟩
    have uni : ∀ ys : List Str, ys.Nodup → sortedS ys = true → (∀ k, k ∈ ys ↔ k ∈ refs.map aliasOf ∧ ∃ x ∈ colsD qp, aliasOf x = k) → ys = xs := fun ys n1 u1 m1 =>
      rising_unique n1 ((pm.nodup_iff.mpr gq.ndp).filter _) (sorted_pair u1) (pw.filter _) fun k => by rw [m1, hmem]
    refine ⟨rfl, refs, wh, heard, order, lim, lead, qp, rfl, ok, hatq, h6, fun ys n1 u1 m1 => ?_⟩
    rw [uni ys n1 u1 m1]
    refine ⟨shN, shN, NE _ _ _ ?_⟩
    refine ⟨rfl, refs, wh, heard, order, lim, lead, qp, rfl, ok, hatq, h6, fun ys n1 u1 m1 => ?_⟩
    rw [uni ys n1 u1 m1]
    exact ⟨shN, shN, NE _ _ _ (hnx _ _ ⟨rfl, _, _, _, _, rfl⟩)⟩
  obtain ⟨rfl, _⟩ := hi
  exact q
end K21

set_option Elab.async false
set_option linter.all false
set_option maxRecDepth 100000
set_option maxHeartbeats 1000000
/-! K21l: the law. -/
namespace K21
open PySem L2 Dz Qz

def wfLaw : WF := fun ds μ Q => ∃ ns : List Int, ds = [.fix (ns.map .int)] ∧ ∀ μ', Q (.bool true) μ'
theorem p_law (ds : List DV) (μ : Mh) (Q : DV → Mh → Prop) (hl : ds.length = 1) (h : wfLaw ds μ Q) :
    K21.w_law_main (wfDeck "total") wfNames wfSchema wfDrawn drawW wfWid wfRight { nx := fun _ μ' => Q .none μ', rt := Q } (ds.map some ++ List.replicate 14 none) μ := by
  obtain ⟨ns, rfl, k⟩ := h
  have NE : ∀ (s : Str) (μ : Mh) (P : DV → Mh → Prop), P (.bool false) μ → wNeL (.str s) (.str s) μ P := fun s μ P h => by
    show P (.bool (!decide (s = s))) μ
    rw [decide_eq_true rfl]
    exact h
  have EQ : ∀ (i j : Int) (μ : Mh) (P : DV → Mh → Prop), P (.bool (decide (i = j))) μ → wEqL (.int i) (.int j) μ P := fun i j μ P h => h
  have PU := @put_st
  unfold K21.w_law_main
  generalize wNeL = g1 at NE ⊢
  generalize wEqL = g2 at EQ ⊢
  generalize wDPut = g3 at PU ⊢
  refine ⟨rfl, ns, rfl, fun a c μ1 ha hc hd ho => ?_⟩
  let scr : DV := .fix (ns.map .int)
  refine ⟨by decide, by decide, ?_⟩
  refine for_rule (I := fun j ρ μ' => (∃ zs : List (Option DV), zs.length = 13 ∧ ρ = some scr :: some (.obj a) :: zs) ∧ Dk μ' a c (j * 10000)) (n := 0) _ _ _ (fun x hx j ρ μ2 F hi hrt _ hnx _ => ?_) ⟨⟨List.replicate 13 none, rfl, rfl⟩, hd.le (by rw [rngD_len]; decide)⟩ (fun ρ μ2 hi => ?_)
  · obtain ⟨⟨zs, hz, rfl⟩, dk⟩ := hi
    rw [Nat.succ_mul] at dk
    match zs, hz with
    | [z2, z3, z4, z5, z6, z7, z8, z9, z10, z11, z12, z13, z14], _ =>
    refine ⟨rfl, a, c, j * 10000 + 9998, rfl, dk.le (by omega), fun names μ3 h16 hnm hnd d3 => ?_⟩
    refine ⟨rfl, draw_c (m := j * 10000 + 9997) (by decide) (by decide) (d3.le (by omega)) fun r μ4 r0 r1 d4 o4 => ?_⟩
    refine ⟨rfl, a, c, j * 10000 + 9000, names, 1 + r, rfl, h16, hnm, by omega, by omega, d4.le (by omega), fun tabs μ5 t0 t3 ht d5 => ?_⟩
    intro q hqn
    obtain ⟨⟨oa, ha5⟩, ⟨oc, hc5⟩⟩ := d5.isSome
    have qa : q ≠ a := fun e => by rw [e, ha5] at hqn; cases hqn
    have qc : q ≠ c := fun e => by rw [e, hc5] at hqn; cases hqn
    have d6 : Dk (updM μ5 q (.dct [])) a c (j * 10000 + 9000) := d5.keep (updM_ne fun e => qa e.symm) (updM_ne fun e => qc e.symm)
    -- behind the columns
    have main : ∀ (kv : List (Key × DV)) (μ7 : Mh) (y7 y8 y9 y10 : Option DV), Ok22 μ7 a c q tabs kv (j * 10000 + 9000) →
        (wFor (sRng1 (wC (.int 5))) (wgName 6) (wSeq (wAsg (wCall 4 wfDrawn (wCons (wVar 1) (wCons (wVar 5) (wCons (wSl (wVar 3) (wPart (wC (.int 8))) (wPart (wC (.int 12)))) (wCons (wC (.int 4)) wNil))))) (wgName 11))
    (wSeq (wIfS (wTest (wBin g2 (wCall 2 drawW (wCons (wVar 1) (wCons (wC (.int 2)) wNil))) (wC (.int 0)))) (wAsg (wCall 4 wfWid (wCons (wVar 1) (wCons (wVar 5) (wCons (wVar 11) (wCons (wSl (wVar 3) (wPart (wC (.int 14))) wNoPart) wNil))))) (wgName 11)) wNext)
    (wSeq (wAsg (wB wRepr (wCons (wVar 11) wNil)) (wgName 12))
    (wIfS (wOrT (wNotT (wTest (wCall 1 wfRight (wCons (wVar 11) wNil)))) (wTest (wBin g1 (wB wRepr (wCons (wVar 11) wNil)) (wVar 12)))) (wRet (wC (.bool false))) wNext)))))
        F [some scr, some (.obj a), some x, some (.lst names), some (.tup tabs), some (world tabs q), z6, y7, y8, y9, y10, z11, z12, z13, z14] μ7 := by
      intro kv μ7 y7 y8 y9 y10 k7
      refine ⟨by decide, by decide, ?_⟩
      let base (l : List (Option DV)) : Rho := some scr :: some (.obj a) :: some x :: some (.lst names) :: some (.tup tabs) :: some (world tabs q) :: l
      refine for_rule (I := fun i ρ μ' => (∃ l : List (Option DV), l.length = 9 ∧ ρ = base l) ∧ Ok22 μ' a c q tabs kv (j * 10000 + i * 1200)) (n := 0) _ _ _ (fun x6 hx6 i ρ μ8 F2 hi hrt2 _ hnx2 _ => ?_) ⟨⟨_, rfl, rfl⟩, k7.le (by rw [rngD_len]; show j * 10000 + 0 + 5 * 1200 ≤ _; omega)⟩ (fun ρ μ8 hi => ?_)
      · obtain ⟨⟨l, hl13, rfl⟩, k8⟩ := hi
        rw [Nat.succ_mul, ← Nat.add_assoc] at k8
        match l, hl13 with
        | [w6, w7, w8, w9, w10, w11, w12, w13, w14], _ =>
        obtain ⟨n3, ec, lc, mc⟩ := cut_mid (ds := names) (lo := 8) (hi := 12) (by decide) (by decide) (by rw [h16]; decide)
        have hn3 := cut_nd (lo := some 8) (hi := some 12) hnd
        rw [ec] at hn3
        show 4 = 4 ∧ wfDrawn [.obj a, world tabs q, .lst (cutD names (some 8) (some 12)), .int 4] μ8 _
        rw [ec]
        refine ⟨rfl, a, c, q, tabs, kv, j * 10000 + i * 1200 + 200, n3, 4, rfl, by decide, by decide, lc, fun d hd => hnm d (mc d hd), hn3, k8, fun refs wh heard order lim μ9 gq hh2 hsh k9 => ?_⟩
        have fin : ∀ (heard' : List DV) (μ10 : Mh) (w12 : Option DV), GQ kv refs wh heard' order lim → Ok22 μ10 a c q tabs kv (j * 10000 + i * 1200) →
            (wSeq (wAsg (wB wRepr (wCons (wVar 11) wNil)) (wgName 12)) (wIfS (wOrT (wNotT (wTest (wCall 1 wfRight (wCons (wVar 11) wNil)))) (wTest (wBin g1 (wB wRepr (wCons (wVar 11) wNil)) (wVar 12)))) (wRet (wC (.bool false))) wNext)) F2 [some scr, some (.obj a), some x, some (.lst names), some (.tup tabs), some (world tabs q), some x6, w7, w8, w9, w10, some (quest refs wh heard' order lim), w12, w13, w14] μ10 := by
          intro heard' μ10 w12 gq2 k10
          have shq : Shows (quest refs wh heard' order lim) := gq2.siz.shows (by decide) (by decide)
          exact ⟨shq, rfl, refs, wh, heard', order, lim, kv, rfl, gq2, shq, NE _ _ _ (hnx2 _ _ ⟨⟨_, rfl, rfl⟩, k10⟩)⟩
        refine ⟨rfl, draw22 (m := j * 10000 + i * 1200 + 199) (by decide) (by decide) k9 fun r2 μ10 s0 s1 k10 o10 => ?_⟩
        refine EQ _ _ _ _ ?_
        cases h0 : decide (r2 = 0) with
        | false => exact fin heard μ10 _ gq (k10.le (by omega))
        | true =>
          have ed : cutD names (some 14) none = names.drop 14 := cut_from 14
          show 4 = 4 ∧ wfWid [.obj a, world tabs q, quest refs wh heard order lim, .lst (cutD names (some 14) none)] μ10 _
          rw [ed]
          exact ⟨rfl, a, c, q, tabs, kv, j * 10000 + i * 1200 + 99, refs, wh, heard, order, lim, names.drop 14, rfl, gq, hh2, hsh, by rw [List.length_drop]; omega, fun d hd => hnm d (List.mem_of_mem_drop hd), k10, fun heard' μ11 gq2 k11 => fin heard' μ11 _ gq2 (k11.le (by omega))⟩
      · obtain ⟨⟨l, hl13, rfl⟩, k8⟩ := hi
        exact hnx _ _ ⟨⟨_, by simpa using hl13, rfl⟩, k8.dk.le (by omega)⟩
    -- the columns
    have cols : ∀ (rest done : List DV) (kv : List (Key × DV)) (μ7 : Mh) (y7 y8 y9 y10 : Option DV), done ++ rest = tabs → μ7 q = some (.dct kv) → kv.length ≤ done.length → (∀ t ∈ done, ∃ x u v w, t = .tup [.str x, u, v, w] ∧ IsTab kv x) → Dk μ7 a c (j * 10000 + 9000) →
        forW (wgTup 4 (wgCons (wgName 7) (wgCons (wgName 8) (wgCons (wgName 9) (wgCons (wgName 10) wgNil))))) (g3 (wBin wDGet (wVar 5) (wC (.str "columns"))) (wVar 7) (wLc (sTup (wVar 8)) (wgTup 2 (wgCons (wgName 13) (wgCons (wgName 14) wgNil))) wYes (wVar 13) [13, 14]))
          { F with nx := (wFor (sRng1 (wC (.int 5))) (wgName 6) (wSeq (wAsg (wCall 4 wfDrawn (wCons (wVar 1) (wCons (wVar 5) (wCons (wSl (wVar 3) (wPart (wC (.int 8))) (wPart (wC (.int 12)))) (wCons (wC (.int 4)) wNil))))) (wgName 11))
    (wSeq (wIfS (wTest (wBin g2 (wCall 2 drawW (wCons (wVar 1) (wCons (wC (.int 2)) wNil))) (wC (.int 0)))) (wAsg (wCall 4 wfWid (wCons (wVar 1) (wCons (wVar 5) (wCons (wVar 11) (wCons (wSl (wVar 3) (wPart (wC (.int 14))) wNoPart) wNil))))) (wgName 11)) wNext)
    (wSeq (wAsg (wB wRepr (wCons (wVar 11) wNil)) (wgName 12))
    (wIfS (wOrT (wNotT (wTest (wCall 1 wfRight (wCons (wVar 11) wNil)))) (wTest (wBin g1 (wB wRepr (wCons (wVar 11) wNil)) (wVar 12)))) (wRet (wC (.bool false))) wNext))))) F } rest
          [some scr, some (.obj a), some x, some (.lst names), some (.tup tabs), some (world tabs q), z6, y7, y8, y9, y10, z11, z12, z13, z14] μ7 := by
      intro rest
      induction rest with
      | nil =>
        intro done kv μ7 y7 y8 y9 y10 e1 e2 e3 e4 d7
        rw [List.append_nil] at e1
        subst e1
        exact main kv μ7 y7 y8 y9 y10 ⟨d7, e2, qa, qc, ⟨t0, by omega, e4⟩⟩
      | cons t rest ih =>
        intro done kv μ7 y7 y8 y9 y10 e1 e2 e3 e4 d7
        have htm : t ∈ tabs := by rw [← e1]; exact List.mem_append_right _ List.mem_cons_self
        obtain ⟨tx, tcols, kk, ii, rfl, px, lx, gc⟩ := (ht t htm).ex
        have hdl : done.length ≤ 3 := by
          have := congrArg List.length e1
          rw [List.length_append] at this
          omega
        obtain ⟨c0, c1, hcs⟩ := cols_ok gc
        refine ⟨rfl, rfl, ?_⟩
        refine PU (cs := .lst (tcols.map fun d => match d with | .tup [.str y, _] => DV.str y | _ => .none)) rfl rfl e2 (by omega) (fun P hP => cols_step (tx := tx) gc rfl (by decide) (by show 13 < 15; decide) (by show 14 < 15; decide) (by decide) (by decide) P hP) ?_
        refine ih (done ++ [_]) _ _ _ _ _ _ (by rw [List.append_assoc]; exact e1) updM_same (Nat.le_trans len_put (by rw [List.length_append, List.length_singleton]; omega)) (fun t htd => ?_) (d7.keep (updM_ne fun e => qa e.symm) (updM_ne fun e => qc e.symm))
        rcases List.mem_append.mp htd with htd | htd
        · obtain ⟨x', u', v', w', rfl, ht'⟩ := e4 t htd
          exact ⟨x', u', v', w', rfl, tab_put (.inl ht') ⟨c0, c1, hcs, px, lx⟩⟩
        · rw [List.mem_singleton] at htd
          exact ⟨tx, _, _, _, htd, tab_put (.inr rfl) ⟨c0, c1, hcs, px, lx⟩⟩
    exact cols tabs [] [] _ _ _ _ _ rfl updM_same (Nat.le_refl _) (fun t ht => by cases ht) d6
  · obtain ⟨⟨zs, hz, rfl⟩, dk⟩ := hi
    exact k _
end K21

set_option Elab.async false
set_option linter.all false
set_option maxRecDepth 100000
set_option maxHeartbeats 1000000
/-! K21z: the defs put together (printed by mkz.py). -/
namespace K21
open PySem L2 Dz Qz
section
variable {P : Program} {w0 : World} {K : PySem.W.Frag} {mg : Str → Option Value} {base : Heap}
theorem D_part_at (T : Tops K mg base w0) : Def P w0 K mg base 1 "part_at" s_part_at ["question", "place"] (wfAt 30) := def_of T.a_part_at sc_part_at (dv_part_at T) (p_part_at 30)
theorem D_straight_parts (T : Tops K mg base w0) : Def P w0 K mg base 2 "straight_parts" s_straight_parts ["part"] (wfBelow) := def_of T.a_straight_parts sc_straight_parts (dv_straight_parts T (D_part_at T)) (p_straight_parts)
theorem D_all_parts (T : Tops K mg base w0) : Def P w0 K mg base 3 "all_parts" s_all_parts ["part"] (wfAllP) := def_of T.a_all_parts sc_all_parts (dv_all_parts T (D_straight_parts T)) (p_all_parts)
theorem D_columns_in (T : Tops K mg base w0) : Def P w0 K mg base 4 "columns_in" s_columns_in ["part"] (wfCols) := def_of T.a_columns_in sc_columns_in (dv_columns_in T (D_all_parts T)) (p_columns_in)
theorem D_leaves_of (T : Tops K mg base w0) : Def P w0 K mg base 3 "leaves_of" s_leaves_of ["condition", "place"] (wfLeavesP) := def_of T.a_leaves_of sc_leaves_of (dv_leaves_of T (D_straight_parts T)) (p_leaves_of)
theorem D_main_parts (T : Tops K mg base w0) : Def P w0 K mg base 4 "main_parts" s_main_parts ["question"] (wfMain) := def_of T.a_main_parts sc_main_parts (dv_main_parts T (D_leaves_of T)) (p_main_parts)
theorem D_named (T : Tops K mg base w0) : Def P w0 K mg base 5 "named" s_named ["question", "place"] (wfNamed) := def_of T.a_named sc_named (dv_named T (D_columns_in T) (D_part_at T)) (p_named)
theorem D_law_deck (T : Tops K mg base w0) : Def P w0 K mg base 1 "_law_deck" s_law_deck ["_law_script"] (wfDeck "total") := def_of T.a_law_deck sc_law_deck (dv_law_deck T) (fun ds μ Q hl h => deck_ok (S := 77211) (B := 48271) (A := 2147483629) (C := 41) (M := 2147483587) (by decide) (by decide) (by decide) (by decide) (by decide) ds μ Q hl h)
theorem D_law_draw (T : Tops K mg base w0) : Def P w0 K mg base 1 "_law_draw" s_law_draw ["_law_deck_here", "_law_many"] (drawW) := def_of T.a_law_draw sc_law_draw (dv_law_draw T) (fun ds μ Q hl h => draw_ok (A := 2147483629) (B := 60209) (C := 53) (D := 40692) (E := 2147483647) (F := 69761) (G := 37) (I := 2147483587) (J := 39373) (L := 2147483563) (M := 64) (by decide) (by decide) (by decide) (by decide) (by decide) (by decide) (by decide) (by decide) (by decide) ds μ Q hl h)
theorem D_law_pick (T : Tops K mg base w0) : Def P w0 K mg base 2 "_law_pick" s_law_pick ["_law_deck_here", "_law_some"] (pickW) := def_of T.a_law_pick sc_law_pick (dv_law_pick T (D_law_draw T)) (pick_ok)
theorem D_law_names (T : Tops K mg base w0) : Def P w0 K mg base 2 "_law_names" s_law_names ["_law_deck_here", "_law_many"] (wfNames) := def_of T.a_law_names sc_law_names (dv_law_names T (D_law_draw T)) (p_law_names)
theorem D_law_schema (T : Tops K mg base w0) : Def P w0 K mg base 3 "_law_schema" s_law_schema ["_law_deck_here", "_law_names_here", "_law_many"] (wfSchema) := def_of T.a_law_schema sc_law_schema (dv_law_schema T (D_law_draw T) (D_law_pick T)) (p_law_schema)
theorem D_law_any_value (T : Tops K mg base w0) : Def P w0 K mg base 3 "_law_any_value" s_law_any_value ["_law_deck_here", "_law_kinds"] (wfVal) := def_of T.a_law_any_value sc_law_any_value (dv_law_any_value T (D_law_pick T)) (p_law_any_value)
theorem D_law_column (T : Tops K mg base w0) : Def P w0 K mg base 3 "_law_column" s_law_column ["_law_deck_here", "_law_world", "_law_refs"] (wfCol) := def_of T.a_law_column sc_law_column (dv_law_column T (D_law_pick T)) (p_law_column)
theorem D_law_some_term (T : Tops K mg base w0) : ∀ n : Nat, Def P w0 K mg base (n + 4) "_law_some_term" s_law_some_term ["_law_deck_here", "_law_world", "_law_refs", "_law_deep"] (wfTerm n)
  | 0 => def_of T.a_law_some_term sc_law_some_term (dv_law_some_term T (kk := 0) (lv := 3) (by omega) (by omega) (D_law_draw T) (D_law_column T) (D_law_any_value T) (Def.no T.a_law_some_term) (D_law_pick T)) (p_law_some_term wfNo 0 fun n' e => by omega)
  | n + 1 => def_of T.a_law_some_term sc_law_some_term (dv_law_some_term T (kk := n + 4) (lv := n + 4) (by omega) (by omega) (D_law_draw T) (D_law_column T) (D_law_any_value T) (D_law_some_term T n) (D_law_pick T)) (p_law_some_term (wfTerm n) (n + 1) fun n' e => by
      obtain rfl : n = n' := by omega
      exact fun _ _ _ h => h)
theorem D_law_some_leaf (T : Tops K mg base w0) : Def P w0 K mg base 11 "_law_some_leaf" s_law_some_leaf ["_law_deck_here", "_law_world", "_law_refs", "_law_deep"] (wfLeaf 1) := def_of T.a_law_some_leaf sc_law_some_leaf (dv_law_some_leaf T (D_law_pick T) ((D_law_some_term T 1).mono (by decide))) (p_law_some_leaf 1)
theorem D_leaf2 (T : Tops K mg base w0) : Def P w0 K mg base 11 "_law_some_leaf" s_law_some_leaf ["_law_deck_here", "_law_world", "_law_refs", "_law_deep"] (wfLeaf 2) := def_of T.a_law_some_leaf sc_law_some_leaf (dv_law_some_leaf T (D_law_pick T) ((D_law_some_term T 2).mono (by decide))) (p_law_some_leaf 2)
theorem D_law_inner (T : Tops K mg base w0) : Def P w0 K mg base 12 "_law_inner" s_law_inner ["_law_deck_here", "_law_world", "_law_refs", "_law_aliases"] (wfInner) := def_of T.a_law_inner sc_law_inner (dv_law_inner T (D_law_pick T) (D_law_draw T) (D_law_some_leaf T)) (p_law_inner)
theorem D_law_condition (T : Tops K mg base w0) : ∀ n : Nat, Def P w0 K mg base (n + 13) "_law_condition" s_law_condition ["_law_deck_here", "_law_world", "_law_refs", "_law_aliases", "_law_deep"] (wfCond n)
  | 0 => def_of T.a_law_condition sc_law_condition (dv_law_condition T (kk := 0) (lv := 12) (by omega) (by omega) (D_law_draw T) (Def.no T.a_law_condition) (D_law_inner T) (D_law_pick T) (D_law_column T) (D_law_some_leaf T)) (p_law_condition wfNo 0 fun n' e => by omega)
  | n + 1 => def_of T.a_law_condition sc_law_condition (dv_law_condition T (kk := n + 13) (lv := n + 13) (by omega) (by omega) (D_law_draw T) (D_law_condition T n) (D_law_inner T) (D_law_pick T) (D_law_column T) (D_law_some_leaf T)) (p_law_condition (wfCond n) (n + 1) fun n' e => by
      obtain rfl : n = n' := by omega
      exact fun _ _ _ h => h)
theorem D_law_drawn (T : Tops K mg base w0) : Def P w0 K mg base 21 "_law_drawn" s_law_drawn ["_law_deck_here", "_law_world", "_law_names_here", "_law_most"] (wfDrawn) := def_of T.a_law_drawn sc_law_drawn (dv_law_drawn T (D_law_pick T) (D_law_draw T) ((D_law_condition T 2).mono (by decide)) ((D_law_some_term T 1).mono (by decide)) (D_law_column T)) (p_law_drawn)
theorem D_law_below (T : Tops K mg base w0) : Def P w0 K mg base 1 "_law_below" s_law_below ["_law_part"] (wfBelow) := def_of T.a_law_below sc_law_below (dv_law_below T) (p_law_below)
theorem D_law_all (T : Tops K mg base w0) : ∀ n : Nat, Def P w0 K mg base (n + 2) "_law_all" s_law_all ["_law_part", "_law_lead"] (wfAll n)
  | 0 => def_of T.a_law_all sc_law_all (dv_law_all T (kk := 0) (lv := 1) (by omega) (by omega) (D_law_below T) (Def.no T.a_law_all)) (p_law_all wfNo 0 fun n' e => by omega)
  | n + 1 => def_of T.a_law_all sc_law_all (dv_law_all T (kk := n + 2) (lv := n + 2) (by omega) (by omega) (D_law_below T) (D_law_all T n)) (p_law_all (wfAll n) (n + 1) fun n' e => by
      obtain rfl : n = n' := by omega
      exact fun _ _ _ h => h)
theorem D_law_every (T : Tops K mg base w0) : Def P w0 K mg base 41 "_law_every" s_law_every ["_law_asked"] (wfEvery) := def_of T.a_law_every sc_law_every (dv_law_every T ((D_law_all T 12).mono (by decide))) (p_law_every)
theorem D_law_leaves (T : Tops K mg base w0) : ∀ n : Nat, Def P w0 K mg base (n + 1) "_law_leaves" s_law_leaves ["_law_condition_here", "_law_lead"] (wfLv n)
  | 0 => def_of T.a_law_leaves sc_law_leaves (dv_law_leaves T (kk := 0) (lv := 0) (by omega) (by omega) (Def.no T.a_law_leaves)) (p_law_leaves wfNo 0 fun n' e => by omega)
  | n + 1 => def_of T.a_law_leaves sc_law_leaves (dv_law_leaves T (kk := n + 1) (lv := n + 1) (by omega) (by omega) (D_law_leaves T n)) (p_law_leaves (wfLv n) (n + 1) fun n' e => by
      obtain rfl : n = n' := by omega
      exact fun _ _ _ h => h)
theorem D_law_widened (T : Tops K mg base w0) : Def P w0 K mg base 12 "_law_widened" s_law_widened ["_law_deck_here", "_law_world", "_law_asked", "_law_aliases"] (wfWid) := def_of T.a_law_widened sc_law_widened (dv_law_widened T (D_law_pick T) (D_leaf2 T) (D_law_column T) ((D_law_some_term T 3).mono (by decide))) (p_law_widened)
theorem D_law_right (T : Tops K mg base w0) : Def P w0 K mg base 42 "_law_right" s_law_right ["_law_asked"] (wfRight) := def_of T.a_law_right sc_law_right (dv_law_right T (D_law_every T) ((D_law_leaves T 12).mono (by decide)) (D_main_parts T) (D_part_at T) (D_named T)) (p_law_right)
theorem law_end {h : Heap} {fa : Addr} (_ : K.In h) (_ : h.Ns mainGlobals mg) (_ : ∃ o, h.get? sysModules = some o) (hfa : mg "law" = some (.ref fa)) (T0 : Tops K mg h w0) :
    ∃ fd : FuncData, (∀ (s : Shared) (u : Value), BindsTo s fd ⟨[u], []⟩ [("_law_script", u)]) ∧ ∀ base : Heap, K.In base → base.Ns mainGlobals mg → (∃ o, base.get? sysModules = some o) → FnG P w0 K mg base 43 fa fd ["_law_script"] (spD K 1 wfLaw) := by
  obtain ⟨f, fd, h1, F⟩ := T0.a_law_main
  have e := hfa.symm.trans h1
  cases e
  refine ⟨fd, fun s u => ?_, fun base _ _ hsm => ?_⟩
  · obtain ⟨oc, od, kV, doc, pm, an, cdv, ct, osl, rfl, lk, hcd⟩ := F.ex
    exact .of_eq rfl
  · have T : Tops K mg base w0 := { T0 with sm := hsm }
    exact fn_dat F sc_law_main rfl (dv_law_main T (D_law_deck T) (D_law_names T) (D_law_schema T) (D_law_drawn T) (D_law_draw T) (D_law_widened T) (D_law_right T) fa) p_law
end
end K21

set_option Elab.async false
set_option linter.all false
set_option maxRecDepth 100000
set_option maxHeartbeats 0
/-! K21h: the end. -/
open PySem PySem.W PyProof.Rows

theorem PySem.Challenge.cw_failsalike_k21_places_and_main_parts_holds : PySem.Challenge.rw_failsalike_k21_places_and_main_parts.Holds := by
  w_on; o_law; k_head; (case hw => w_witness2)
  k_fill
  refine Dz.walk_ofG (l := PySem.Challenge.rw_failsalike_k21_places_and_main_parts) (n := 63) (k := 43) (x := "_law_script") (sp := fun K => Dz.spD K 1 K21.wfLaw) rfl (by decide) (by decide +kernel) rfl ⟨rfl, by decide, by decide⟩ (fun w h Y => PySem.W.kIn_of Y) ?F ?hsp
  case hsp => exact fun K H a ns _ _ hS => Dz.law_start (fun μ P hq => ⟨ns, rfl, hq⟩) hS
  case F =>
    intro w mg fa h KX G hsm hmg
    refine' K21.law_end KX G hsm hmg ?T
    case T =>
      refine' K21.Tops.mk ?t0 ?t1 ?t2 ?t3 ?t4 ?t5 ?t6 ?t7 ?t8 ?t9 ?t10 ?t11 ?t12 ?t13 ?t14 ?t15 ?t16 ?t17 ?t18 ?t19 ?t20 ?t21 ?t22 ?t23 ?t24 ?t25 ?t26 ?t27 ?t28 ?t29 ?t30 ?t31 ?t32 ?t33 ?t34 ?t35 ?t36 ?t37
      case t0 =>
        refine' Dz.at1_of KX G ?a ?l ?c ?k
        (case a => k_is); (case l => k_is); (case c => k_is); (case k => k_is)
      case t1 =>
        refine' Dz.at1_of KX G ?a ?l ?c ?k
        (case a => k_is); (case l => k_is); (case c => k_is); (case k => k_is)
      case t2 =>
        refine' Dz.at1_of KX G ?a ?l ?c ?k
        (case a => k_is); (case l => k_is); (case c => k_is); (case k => k_is)
      case t3 =>
        refine' Dz.at1_of KX G ?a ?l ?c ?k
        (case a => k_is); (case l => k_is); (case c => k_is); (case k => k_is)
      case t4 =>
        refine' Dz.at1_of KX G ?a ?l ?c ?k
        (case a => k_is); (case l => k_is); (case c => k_is); (case k => k_is)
      case t5 =>
        refine' Dz.at1_of KX G ?a ?l ?c ?k
        (case a => k_is); (case l => k_is); (case c => k_is); (case k => k_is)
      case t6 =>
        refine' Dz.at1_of KX G ?a ?l ?c ?k
        (case a => k_is); (case l => k_is); (case c => k_is); (case k => k_is)
      case t7 =>
        refine' Dz.at1_of KX G ?a ?l ?c ?k
        (case a => k_is); (case l => k_is); (case c => k_is); (case k => k_is)
      case t8 =>
        refine' Dz.at1_of KX G ?a ?l ?c ?k
        (case a => k_is); (case l => k_is); (case c => k_is); (case k => k_is)
      case t9 =>
        refine' Dz.at1_of KX G ?a ?l ?c ?k
        (case a => k_is); (case l => k_is); (case c => k_is); (case k => k_is)
      case t10 =>
        refine' Dz.at1_of KX G ?a ?l ?c ?k
        (case a => k_is); (case l => k_is); (case c => k_is); (case k => k_is)
      case t11 =>
        refine' Dz.at1_of KX G ?a ?l ?c ?k
        (case a => k_is); (case l => k_is); (case c => k_is); (case k => k_is)
      case t12 =>
        refine' Dz.at1_of KX G ?a ?l ?c ?k
        (case a => k_is); (case l => k_is); (case c => k_is); (case k => k_is)
      case t13 =>
        refine' Dz.at1_of KX G ?a ?l ?c ?k
        (case a => k_is); (case l => k_is); (case c => k_is); (case k => k_is)
      case t14 =>
        refine' Dz.at1_of KX G ?a ?l ?c ?k
        (case a => k_is); (case l => k_is); (case c => k_is); (case k => k_is)
      case t15 =>
        refine' Dz.at1_of KX G ?a ?l ?c ?k
        (case a => k_is); (case l => k_is); (case c => k_is); (case k => k_is)
      case t16 =>
        refine' Dz.at1_of KX G ?a ?l ?c ?k
        (case a => k_is); (case l => k_is); (case c => k_is); (case k => k_is)
      case t17 =>
        refine' Dz.at1_of KX G ?a ?l ?c ?k
        (case a => k_is); (case l => k_is); (case c => k_is); (case k => k_is)
      case t18 =>
        refine' Dz.at1_of KX G ?a ?l ?c ?k
        (case a => k_is); (case l => k_is); (case c => k_is); (case k => k_is)
      case t19 =>
        refine' Dz.at1_of KX G ?a ?l ?c ?k
        (case a => k_is); (case l => k_is); (case c => k_is); (case k => k_is)
      case t20 =>
        refine' Dz.at1_of KX G ?a ?l ?c ?k
        (case a => k_is); (case l => k_is); (case c => k_is); (case k => k_is)
      case t21 =>
        refine' Dz.at1_of KX G ?a ?l ?c ?k
        (case a => k_is); (case l => k_is); (case c => k_is); (case k => k_is)
      case t22 =>
        refine' Dz.at1_of KX G ?a ?l ?c ?k
        (case a => k_is); (case l => k_is); (case c => k_is); (case k => k_is)
      case t23 =>
        refine' Dz.at1_of KX G ?a ?l ?c ?k
        (case a => k_is); (case l => k_is); (case c => k_is); (case k => k_is)
      case t24 =>
        refine' Dz.at1_of KX G ?a ?l ?c ?k
        (case a => k_is); (case l => k_is); (case c => k_is); (case k => k_is)
      case t25 =>
        refine' Dz.at1_of KX G ?a ?l ?c ?k
        (case a => k_is); (case l => k_is); (case c => k_is); (case k => k_is)
      case t26 =>
        refine' PySem.W.mg_none_of KX G ?z
        (case z => k_is)
      case t27 =>
        refine' PySem.W.mg_none_of KX G ?z
        (case z => k_is)
      case t28 =>
        refine' PySem.W.mg_none_of KX G ?z
        (case z => k_is)
      case t29 =>
        refine' PySem.W.mg_none_of KX G ?z
        (case z => k_is)
      case t30 =>
        refine' PySem.W.mg_none_of KX G ?z
        (case z => k_is)
      case t31 =>
        refine' PySem.W.mg_none_of KX G ?z
        (case z => k_is)
      case t32 =>
        refine' PySem.W.mg_none_of KX G ?z
        (case z => k_is)
      case t33 =>
        refine' Dz.glob_of KX G ?a (Dz.ci_tup ?l0 ?z0 ?v0)
        (case a => k_is)
        (case l0 => k_is); (case z0 => exact Nat.le_trans (Nat.le_of_ble_eq_true (show Nat.ble _ 100 = true from rfl)) (by rw [PySem.sizeLine_eq]; omega))
        (case v0 => exact (Dz.CIs.cons (Dz.ci_str) (Dz.CIs.cons (Dz.ci_str) (Dz.CIs.cons (Dz.ci_str) Dz.CIs.nil))))
      case t34 =>
        refine' Dz.dct_of KX G ?a ?l ?hk (Dz.ea_cons ?n0 (Dz.ci_tup ?l30 ?z30 ?v30) (Dz.ea_cons ?n1 (Dz.ci_tup ?l29 ?z29 ?v29) (Dz.ea_cons ?n2 (Dz.ci_tup ?l27 ?z27 ?v27) (Dz.ea_cons ?n3 (Dz.ci_tup ?l24 ?z24 ?v24) (Dz.ea_cons ?n4 (Dz.ci_tup ?l21 ?z21 ?v21) (Dz.ea_cons ?n5 (Dz.ci_tup ?l18 ?z18 ?v18) (Dz.ea_cons ?n6 (Dz.ci_tup ?l16 ?z16 ?v16) (Dz.ea_cons ?n7 (Dz.ci_tup ?l14 ?z14 ?v14) (Dz.ea_cons ?n8 (Dz.ci_tup ?l11 ?z11 ?v11) (Dz.ea_cons ?n9 (Dz.ci_tup ?l8 ?z8 ?v8) (Dz.ea_cons ?n10 (Dz.ci_tup ?l6 ?z6 ?v6) (Dz.ea_cons ?n11 (Dz.ci_tup ?l3 ?z3 ?v3) (Dz.ea_cons ?n12 (Dz.ci_tup ?l0 ?z0 ?v0) Dz.ea_nil)))))))))))))
        (case a => k_is); (case l => k_is); (case hk => exact ⟨⟨_, _, rfl, rfl⟩, ⟨_, _, rfl, rfl⟩, ⟨_, _, rfl, rfl⟩, ⟨_, _, rfl, rfl⟩, ⟨_, _, rfl, rfl⟩, ⟨_, _, rfl, rfl⟩, ⟨_, _, rfl, rfl⟩, ⟨_, _, rfl, rfl⟩, ⟨_, _, rfl, rfl⟩, ⟨_, _, rfl, rfl⟩, ⟨_, _, rfl, rfl⟩, ⟨_, _, rfl, rfl⟩, ⟨_, _, rfl, rfl⟩, trivial⟩)
        (case n0 => k_is)
        (case n1 => k_is)
        (case n2 => k_is)
        (case n3 => k_is)
        (case n4 => k_is)
        (case n5 => k_is)
        (case n6 => k_is)
        (case n7 => k_is)
        (case n8 => k_is)
        (case n9 => k_is)
        (case n10 => k_is)
        (case n11 => k_is)
        (case n12 => k_is)
        (case l0 => k_is); (case z0 => exact Nat.le_trans (Nat.le_of_ble_eq_true (show Nat.ble _ 100 = true from rfl)) (by rw [PySem.sizeLine_eq]; omega))
        case' v0 => refine' (Dz.CIs.cons (Dz.ci_tup ?l2 ?z2 ?v2) (Dz.CIs.cons (Dz.ci_tup ?l1 ?z1 ?v1) Dz.CIs.nil))
        (case l1 => k_is); (case z1 => exact Nat.le_trans (Nat.le_of_ble_eq_true (show Nat.ble _ 100 = true from rfl)) (by rw [PySem.sizeLine_eq]; omega))
        (case v1 => exact (Dz.CIs.cons (Dz.ci_int) Dz.CIs.nil))
        (case l2 => k_is); (case z2 => exact Nat.le_trans (Nat.le_of_ble_eq_true (show Nat.ble _ 100 = true from rfl)) (by rw [PySem.sizeLine_eq]; omega))
        (case v2 => exact (Dz.CIs.cons (Dz.ci_int) (Dz.CIs.cons (Dz.ci_int) Dz.CIs.nil)))
        (case l3 => k_is); (case z3 => exact Nat.le_trans (Nat.le_of_ble_eq_true (show Nat.ble _ 100 = true from rfl)) (by rw [PySem.sizeLine_eq]; omega))
        case' v3 => refine' (Dz.CIs.cons (Dz.ci_tup ?l5 ?z5 ?v5) (Dz.CIs.cons (Dz.ci_tup ?l4 ?z4 ?v4) Dz.CIs.nil))
        (case l4 => k_is); (case z4 => exact Nat.le_trans (Nat.le_of_ble_eq_true (show Nat.ble _ 100 = true from rfl)) (by rw [PySem.sizeLine_eq]; omega))
        (case v4 => exact (Dz.CIs.cons (Dz.ci_int) Dz.CIs.nil))
        (case l5 => k_is); (case z5 => exact Nat.le_trans (Nat.le_of_ble_eq_true (show Nat.ble _ 100 = true from rfl)) (by rw [PySem.sizeLine_eq]; omega))
        (case v5 => exact (Dz.CIs.cons (Dz.ci_int) (Dz.CIs.cons (Dz.ci_int) Dz.CIs.nil)))
        (case l6 => k_is); (case z6 => exact Nat.le_trans (Nat.le_of_ble_eq_true (show Nat.ble _ 100 = true from rfl)) (by rw [PySem.sizeLine_eq]; omega))
        case' v6 => refine' (Dz.CIs.cons (Dz.ci_tup ?l7 ?z7 ?v7) Dz.CIs.nil)
        (case l7 => k_is); (case z7 => exact Nat.le_trans (Nat.le_of_ble_eq_true (show Nat.ble _ 100 = true from rfl)) (by rw [PySem.sizeLine_eq]; omega))
        (case v7 => exact (Dz.CIs.cons (Dz.ci_int) (Dz.CIs.cons (Dz.ci_int) Dz.CIs.nil)))
        (case l8 => k_is); (case z8 => exact Nat.le_trans (Nat.le_of_ble_eq_true (show Nat.ble _ 100 = true from rfl)) (by rw [PySem.sizeLine_eq]; omega))
        case' v8 => refine' (Dz.CIs.cons (Dz.ci_tup ?l10 ?z10 ?v10) (Dz.CIs.cons (Dz.ci_tup ?l9 ?z9 ?v9) Dz.CIs.nil))
        (case l9 => k_is); (case z9 => exact Nat.le_trans (Nat.le_of_ble_eq_true (show Nat.ble _ 100 = true from rfl)) (by rw [PySem.sizeLine_eq]; omega))
        (case v9 => exact (Dz.CIs.cons (Dz.ci_int) Dz.CIs.nil))
        (case l10 => k_is); (case z10 => exact Nat.le_trans (Nat.le_of_ble_eq_true (show Nat.ble _ 100 = true from rfl)) (by rw [PySem.sizeLine_eq]; omega))
        (case v10 => exact (Dz.CIs.cons (Dz.ci_int) Dz.CIs.nil))
        (case l11 => k_is); (case z11 => exact Nat.le_trans (Nat.le_of_ble_eq_true (show Nat.ble _ 100 = true from rfl)) (by rw [PySem.sizeLine_eq]; omega))
        case' v11 => refine' (Dz.CIs.cons (Dz.ci_tup ?l13 ?z13 ?v13) (Dz.CIs.cons (Dz.ci_tup ?l12 ?z12 ?v12) Dz.CIs.nil))
        (case l12 => k_is); (case z12 => exact Nat.le_trans (Nat.le_of_ble_eq_true (show Nat.ble _ 100 = true from rfl)) (by rw [PySem.sizeLine_eq]; omega))
        (case v12 => exact (Dz.CIs.cons (Dz.ci_int) Dz.CIs.nil))
        (case l13 => k_is); (case z13 => exact Nat.le_trans (Nat.le_of_ble_eq_true (show Nat.ble _ 100 = true from rfl)) (by rw [PySem.sizeLine_eq]; omega))
        (case v13 => exact (Dz.CIs.cons (Dz.ci_int) Dz.CIs.nil))
        (case l14 => k_is); (case z14 => exact Nat.le_trans (Nat.le_of_ble_eq_true (show Nat.ble _ 100 = true from rfl)) (by rw [PySem.sizeLine_eq]; omega))
        case' v14 => refine' (Dz.CIs.cons (Dz.ci_tup ?l15 ?z15 ?v15) Dz.CIs.nil)
        (case l15 => k_is); (case z15 => exact Nat.le_trans (Nat.le_of_ble_eq_true (show Nat.ble _ 100 = true from rfl)) (by rw [PySem.sizeLine_eq]; omega))
        (case v15 => exact (Dz.CIs.cons (Dz.ci_int) Dz.CIs.nil))
        (case l16 => k_is); (case z16 => exact Nat.le_trans (Nat.le_of_ble_eq_true (show Nat.ble _ 100 = true from rfl)) (by rw [PySem.sizeLine_eq]; omega))
        case' v16 => refine' (Dz.CIs.cons (Dz.ci_tup ?l17 ?z17 ?v17) Dz.CIs.nil)
        (case l17 => k_is); (case z17 => exact Nat.le_trans (Nat.le_of_ble_eq_true (show Nat.ble _ 100 = true from rfl)) (by rw [PySem.sizeLine_eq]; omega))
        (case v17 => exact (Dz.CIs.cons (Dz.ci_int) Dz.CIs.nil))
        (case l18 => k_is); (case z18 => exact Nat.le_trans (Nat.le_of_ble_eq_true (show Nat.ble _ 100 = true from rfl)) (by rw [PySem.sizeLine_eq]; omega))
        case' v18 => refine' (Dz.CIs.cons (Dz.ci_tup ?l20 ?z20 ?v20) (Dz.CIs.cons (Dz.ci_tup ?l19 ?z19 ?v19) Dz.CIs.nil))
        (case l19 => k_is); (case z19 => exact Nat.le_trans (Nat.le_of_ble_eq_true (show Nat.ble _ 100 = true from rfl)) (by rw [PySem.sizeLine_eq]; omega))
        (case v19 => exact (Dz.CIs.cons (Dz.ci_int) Dz.CIs.nil))
        (case l20 => k_is); (case z20 => exact Nat.le_trans (Nat.le_of_ble_eq_true (show Nat.ble _ 100 = true from rfl)) (by rw [PySem.sizeLine_eq]; omega))
        (case v20 => exact (Dz.CIs.cons (Dz.ci_int) Dz.CIs.nil))
        (case l21 => k_is); (case z21 => exact Nat.le_trans (Nat.le_of_ble_eq_true (show Nat.ble _ 100 = true from rfl)) (by rw [PySem.sizeLine_eq]; omega))
        case' v21 => refine' (Dz.CIs.cons (Dz.ci_tup ?l23 ?z23 ?v23) (Dz.CIs.cons (Dz.ci_tup ?l22 ?z22 ?v22) Dz.CIs.nil))
        (case l22 => k_is); (case z22 => exact Nat.le_trans (Nat.le_of_ble_eq_true (show Nat.ble _ 100 = true from rfl)) (by rw [PySem.sizeLine_eq]; omega))
        (case v22 => exact (Dz.CIs.cons (Dz.ci_int) Dz.CIs.nil))
        (case l23 => k_is); (case z23 => exact Nat.le_trans (Nat.le_of_ble_eq_true (show Nat.ble _ 100 = true from rfl)) (by rw [PySem.sizeLine_eq]; omega))
        (case v23 => exact (Dz.CIs.cons (Dz.ci_int) Dz.CIs.nil))
        (case l24 => k_is); (case z24 => exact Nat.le_trans (Nat.le_of_ble_eq_true (show Nat.ble _ 100 = true from rfl)) (by rw [PySem.sizeLine_eq]; omega))
        case' v24 => refine' (Dz.CIs.cons (Dz.ci_tup ?l26 ?z26 ?v26) (Dz.CIs.cons (Dz.ci_tup ?l25 ?z25 ?v25) Dz.CIs.nil))
        (case l25 => k_is); (case z25 => exact Nat.le_trans (Nat.le_of_ble_eq_true (show Nat.ble _ 100 = true from rfl)) (by rw [PySem.sizeLine_eq]; omega))
        (case v25 => exact (Dz.CIs.cons (Dz.ci_int) Dz.CIs.nil))
        (case l26 => k_is); (case z26 => exact Nat.le_trans (Nat.le_of_ble_eq_true (show Nat.ble _ 100 = true from rfl)) (by rw [PySem.sizeLine_eq]; omega))
        (case v26 => exact (Dz.CIs.cons (Dz.ci_int) Dz.CIs.nil))
        (case l27 => k_is); (case z27 => exact Nat.le_trans (Nat.le_of_ble_eq_true (show Nat.ble _ 100 = true from rfl)) (by rw [PySem.sizeLine_eq]; omega))
        case' v27 => refine' (Dz.CIs.cons (Dz.ci_tup ?l28 ?z28 ?v28) Dz.CIs.nil)
        (case l28 => k_is); (case z28 => exact Nat.le_trans (Nat.le_of_ble_eq_true (show Nat.ble _ 100 = true from rfl)) (by rw [PySem.sizeLine_eq]; omega))
        (case v28 => exact (Dz.CIs.cons (Dz.ci_int) Dz.CIs.nil))
        (case l29 => k_is); (case z29 => exact Nat.le_trans (Nat.le_of_ble_eq_true (show Nat.ble _ 100 = true from rfl)) (by rw [PySem.sizeLine_eq]; omega))
        (case v29 => exact Dz.CIs.nil)
        (case l30 => k_is); (case z30 => exact Nat.le_trans (Nat.le_of_ble_eq_true (show Nat.ble _ 100 = true from rfl)) (by rw [PySem.sizeLine_eq]; omega))
        (case v30 => exact Dz.CIs.nil)
      case t35 =>
        refine' ⟨_, PySem.W.mg_of KX G ?a, ?b⟩
        (case a => k_is); (case b => exact ⟨_, rfl⟩)
      case t36 =>
        refine' ⟨_, PySem.W.mg_of KX G ?a, ?b⟩
        (case a => k_is); (case b => exact ⟨_, rfl⟩)
      case t37 =>
        exact hsm
