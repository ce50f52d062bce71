import PyProof.Rows.All
import Wide.All
import OpenK.AllK
import Wide.FinOn
import HandS.ForMost
import HandS.IsInst
import HandS.TupLe
import HandS.TupAny
import HandS.Deep
import HandS.Wide
import HandS.Style
import PyProof.ReprBulk
import PyProof.FitsInt
import PyProof.Rows.StrReprJoin
import HandS.Star
import HandS.Iter
import KE.SortData
import KE.GoesMore
import KE.GoesEnum
import PyProof.EnumMake
import PyProof.Draws
import PyProof.RulesMatch
import HandS.More
import HandS.Set
import HandS.SetTxt0
import HandS.SetBool
import HandS.NoneIn
import PyProof.AutoSeq1
import PySem.Challenge.RW_failsalike_k55_shapes
set_option Elab.async false
set_option linter.all false
set_option maxRecDepth 100000
set_option maxHeartbeats 4000000
/-! Dz1: values as plain data, the objects that may change beside them, and what a reading over data says. -/
namespace Dz
open PySem L2

/-- plain data; obj: an object that may change, by its address -/
inductive DV where
  | none | bool (b : Bool) | int (i : Int) | str (x : Str)
  | tup (ds : List DV) | lst (ds : List DV) | dct (kvs : List (Key × DV)) | obj (a : Addr)
  /-- a list that is read alone (the script) -/
  | fix (ds : List DV)

mutual
/-- the value v is the data d, as the heap stands -/
inductive Is (K : PySem.W.Frag) (H : Hp) : V → DV → Prop
  | none : Is K H .non .none
  | bool (b : Bool) : Is K H (.bl b) (.bool b)
  | int (i : Int) : Is K H (.int i) (.int i)
  | str (x : Str) : Is K H (.str x) (.str x)
  | tup {a : Addr} {xs : List V} {ds : List DV} : SqT K H a xs → Iss K H xs ds → Is K H (.ref a) (.tup ds)
  | lst {a : Addr} {xs : List V} {ds : List DV} : H a = some (.lst xs) → Iss K H xs ds → Is K H (.ref a) (.lst ds)
  | dct {a : Addr} {kvs : List (Key × V)} {ds : List (Key × DV)} : H a = some (.dK kvs) → kvs.map (·.1) = ds.map (·.1) → Iss K H (kvs.map (·.2)) (ds.map (·.2)) → Is K H (.ref a) (.dct ds)
  | obj (a : Addr) : Is K H (.ref a) (.obj a)
  | fix {a : Addr} {xs : List V} {ds : List DV} : SqL K H a xs → Iss K H xs ds → Is K H (.ref a) (.fix ds)
inductive Iss (K : PySem.W.Frag) (H : Hp) : List V → List DV → Prop
  | nil : Iss K H [] []
  | cons {v : V} {vs : List V} {d : DV} {ds : List DV} : Is K H v d → Iss K H vs ds → Iss K H (v :: vs) (d :: ds)
end

theorem Same.seqT {K : PySem.W.Frag} {H H' : Hp} {a : Addr} {xs : List V} (e : Same H H') (h : SqT K H a xs) : SqT K H' a xs := by
  rcases h with (h | ⟨o, h⟩) | h
  · exact .inl (.inl (e _ _ h))
  · exact .inl (.inr ⟨o, e _ _ h⟩)
  · exact .inr h

mutual
theorem Is.mono {K : PySem.W.Frag} {H H' : Hp} (e : Same H H') : ∀ {v : V} {d : DV}, Is K H v d → Is K H' v d
  | _, _, .none => .none
  | _, _, .bool b => .bool b
  | _, _, .int i => .int i
  | _, _, .str x => .str x
  | _, _, .tup h r => .tup (Same.seqT e h) (Iss.mono e r)
  | _, _, .lst h r => .lst (e _ _ h) (Iss.mono e r)
  | _, _, .dct h k r => .dct (e _ _ h) k (Iss.mono e r)
  | _, _, .obj a => .obj a
  | _, _, .fix h r => .fix (e.seq h) (Iss.mono e r)
theorem Iss.mono {K : PySem.W.Frag} {H H' : Hp} (e : Same H H') : ∀ {vs : List V} {ds : List DV}, Iss K H vs ds → Iss K H' vs ds
  | _, _, .nil => .nil
  | _, _, .cons h r => .cons (Is.mono e h) (Iss.mono e r)
end
theorem Iss.length {K : PySem.W.Frag} {H : Hp} : ∀ {vs : List V} {ds : List DV}, Iss K H vs ds → vs.length = ds.length
  | _, _, .nil => rfl
  | _, _, .cons _ r => congrArg (· + 1) (Iss.length r)
theorem Iss.append {K : PySem.W.Frag} {H : Hp} : ∀ {vs us : List V} {ds es : List DV}, Iss K H vs ds → Iss K H us es → Iss K H (vs ++ us) (ds ++ es)
  | _, _, _, _, .nil, s => s
  | _, _, _, _, .cons h r, s => .cons h (Iss.append r s)
theorem Iss.take {K : PySem.W.Frag} {H : Hp} : ∀ {vs : List V} {ds : List DV} (n : Nat), Iss K H vs ds → Iss K H (vs.take n) (ds.take n)
  | _, _, 0, _ => .nil
  | _, _, _ + 1, .nil => .nil
  | _, _, n + 1, .cons h r => .cons h (Iss.take n r)
theorem Iss.drop {K : PySem.W.Frag} {H : Hp} : ∀ {vs : List V} {ds : List DV} (n : Nat), Iss K H vs ds → Iss K H (vs.drop n) (ds.drop n)
  | _, _, 0, r => r
  | _, _, _ + 1, .nil => .nil
  | _, _, n + 1, .cons _ r => Iss.drop n r
theorem Iss.get {K : PySem.W.Frag} {H : Hp} : ∀ {vs : List V} {ds : List DV} {i : Nat} {d : DV}, Iss K H vs ds → ds[i]? = some d → ∃ v, vs[i]? = some v ∧ Is K H v d
  | _, _, _, _, .nil, e => by simp at e
  | _, _, 0, d, .cons h _, e => by simp at e; subst e; exact ⟨_, rfl, h⟩
  | _, _, i + 1, d, .cons _ r, e => by
    obtain ⟨v, h1, h2⟩ := Iss.get (i := i) (d := d) r (by simpa using e)
    exact ⟨v, by simpa using h1, h2⟩
theorem Iss.getV {K : PySem.W.Frag} {H : Hp} : ∀ {vs : List V} {ds : List DV} {i : Nat} {v : V}, Iss K H vs ds → vs[i]? = some v → ∃ d, ds[i]? = some d ∧ Is K H v d
  | _, _, _, _, .nil, e => by simp at e
  | _, _, 0, v, .cons h _, e => by simp at e; subst e; exact ⟨_, rfl, h⟩
  | _, _, i + 1, v, .cons _ r, e => by
    obtain ⟨d, h1, h2⟩ := Iss.getV (i := i) (v := v) r (by simpa using e)
    exact ⟨d, by simpa using h1, h2⟩
theorem Iss.set {K : PySem.W.Frag} {H : Hp} {v : V} {d : DV} (h : Is K H v d) : ∀ {vs : List V} {ds : List DV} (i : Nat), Iss K H vs ds → Iss K H (vs.set i v) (ds.set i d)
  | _, _, _, .nil => .nil
  | _, _, 0, .cons _ r => .cons h r
  | _, _, i + 1, .cons q r => .cons q (Iss.set h i r)
theorem Iss.replicate {K : PySem.W.Frag} {H : Hp} {vs : List V} {ds : List DV} (r : Iss K H vs ds) : ∀ n : Nat, Iss K H (List.replicate n vs).flatten (List.replicate n ds).flatten
  | 0 => .nil
  | n + 1 => by
    rw [List.replicate_succ, List.replicate_succ, List.flatten_cons, List.flatten_cons]
    exact r.append (Iss.replicate r n)
theorem Iss.reverse {K : PySem.W.Frag} {H : Hp} : ∀ {vs : List V} {ds : List DV}, Iss K H vs ds → Iss K H vs.reverse ds.reverse
  | _, _, .nil => .nil
  | _, _, .cons h r => by
    rw [List.reverse_cons, List.reverse_cons]
    exact (Iss.reverse r).append (.cons h .nil)

/-! ### objects that change -/
inductive MO where
  | lst (ds : List DV) | dct (kvs : List (Key × DV)) | ins (C : Addr) (fs : List (Str × DV))
  /-- an object of which only φ is known: it stays so as long as it and the addresses near stay -/
  | ext (near : List Addr) (φ : Hp → Prop)
  /-- an object that belongs to another one -/
  | inner
abbrev Mh := Addr → Option MO
def updM (μ : Mh) (a : Addr) (o : MO) : Mh := fun b => if b = a then some o else μ b
theorem updM_same {μ : Mh} {a : Addr} {o : MO} : updM μ a o a = some o := by unfold updM; rw [if_pos rfl]
theorem updM_ne {μ : Mh} {a b : Addr} {o : MO} (h : b ≠ a) : updM μ a o b = μ b := by unfold updM; rw [if_neg h]

/-- what is neither framed nor an object -/
def hid (R : Hp) (μ : Mh) (H : Hp) : Hp := fun a => if (R a).isNone = true ∧ (μ a).isNone = true then H a else none
theorem hid_at {R : Hp} {μ : Mh} {H : Hp} {a : Addr} (h1 : R a = none) (h2 : μ a = none) : hid R μ H a = H a := by
  unfold hid
  rw [if_pos ⟨by rw [h1]; rfl, by rw [h2]; rfl⟩]
theorem hid_some {R : Hp} {μ : Mh} {H : Hp} {a : Addr} {o : HO} (h : hid R μ H a = some o) : R a = none ∧ μ a = none ∧ H a = some o := by
  unfold hid at h
  split at h
  · rename_i c
    exact ⟨by simpa using c.1, by simpa using c.2, h⟩
  · cases h
theorem hid_le {R : Hp} {μ : Mh} {H : Hp} : Same (hid R μ H) H := fun _ _ h => (hid_some h).2.2

def MOk (K : PySem.W.Frag) (Hm H : Hp) (μ : Mh) (a : Addr) : MO → Prop
  | .lst ds => ∃ xs, H a = some (.lst xs) ∧ Iss K Hm xs ds
  | .dct ks => ∃ kvs : List (Key × V), H a = some (.dK kvs) ∧ kvs.map (·.1) = ks.map (·.1) ∧ Iss K Hm (kvs.map (·.2)) (ks.map (·.2))
  | .ins C fs => ∃ dx gs, H a = some (.ins C dx gs) ∧ gs.map (·.1) = fs.map (·.1) ∧ Iss K Hm (gs.map (·.2)) (fs.map (·.2))
  | .ext near φ => φ H ∧ (∃ o, H a = some o) ∧ (∀ b ∈ near, μ b = some .inner) ∧ ∀ H1 H2 : Hp, φ H1 → (∀ b, b = a ∨ b ∈ near → H2 b = H1 b) → φ H2
  | .inner => ∃ o, H a = some o

structure Ok (K : PySem.W.Frag) (R : Hp) (μ : Mh) (H : Hp) : Prop where
  fr : ∀ a o, R a = some o → H a = some o
  dj : ∀ a o, R a = some o → μ a = none
  ob : ∀ a o, μ a = some o → MOk K (hid R μ H) H μ a o
theorem MOk.here {K : PySem.W.Frag} {Hm H : Hp} {μ : Mh} {a : Addr} : ∀ {o : MO}, MOk K Hm H μ a o → ∃ u, H a = some u
  | .lst _, h => let ⟨_, e, _⟩ := h; ⟨_, e⟩
  | .dct _, h => let ⟨_, e, _⟩ := h; ⟨_, e⟩
  | .ins _ _, h => let ⟨_, _, e, _⟩ := h; ⟨_, e⟩
  | .ext _ _, h => h.2.1
  | .inner, h => h
section
variable {K : PySem.W.Frag} {R : Hp} {μ μ' : Mh} {H H' : Hp} {p : Addr} {o : HO}
theorem Ok.freeM (k : Ok K R μ H) (h : H p = none) : μ p = none := by
  cases e : μ p with
  | none => rfl
  | some q => obtain ⟨u, z⟩ := (k.ob p q e).here; rw [h] at z; cases z
theorem Ok.freeR (k : Ok K R μ H) (h : H p = none) : R p = none := by
  cases e : R p with
  | none => rfl
  | some q => have z := k.fr p q e; rw [h] at z; cases z
theorem Ok.hidNew (k : Ok K R μ H) (h : H p = none) : hid R μ (upd H p o) = upd (hid R μ H) p o := by
  funext b
  by_cases e : b = p
  · subst e
    rw [upd_same, hid_at (k.freeR h) (k.freeM h), upd_same]
  · unfold hid
    rw [upd_ne e, upd_ne e]
theorem Ok.sameNew (k : Ok K R μ H) (h : H p = none) : Same (hid R μ H) (hid R μ (upd H p o)) := fun b u e => by
  rw [k.hidNew h, upd_ne (fun z => ?_)]
  · exact e
  · subst z
    have := hid_le b u e
    rw [h] at this
    cases this
theorem MOk.mono {Hm Hm' : Hp} {a : Addr} (s : Same Hm Hm') (e : H' a = H a) (en : ∀ b ∈ (match μ a with | some (.ext near _) => near | _ => []), H' b = H b) : ∀ {o : MO}, μ a = some o → (∀ b, μ b = some .inner → μ' b = some .inner) → MOk K Hm H μ a o → MOk K Hm' H' μ' a o
  | .lst _, _, _, ⟨xs, h, r⟩ => ⟨xs, e.trans h, r.mono s⟩
  | .dct _, _, _, ⟨xs, h, q, r⟩ => ⟨xs, e.trans h, q, r.mono s⟩
  | .ins _ _, _, _, ⟨dx, gs, h, q, r⟩ => ⟨dx, gs, e.trans h, q, r.mono s⟩
  | .ext near φ, hm, hi, ⟨h, ⟨u, hu⟩, hn, st⟩ => by
    rw [hm] at en
    refine ⟨st H H' h (fun b hb => ?_), ⟨u, e.trans hu⟩, fun b hb => hi b (hn b hb), st⟩
    rcases hb with rfl | hb
    · exact e
    · exact en b hb
  | .inner, _, _, ⟨u, h⟩ => ⟨u, e.trans h⟩
/-- a new thing, not an object that changes -/
theorem Ok.new (k : Ok K R μ H) (h : H p = none) : Ok K R μ (upd H p o) := by
  have ne : ∀ {b u}, H b = some u → b ≠ p := fun e z => by subst z; rw [h] at e; cases e
  refine ⟨fun a u e => ?_, k.dj, fun a u e => ?_⟩
  · rw [upd_ne (ne (k.fr a u e))]
    exact k.fr a u e
  · obtain ⟨w, hw⟩ := (k.ob a u e).here
    refine (k.ob a u e).mono (k.sameNew h) (upd_ne (ne hw)) (fun b hb => ?_) e (fun _ z => z)
    rw [e] at hb
    cases u with
    | ext near φ =>
      obtain ⟨_, _, hn, _⟩ := k.ob a _ e
      obtain ⟨v, hv⟩ := (k.ob b _ (hn b hb)).here
      exact upd_ne (ne hv)
    | _ => cases hb
/-- a new object that may change -/
theorem Ok.newM {m : MO} (k : Ok K R μ H) (h : H p = none) (hm : MOk K (hid R (updM μ p m) (upd H p o)) (upd H p o) (updM μ p m) p m) (hne : m ≠ .inner) : Ok K R (updM μ p m) (upd H p o) ∧ Same (hid R μ H) (hid R (updM μ p m) (upd H p o)) := by
  have ne : ∀ {b u}, H b = some u → b ≠ p := fun e z => by subst z; rw [h] at e; cases e
  have fm := k.freeM h
  have hs : Same (hid R μ H) (hid R (updM μ p m) (upd H p o)) := fun b u e => by
    obtain ⟨e1, e2, e3⟩ := hid_some e
    rw [hid_at e1 (by rw [updM_ne (ne e3)]; exact e2), upd_ne (ne e3)]
    exact e3
  refine ⟨⟨fun a u e => ?_, fun a u e => ?_, fun a u e => ?_⟩, hs⟩
  · rw [upd_ne (ne (k.fr a u e))]
    exact k.fr a u e
  · rw [updM_ne (ne (k.fr a u e))]
    exact k.dj a u e
  · by_cases z : a = p
    · subst z
      rw [updM_same] at e
      cases e
      exact hm
    · rw [updM_ne z] at e
      refine (k.ob a u e).mono hs (upd_ne z) (fun b hb => ?_) e (fun b q => ?_)
      · rw [e] at hb
        cases u with
        | ext near φ =>
          obtain ⟨_, _, hn, _⟩ := k.ob a _ e
          obtain ⟨v, hv⟩ := (k.ob b _ (hn b hb)).here
          exact upd_ne (ne hv)
        | _ => cases hb
      · rw [updM_ne (fun w => by subst w; rw [fm] at q; cases q)]
        exact q
end

/-! ### names -/
abbrev Rho := List (Option DV)
structure Sl (K : PySem.W.Frag) (H : Hp) (σ : St) (ρ : Rho) : Prop where
  len : σ.length = ρ.length
  at_ : ∀ (i : Nat) (d : DV), ρ[i]? = some (some d) → ∃ v, σ[i]? = some (some v) ∧ Is K H v d
section
variable {K : PySem.W.Frag} {H H' : Hp} {σ : St} {ρ : Rho}
theorem Sl.mono (s : Same H H') (h : Sl K H σ ρ) : Sl K H' σ ρ := ⟨h.len, fun i d e => let ⟨v, a, b⟩ := h.at_ i d e; ⟨v, a, b.mono s⟩⟩
theorem Sl.set {v : V} {d : DV} (h : Sl K H σ ρ) (i : Nat) (r : Is K H v d) : Sl K H (σ.set i (some v)) (ρ.set i (some d)) := by
  refine ⟨by rw [List.length_set, List.length_set, h.len], fun j e he => ?_⟩
  by_cases z : i = j
  · subst z
    by_cases hl : i < ρ.length
    · rw [List.getElem?_set_self hl] at he
      cases he
      exact ⟨v, by rw [List.getElem?_set_self (by rw [h.len]; exact hl)], r⟩
    · rw [List.getElem?_eq_none (by rw [List.length_set]; omega)] at he
      cases he
  · rw [List.getElem?_set_ne z] at he ⊢
    exact h.at_ j e he
theorem Sl.unset (h : Sl K H σ ρ) (i : Nat) : Sl K H (σ.set i none) (ρ.set i none) := by
  refine ⟨by rw [List.length_set, List.length_set, h.len], fun j e he => ?_⟩
  by_cases z : i = j
  · subst z
    by_cases hl : i < ρ.length
    · rw [List.getElem?_set_self hl] at he
      cases he
    · rw [List.getElem?_eq_none (by rw [List.length_set]; omega)] at he
      cases he
  · rw [List.getElem?_set_ne z] at he ⊢
    exact h.at_ j e he
/-- the slots of a block's own names forgotten -/
def wipeD (ρ : Rho) : List Nat → Rho
  | [] => ρ
  | v :: vs => (wipeD ρ vs).set v none
theorem Sl.wipe (h : Sl K H σ ρ) : ∀ vs : List Nat, Sl K H (L2.wipe σ vs) (wipeD ρ vs)
  | [] => h
  | v :: vs => (Sl.wipe h vs).unset v
theorem Sl.start {N : List Str} {vs : List V} {ds : List DV} (h : Iss K H vs ds) : Sl K H (L2.start N vs) (ds.map some ++ List.replicate (N.length - ds.length) none) := by
  have hl := h.length
  unfold L2.start
  refine ⟨by simp [hl], fun i d e => ?_⟩
  by_cases hi : i < ds.length
  · rw [List.getElem?_append_left (by simpa using hi), List.getElem?_map] at e
    cases q : ds[i]? with
    | none => rw [q] at e; cases e
    | some d' =>
      rw [q] at e
      cases e
      obtain ⟨v, h1, h2⟩ := h.get q
      refine ⟨v, ?_, h2⟩
      rw [List.getElem?_append_left (by simp; omega), List.getElem?_map, h1]
      rfl
  · rw [List.getElem?_append_right (by simpa using hi), List.getElem?_replicate] at e
    split at e <;> cases e
end

/-! ### readings over data -/
abbrev WE := Rho → Mh → (DV → Mh → Prop) → Prop
abbrev WT := Rho → Mh → (Bool → Mh → Prop) → Prop
abbrev WA := Rho → Mh → (List DV → Mh → Prop) → Prop
structure DEnds where
  nx : Rho → Mh → Prop
  rt : DV → Mh → Prop
  bk : Rho → Mh → Prop := fun _ _ => False
  ct : Rho → Mh → Prop := fun _ _ => False
abbrev WS := DEnds → Rho → Mh → Prop
/-- a def over data -/
abbrev WF := List DV → Mh → (DV → Mh → Prop) → Prop
/-- a target -/
abbrev WG := DV → Rho → (Rho → Prop) → Prop

structure At (K : PySem.W.Frag) (R : Hp) (σ : St) (ρ : Rho) (μ : Mh) (H : Hp) : Prop where
  ok : Ok K R μ H
  sl : Sl K (hid R μ H) σ ρ
def Nxt (K : PySem.W.Frag) (R : Hp) (μ : Mh) (H : Hp) (P : DV → Mh → Prop) (Q : VK) : Prop :=
  ∀ d μ' v H', P d μ' → Ok K R μ' H' → Same (hid R μ H) (hid R μ' H') → Is K (hid R μ' H') v d → Q v H'
def NxtT (K : PySem.W.Frag) (R : Hp) (μ : Mh) (H : Hp) (P : Bool → Mh → Prop) (Q : Bool → Hp → Prop) : Prop :=
  ∀ b μ' H', P b μ' → Ok K R μ' H' → Same (hid R μ H) (hid R μ' H') → Q b H'
def NxtA (K : PySem.W.Frag) (R : Hp) (μ : Mh) (H : Hp) (P : List DV → Mh → Prop) (Q : List V → Hp → Prop) : Prop :=
  ∀ ds μ' vs H', P ds μ' → Ok K R μ' H' → Same (hid R μ H) (hid R μ' H') → Iss K (hid R μ' H') vs ds → Q vs H'
def NxtS (K : PySem.W.Frag) (R : Hp) (μ : Mh) (H : Hp) (P : Rho → Mh → Prop) (Q : St → Hp → Prop) : Prop :=
  ∀ ρ' μ' σ' H', P ρ' μ' → At K R σ' ρ' μ' H' → Same (hid R μ H) (hid R μ' H') → Q σ' H'
section
variable {K : PySem.W.Frag} {R : Hp} {μ μ' : Mh} {H H' : Hp} {σ : St} {ρ : Rho}
theorem At.step (a : At K R σ ρ μ H) (k : Ok K R μ' H') (s : Same (hid R μ H) (hid R μ' H')) : At K R σ ρ μ' H' := ⟨k, a.sl.mono s⟩
theorem Nxt.step {P : DV → Mh → Prop} {Q : VK} (k : Nxt K R μ H P Q) (s : Same (hid R μ H) (hid R μ' H')) : Nxt K R μ' H' P Q := fun d m v h p o s' i => k d m v h p o (s.trans s') i
theorem NxtT.step {P : Bool → Mh → Prop} {Q : Bool → Hp → Prop} (k : NxtT K R μ H P Q) (s : Same (hid R μ H) (hid R μ' H')) : NxtT K R μ' H' P Q := fun d m h p o s' => k d m h p o (s.trans s')
theorem NxtA.step {P : List DV → Mh → Prop} {Q : List V → Hp → Prop} (k : NxtA K R μ H P Q) (s : Same (hid R μ H) (hid R μ' H')) : NxtA K R μ' H' P Q := fun d m v h p o s' i => k d m v h p o (s.trans s') i
theorem NxtS.step {P : Rho → Mh → Prop} {Q : St → Hp → Prop} (k : NxtS K R μ H P Q) (s : Same (hid R μ H) (hid R μ' H')) : NxtS K R μ' H' P Q := fun d m v h p o s' => k d m v h p o (s.trans s')
end
def tD (K : PySem.W.Frag) (w : WE) : TE := fun σ H Q => ∃ R ρ μ P, At K R σ ρ μ H ∧ w ρ μ P ∧ Nxt K R μ H P Q
def tDT (K : PySem.W.Frag) (w : WT) : TT := fun σ H Q => ∃ R ρ μ P, At K R σ ρ μ H ∧ w ρ μ P ∧ NxtT K R μ H P Q
def tDA (K : PySem.W.Frag) (w : WA) : TA := fun σ H Q => ∃ R ρ μ P, At K R σ ρ μ H ∧ w ρ μ P ∧ NxtA K R μ H P Q
structure NxtD (K : PySem.W.Frag) (R : Hp) (μ : Mh) (H : Hp) (E : DEnds) (D : Ends) : Prop where
  nx : NxtS K R μ H E.nx D.nx
  rt : Nxt K R μ H E.rt D.rt
  bk : NxtS K R μ H E.bk D.bk
  ct : NxtS K R μ H E.ct D.ct
theorem NxtD.step {K : PySem.W.Frag} {R : Hp} {μ μ' : Mh} {H H' : Hp} {E : DEnds} {D : Ends} (k : NxtD K R μ H E D) (s : Same (hid R μ H) (hid R μ' H')) : NxtD K R μ' H' E D := ⟨k.nx.step s, k.rt.step s, k.bk.step s, k.ct.step s⟩
def tDS (K : PySem.W.Frag) (w : WS) : TS := fun D σ H => ∃ R ρ μ E, At K R σ ρ μ H ∧ w E ρ μ ∧ NxtD K R μ H E D
/-- the promise of a def over data, n its parameters -/
def spD (K : PySem.W.Frag) (n : Nat) (w : WF) : Sp := fun vs H Q _ => ∃ R ds μ P, Ok K R μ H ∧ Iss K (hid R μ H) vs ds ∧ ds.length = n ∧ w ds μ P ∧ Nxt K R μ H P Q

/-! ### weaker readings -/
section
variable {X : Cx}
theorem PE.imp {e : Expr} {t t' : TE} (h : PE X e t) (i : ∀ σ H Q, t' σ H Q → t σ H Q) : PE X e t' := ⟨fun pins s σ H Q I w => h.run pins s σ H Q I (i _ _ _ w)⟩
theorem PT.imp {e : Expr} {t t' : TT} (h : PT X e t) (i : ∀ σ H Q, t' σ H Q → t σ H Q) : PT X e t' := ⟨fun pins s σ H Q I w => h.run pins s σ H Q I (i _ _ _ w)⟩
theorem PW.imp {e : Expr} {t t' : TT} (h : PW X e t) (i : ∀ σ H Q, t' σ H Q → t σ H Q) : PW X e t' := ⟨fun wh pins s σ H Q I w => h.run wh pins s σ H Q I (i _ _ _ w)⟩
theorem PA.imp {es : List Expr} {t t' : TA} (h : PA X es t) (i : ∀ σ H Q, t' σ H Q → t σ H Q) : PA X es t' := ⟨fun pos pins s σ H Q I w => h.run pos pins s σ H Q I (i _ _ _ w)⟩
theorem PK.imp {es : List Keyword} {t t' : TA} (h : PK X es t) (i : ∀ σ H Q, t' σ H Q → t σ H Q) : PK X es t' := ⟨fun pos pins s σ H Q I w => h.run pos pins s σ H Q I (i _ _ _ w)⟩
theorem PS.imp {st : Stmt} {t t' : TS} (h : PS X st t) (i : ∀ D σ H, t' D σ H → t D σ H) : PS X st t' := ⟨fun pins s σ H D I w => h.run pins s σ H D I (i _ _ _ w)⟩
theorem PSs.imp {st : List Stmt} {t t' : TS} (h : PSs X st t) (i : ∀ D σ H, t' D σ H → t D σ H) : PSs X st t' := ⟨fun pins s σ H D I w => h.run pins s σ H D I (i _ _ _ w)⟩
end
end Dz

set_option Elab.async false
set_option linter.all false
set_option maxRecDepth 100000
set_option maxHeartbeats 4000000
/-! Dz2: rules over data: expressions, tests, comparisons, displays, subscripts. -/
namespace Dz
open PySem L2
section
variable {K : PySem.W.Frag} {R : Hp} {μ μ' : Mh} {H H' : Hp} {σ : St} {ρ : Rho} {P : DV → Mh → Prop} {Q : VK} {d : DV} {v : V} {p : Addr}
theorem Nxt.val (k : Nxt K R μ H P Q) (o : Ok K R μ H) (h : P d μ) (i : Is K (hid R μ H) v d) : Q v H := k d μ v H h o (Same.refl _) i
theorem hid_new {o : HO} (k : Ok K R μ H) (h : H p = none) : hid R μ (upd H p o) p = some o := by rw [k.hidNew h, upd_same]
theorem isLst {xs : List V} {ds : List DV} (k : Ok K R μ H) (h : H p = none) (r : Iss K (hid R μ H) xs ds) : Is K (hid R μ (upd H p (.lst xs))) (.ref p) (.lst ds) :=
  .lst (hid_new k h) (r.mono (k.sameNew h))
theorem isTup {xs : List V} {ds : List DV} (k : Ok K R μ H) (h : H p = none) (r : Iss K (hid R μ H) xs ds) : Is K (hid R μ (upd H p (.tup xs))) (.ref p) (.tup ds) :=
  .tup (SqT.of (hid_new k h)) (r.mono (k.sameNew h))
theorem Nxt.lst {xs : List V} {ds : List DV} (k : Nxt K R μ H P Q) (o : Ok K R μ H) (h : P (.lst ds) μ) (r : Iss K (hid R μ H) xs ds) (n : H p = none) : Q (.ref p) (upd H p (.lst xs)) :=
  k _ μ _ _ h (o.new n) (o.sameNew n) (isLst o n r)
theorem Nxt.tup {xs : List V} {ds : List DV} (k : Nxt K R μ H P Q) (o : Ok K R μ H) (h : P (.tup ds) μ) (r : Iss K (hid R μ H) xs ds) (n : H p = none) : Q (.ref p) (upd H p (.tup xs)) :=
  k _ μ _ _ h (o.new n) (o.sameNew n) (isTup o n r)
end

/-! ### names and constants -/
def wVar (i : Nat) : WE := fun ρ μ P => match ρ[i]? with | some (some d) => P d μ | _ => False
def wC (d : DV) : WE := fun _ μ P => P d μ
section
variable {X : Cx} {e a b : Expr} {pos : Pos} {w wa wb wc : WE}
theorem d_of_var {i : Nat} (h : PE X e (tVar i)) : PE X e (tD X.K (wVar i)) := PE.imp h fun σ H Q ⟨R, ρ, μ, P, a, w, k⟩ => by
  unfold wVar at w
  split at w
  · rename_i d e
    obtain ⟨v, h1, h2⟩ := a.sl.at_ i d e
    exact ⟨v, h1, k.val a.ok w h2⟩
  · exact w.elim
theorem d_of_c {v : V} {d : DV} (h : PE X e (tC v)) (i : ∀ H, Is X.K H v d) : PE X e (tD X.K (wC d)) := PE.imp h fun σ H Q ⟨R, ρ, μ, P, a, w, k⟩ => k.val a.ok w (i _)
theorem d_var (i : Nat) {x : Str} (hN : X.N[i]? = some x := by rfl) (hv : Vis X.env.scope x := by first | exact Or.inl rfl | exact Or.inr (Or.inl rfl) | exact Or.inr (Or.inr rfl)) (hd : (x == ("__debug__" : Str)) = false := by decide)
    (hcd : (x == ("__classdict__" : Str)) = false := by decide) : PE X (.Name x pos) (tD X.K (wVar i)) := d_of_var (pv i hN hv hd hcd)
theorem d_int {i : Int} {j} : PE X (.Constant (.int i) j pos) (tD X.K (wC (.int i))) := d_of_c pe_int fun _ => .int i
theorem d_bl {b : Bool} {j} : PE X (.Constant (.bool b) j pos) (tD X.K (wC (.bool b))) := d_of_c pe_bl fun _ => .bool b
theorem d_non {j} : PE X (.Constant .none j pos) (tD X.K (wC .none)) := d_of_c pe_non fun _ => .none
theorem d_str {x : Str} {j} : PE X (.Constant (.str x) j pos) (tD X.K (wC (.str x))) := d_of_c pe_str fun _ => .str x
/-- a constant of the module -/
theorem d_glob {x : Str} {v : V} {d : DV} (hg : Gl X x) (hm : ∃ u, X.mg x = some u ∧ RelV v u) (i : ∀ H, Is X.K H v d) (hd : (x == ("__debug__" : Str)) = false := by decide) : PE X (.Name x pos) (tD X.K (wC d)) := by
  obtain ⟨u, hu, r⟩ := hm
  exact d_of_c (pe_glob hg hu r hd) i

/-! ### two-place operations by values -/
abbrev W2 := DV → DV → Mh → (DV → Mh → Prop) → Prop
abbrev W1 := DV → Mh → (DV → Mh → Prop) → Prop
def R2D (K : PySem.W.Frag) (r : R2) (w : W2) : Prop := ∀ R μ H x y dx dy P Q, Ok K R μ H → Is K (hid R μ H) x dx → Is K (hid R μ H) y dy → w dx dy μ P → Nxt K R μ H P Q → r x y H Q
def R1D (K : PySem.W.Frag) (r : V → Hp → VK → Prop) (w : W1) : Prop := ∀ R μ H x dx P Q, Ok K R μ H → Is K (hid R μ H) x dx → w dx μ P → Nxt K R μ H P Q → r x H Q
def wBin (w2 : W2) (wa wb : WE) : WE := fun ρ μ P => wa ρ μ fun x μ1 => wb ρ μ1 fun y μ2 => w2 x y μ2 P
def wUn (w1 : W1) (wa : WE) : WE := fun ρ μ P => wa ρ μ fun x μ1 => w1 x μ1 P
theorem bin_imp {K : PySem.W.Frag} {r : R2} {w2 : W2} (hr : R2D K r w2) : ∀ σ H Q, tD K (wBin w2 wa wb) σ H Q → tOp r (tD K wa) (tD K wb) σ H Q := fun σ H Q ⟨R, ρ, μ, P, a, w, k⟩ =>
  ⟨R, ρ, μ, _, a, w, fun x μ1 v H1 p1 o1 s1 i1 => ⟨R, ρ, μ1, _, a.step o1 s1, p1, fun y μ2 u H2 p2 o2 s2 i2 => hr R μ2 H2 v u x y P Q o2 (i1.mono s2) i2 p2 (k.step (s1.trans s2))⟩⟩
theorem d_op {op : Operator} {r : R2} {w2 : W2} (ho : OpR X (binaryOp op) r) (hr : R2D X.K r w2) (ha : PE X a (tD X.K wa)) (hb : PE X b (tD X.K wb)) : PE X (.BinOp a op b pos) (tD X.K (wBin w2 wa wb)) :=
  PE.imp (pe_op ho ha hb) (bin_imp hr)
theorem d_un {op : UnaryOp} {r : V → Hp → VK → Prop} {w1 : W1} (ho : UnR X (unaryOp op) r) (hr : R1D X.K r w1) (ha : PE X a (tD X.K wa)) : PE X (.UnaryOp op a pos) (tD X.K (wUn w1 wa)) :=
  PE.imp (pe_un ho ha) fun σ H Q ⟨R, ρ, μ, P, a, w, k⟩ => ⟨R, ρ, μ, _, a, w, fun x μ1 v H1 p1 o1 s1 i1 => hr R μ1 H1 v x P Q o1 i1 p1 (k.step s1)⟩
theorem d_cmp {op : CmpOp} {r : R2} {w2 : W2} (ho : OpR X (compareOp op) r) (hr : R2D X.K r w2) (ha : PE X a (tD X.K wa)) (hb : PE X b (tD X.K wb)) (hm : behindInMarks op b = false) : PE X (.Compare a [op] [b] pos) (tD X.K (wBin w2 wa wb)) :=
  PE.imp (pe_cmpR ho ha hb hm) (bin_imp hr)
/-- a reading of a True or False as a test -/
def wTest (w : WE) : WT := fun ρ μ P => w ρ μ fun d μ1 => match d with | .bool b => P b μ1 | _ => False
theorem test_imp {K : PySem.W.Frag} {t : TE} {w : WE} (h : ∀ σ H Q, tD K w σ H Q → t σ H Q) : ∀ σ H Q, tDT K (wTest w) σ H Q → tTest t σ H Q := fun σ H Q ⟨R, ρ, μ, P, a, w, k⟩ =>
  h σ H _ ⟨R, ρ, μ, _, a, w, fun x μ1 v H1 p1 o1 s1 i1 => by
    cases i1 with
    | bool b => exact ⟨b, rfl, k b μ1 H1 p1 o1 s1⟩
    | _ => exact (show False from p1).elim⟩
theorem dt_cmp {op : CmpOp} {r : R2} {w2 : W2} (ho : OpR X (compareOp op) r) (hr : R2D X.K r w2) (ha : PE X a (tD X.K wa)) (hb : PE X b (tD X.K wb)) (hm : behindInMarks op b = false) : PT X (.Compare a [op] [b] pos) (tDT X.K (wTest (wBin w2 wa wb))) :=
  PT.imp (pt_cmpR ho ha hb hm) (test_imp (bin_imp hr))
def wChain (w2 w2' : W2) (wa wb wc : WE) : WE := fun ρ μ P => wa ρ μ fun x μ1 => wb ρ μ1 fun y μ2 => w2 x y μ2 fun z μ3 => match z with
  | .bool true => wc ρ μ3 fun u μ4 => w2' y u μ4 P
  | .bool false => P (.bool false) μ3
  | _ => False
theorem chain_imp {K : PySem.W.Frag} {r r' : R2} {w2 w2' : W2} (hr : R2D K r w2) (hr' : R2D K r' w2') : ∀ σ H Q, tD K (wChain w2 w2' wa wb wc) σ H Q → tChain r r' (tD K wa) (tD K wb) (tD K wc) σ H Q := fun σ H Q ⟨R, ρ, μ, P, a, w, k⟩ => by
  refine ⟨R, ρ, μ, _, a, w, fun x μ1 v H1 p1 o1 s1 i1 => ⟨R, ρ, μ1, _, a.step o1 s1, p1, fun y μ2 u H2 p2 o2 s2 i2 => hr R μ2 H2 v u x y _ _ o2 (i1.mono s2) i2 p2 fun z μ3 z' H3 p3 o3 s3 i3 => ?_⟩⟩
  cases i3 with
  | bool b =>
    refine ⟨b, rfl, ?_⟩
    cases b with
    | true =>
      refine iteT ⟨R, ρ, μ3, _, a.step o3 ((s1.trans s2).trans s3), p3, fun u4 μ4 v4 H4 p4 o4 s4 i4 => hr' R μ4 H4 u v4 y u4 P Q o4 (i2.mono (s3.trans s4)) i4 p4 (k.step (((s1.trans s2).trans s3).trans s4))⟩
    | false => exact iteF (k _ μ3 _ H3 p3 o3 ((s1.trans s2).trans s3) (.bool false))
  | _ => exact (show False from p3).elim
theorem d_chain {c : Expr} {op op' : CmpOp} {r r' : R2} {w2 w2' : W2} (ho : OpR X (compareOp op) r) (hr : R2D X.K r w2) (ho' : OpR X (compareOp op') r') (hr' : R2D X.K r' w2') (ha : PE X a (tD X.K wa)) (hb : PE X b (tD X.K wb)) (hc : PE X c (tD X.K wc))
    (hm : lastMarks [op, op'] [b, c] = false := by with_unfolding_all rfl) : PE X (.Compare a [op, op'] [b, c] pos) (tD X.K (wChain w2 w2' wa wb wc)) := PE.imp (pe_chain ho ho' ha hb hc hm) (chain_imp hr hr')
theorem dt_chain {c : Expr} {op op' : CmpOp} {r r' : R2} {w2 w2' : W2} (ho : OpR X (compareOp op) r) (hr : R2D X.K r w2) (ho' : OpR X (compareOp op') r') (hr' : R2D X.K r' w2') (ha : PE X a (tD X.K wa)) (hb : PE X b (tD X.K wb)) (hc : PE X c (tD X.K wc))
    (hm : lastMarks [op, op'] [b, c] = false := by with_unfolding_all rfl) : PT X (.Compare a [op, op'] [b, c] pos) (tDT X.K (wTest (wChain w2 w2' wa wb wc))) := PT.imp (pt_chain ho ho' ha hb hc hm) (test_imp (chain_imp hr hr'))

/-! ### not, and, or, if .. else -/
theorem dt_val (h : PE X e (tD X.K w)) (he : ∀ whole, isTrue e X.env whole = (do let v ← whole; standAt e.pos; holding [v] (truthy v)) := by intro _; rfl) : PT X e (tDT X.K (wTest w)) :=
  PT.imp (pt_val h he) fun σ H Q ⟨R, ρ, μ, P, a, w, k⟩ => ⟨R, ρ, μ, _, a, w, fun x μ1 v H1 p1 o1 s1 i1 => by
    cases i1 with
    | bool b => exact ⟨b, rfl, k b μ1 H1 p1 o1 s1⟩
    | _ => exact (show False from p1).elim⟩
/-- truth of any value -/
def truD : DV → Mh → (Bool → Prop) → Prop
  | .none, _, P => P false
  | .bool b, _, P => P b
  | .int i, _, P => P (i != 0)
  | .str x, _, P => x.length ≤ sizeLine ∧ P ((x.length : Int) != 0)
  | .lst ds, _, P => P (!ds.isEmpty)
  | .tup ds, _, P => P (!ds.isEmpty)
  | .dct ds, _, P => P (!ds.isEmpty)
  | .obj a, μ, P => match μ a with
    | some (.lst ds) => P (!ds.isEmpty)
    | some (.dct ds) => P (!ds.isEmpty)
    | _ => False
  | .fix ds, _, P => P (!ds.isEmpty)
theorem Iss.isEmpty {K : PySem.W.Frag} {H : Hp} {vs : List V} {ds : List DV} (r : Iss K H vs ds) : vs.isEmpty = ds.isEmpty := by cases r <;> rfl
def wTru (w : WE) : WT := fun ρ μ P => w ρ μ fun d μ1 => truD d μ1 fun b => P b μ1
theorem map_isEmpty {α β γ : Type} {l : List (α × β)} {m : List (α × γ)} (h : l.map (·.1) = m.map (·.1)) : l.isEmpty = m.isEmpty := by
  cases l <;> cases m <;> first | rfl | cases h
theorem dt_tru (h : PE X e (tD X.K w)) (he : ∀ whole, isTrue e X.env whole = (do let v ← whole; standAt e.pos; holding [v] (truthy v)) := by intro _; rfl) : PT X e (tDT X.K (wTru w)) :=
  PT.imp (pt_truth h he) fun σ H Q ⟨R, ρ, μ, P, a, w, k⟩ => ⟨R, ρ, μ, _, a, w, fun x μ1 v H1 p1 o1 s1 i1 => by
    cases i1 with
    | none => exact ⟨false, rfl, k _ μ1 H1 p1 o1 s1⟩
    | bool b => exact ⟨b, rfl, k _ μ1 H1 p1 o1 s1⟩
    | int i => exact ⟨_, rfl, k _ μ1 H1 p1 o1 s1⟩
    | str x => exact ⟨_, ⟨p1.1, rfl⟩, k _ μ1 H1 p1.2 o1 s1⟩
    | lst hl r => exact ⟨_, .inl ⟨_, SqL.of (hid_le _ _ hl), rfl⟩, k _ μ1 H1 (by rw [r.isEmpty]; exact p1) o1 s1⟩
    | fix hl r => exact ⟨_, .inl ⟨_, hid_le.seq hl, rfl⟩, k _ μ1 H1 (by rw [r.isEmpty]; exact p1) o1 s1⟩
    | tup hl r => exact ⟨_, .inr (.inl ⟨_, Same.seqT hid_le hl, rfl⟩), k _ μ1 H1 (by rw [r.isEmpty]; exact p1) o1 s1⟩
    | dct hl q r => exact ⟨_, .inr (.inr ⟨_, hid_le _ _ hl, rfl⟩), k _ μ1 H1 (by rw [map_isEmpty q]; exact p1) o1 s1⟩
    | obj a =>
      have p2 : (match μ1 a with | some (.lst ds) => P (!ds.isEmpty) μ1 | some (.dct ds) => P (!ds.isEmpty) μ1 | _ => False) := p1
      split at p2
      · rename_i ds e
        obtain ⟨xs, h1, r⟩ := o1.ob a _ e
        exact ⟨_, .inl ⟨_, SqL.of h1, rfl⟩, k _ μ1 H1 (by rw [r.isEmpty]; exact p2) o1 s1⟩
      · rename_i ds e
        obtain ⟨xs, h1, q, r⟩ := o1.ob a _ e
        exact ⟨_, .inr (.inr ⟨_, h1, rfl⟩), k _ μ1 H1 (by rw [map_isEmpty q]; exact p2) o1 s1⟩
      · exact p2.elim⟩
def wNotT (w : WT) : WT := fun ρ μ P => w ρ μ fun b μ1 => P (!b) μ1
def wAndT (wa wb : WT) : WT := fun ρ μ P => wa ρ μ fun b μ1 => match b with | true => wb ρ μ1 P | false => P false μ1
def wOrT (wa wb : WT) : WT := fun ρ μ P => wa ρ μ fun b μ1 => match b with | true => P true μ1 | false => wb ρ μ1 P
variable {ta tb : WT}
theorem dt_not (h : PT X a (tDT X.K ta)) : PT X (.UnaryOp .Not a pos) (tDT X.K (wNotT ta)) :=
  PT.imp (pt_not h) fun σ H Q ⟨R, ρ, μ, P, a, w, k⟩ => ⟨R, ρ, μ, _, a, w, fun b μ1 H1 p1 o1 s1 => k _ μ1 H1 p1 o1 s1⟩
theorem dw_and1 (h : PT X a (tDT X.K ta)) : PW X (.BoolOp .And [a] pos) (tDT X.K ta) := pw_and1 h
theorem dw_or1 (h : PT X a (tDT X.K ta)) : PW X (.BoolOp .Or [a] pos) (tDT X.K ta) := pw_or1 h
theorem dw_and {rest : List Expr} (h : PT X a (tDT X.K ta)) (h2 : PW X (.BoolOp .And (b :: rest) pos) (tDT X.K tb)) : PW X (.BoolOp .And (a :: b :: rest) pos) (tDT X.K (wAndT ta tb)) :=
  PW.imp (pw_and h h2) fun σ H Q ⟨R, ρ, μ, P, a, w, k⟩ => ⟨R, ρ, μ, _, a, w, fun c μ1 H1 p1 o1 s1 => by
    cases c with
    | true => exact iteT ⟨R, ρ, μ1, P, a.step o1 s1, p1, k.step s1⟩
    | false => exact iteF (k _ μ1 H1 p1 o1 s1)⟩
theorem dw_or {rest : List Expr} (h : PT X a (tDT X.K ta)) (h2 : PW X (.BoolOp .Or (b :: rest) pos) (tDT X.K tb)) : PW X (.BoolOp .Or (a :: b :: rest) pos) (tDT X.K (wOrT ta tb)) :=
  PW.imp (pw_or h h2) fun σ H Q ⟨R, ρ, μ, P, a, w, k⟩ => ⟨R, ρ, μ, _, a, w, fun c μ1 H1 p1 o1 s1 => by
    cases c with
    | true => exact iteT (k _ μ1 H1 p1 o1 s1)
    | false => exact iteF ⟨R, ρ, μ1, P, a.step o1 s1, p1, k.step s1⟩⟩
def wAndV (wa wb : WE) : WE := fun ρ μ P => wa ρ μ fun d μ1 => match d with | .bool true => wb ρ μ1 P | .bool false => P (.bool false) μ1 | _ => False
def wOrV (wa wb : WE) : WE := fun ρ μ P => wa ρ μ fun d μ1 => match d with | .bool true => P (.bool true) μ1 | .bool false => wb ρ μ1 P | _ => False
def wNotV (wa : WE) : WE := fun ρ μ P => wa ρ μ fun d μ1 => match d with | .bool b => P (.bool (!b)) μ1 | _ => False
def wIf (t : WT) (wa wb : WE) : WE := fun ρ μ P => t ρ μ fun b μ1 => match b with | true => wa ρ μ1 P | false => wb ρ μ1 P
theorem d_one {op} (h : PE X a (tD X.K wa)) : PE X (.BoolOp op [a] pos) (tD X.K wa) := pe_one h
theorem d_and {rest : List Expr} (h : PE X a (tD X.K wa)) (h2 : PE X (.BoolOp .And (b :: rest) pos) (tD X.K wb)) : PE X (.BoolOp .And (a :: b :: rest) pos) (tD X.K (wAndV wa wb)) :=
  PE.imp (pe_and h h2) fun σ H Q ⟨R, ρ, μ, P, a, w, k⟩ => ⟨R, ρ, μ, _, a, w, fun x μ1 v H1 p1 o1 s1 i1 => by
    cases i1 with
    | bool c =>
      refine ⟨c, rfl, ?_⟩
      cases c with
      | true => exact iteT ⟨R, ρ, μ1, P, a.step o1 s1, p1, k.step s1⟩
      | false => exact iteF (k _ μ1 _ H1 p1 o1 s1 (.bool false))
    | _ => exact (show False from p1).elim⟩
theorem d_or {rest : List Expr} (h : PE X a (tD X.K wa)) (h2 : PE X (.BoolOp .Or (b :: rest) pos) (tD X.K wb)) : PE X (.BoolOp .Or (a :: b :: rest) pos) (tD X.K (wOrV wa wb)) :=
  PE.imp (pe_or h h2) fun σ H Q ⟨R, ρ, μ, P, a, w, k⟩ => ⟨R, ρ, μ, _, a, w, fun x μ1 v H1 p1 o1 s1 i1 => by
    cases i1 with
    | bool c =>
      refine ⟨c, rfl, ?_⟩
      cases c with
      | true => exact iteT (k _ μ1 _ H1 p1 o1 s1 (.bool true))
      | false => exact iteF ⟨R, ρ, μ1, P, a.step o1 s1, p1, k.step s1⟩
    | _ => exact (show False from p1).elim⟩
theorem d_not (h : PE X a (tD X.K wa)) : PE X (.UnaryOp .Not a pos) (tD X.K (wNotV wa)) :=
  PE.imp (pe_not h) fun σ H Q ⟨R, ρ, μ, P, a, w, k⟩ => ⟨R, ρ, μ, _, a, w, fun x μ1 v H1 p1 o1 s1 i1 => by
    cases i1 with
    | bool c => exact ⟨c, rfl, k _ μ1 _ H1 p1 o1 s1 (.bool _)⟩
    | _ => exact (show False from p1).elim⟩
theorem d_if {c : Expr} (hc : PT X c (tDT X.K ta)) (ha : PE X a (tD X.K wa)) (hb : PE X b (tD X.K wb)) : PE X (.IfExp c a b pos) (tD X.K (wIf ta wa wb)) :=
  PE.imp (pe_ifExp hc ha hb) fun σ H Q ⟨R, ρ, μ, P, a, w, k⟩ => ⟨R, ρ, μ, _, a, w, fun c μ1 H1 p1 o1 s1 => by
    cases c with
    | true => exact iteT ⟨R, ρ, μ1, P, a.step o1 s1, p1, k.step s1⟩
    | false => exact iteF ⟨R, ρ, μ1, P, a.step o1 s1, p1, k.step s1⟩⟩

/-! ### argument lists, displays -/
def wNil : WA := fun _ μ P => P [] μ
def wCons (wa : WE) (wr : WA) : WA := fun ρ μ P => wa ρ μ fun x μ1 => wr ρ μ1 fun xs μ2 => P (x :: xs) μ2
variable {es : List Expr} {wr : WA}
theorem cons_imp {K : PySem.W.Frag} : ∀ σ H Q, tDA K (wCons wa wr) σ H Q → tCons (tD K wa) (tDA K wr) σ H Q := fun σ H Q ⟨R, ρ, μ, P, a, w, k⟩ =>
  ⟨R, ρ, μ, _, a, w, fun x μ1 v H1 p1 o1 s1 i1 => ⟨R, ρ, μ1, _, a.step o1 s1, p1, fun xs μ2 vs H2 p2 o2 s2 i2 => k _ μ2 _ H2 p2 o2 (s1.trans s2) (.cons (i1.mono s2) i2)⟩⟩
theorem nil_imp {K : PySem.W.Frag} : ∀ σ H Q, tDA K wNil σ H Q → tNil σ H Q := fun σ H Q ⟨R, ρ, μ, P, a, w, k⟩ => k [] μ [] H w a.ok (Same.refl _) .nil
theorem da_nil : PA X [] (tDA X.K wNil) := PA.imp pa_nil nil_imp
theorem da_cons (ha : PE X e (tD X.K wa)) (hr : PA X es (tDA X.K wr)) (hs : starEach (e :: es) X.env = (false, eval e X.env) :: starEach es X.env := by rfl) : PA X (e :: es) (tDA X.K (wCons wa wr)) :=
  PA.imp (pa_cons ha hr hs) cons_imp
theorem dk_nil : PK X [] (tDA X.K wNil) := PK.imp pk_nil nil_imp
theorem dk_cons {kws : List Keyword} {nm : Option Str} {kpos : Pos} (ha : PE X e (tD X.K wa)) (hr : PK X kws (tDA X.K wr)) : PK X (⟨nm, e, kpos⟩ :: kws) (tDA X.K (wCons wa wr)) := PK.imp (pk_cons ha hr) cons_imp
def wTup (wa : WA) : WE := fun ρ μ P => wa ρ μ fun ds μ1 => ds.length ≤ sizeLine ∧ P (.tup ds) μ1
def wLst (wa : WA) : WE := fun ρ μ P => wa ρ μ fun ds μ1 => ds.length ≤ sizeLine ∧ P (.lst ds) μ1
theorem d_tup {x1} (h : PA X es (tDA X.K wr)) : PE X (.Tuple es x1 pos) (tD X.K (wTup wr)) :=
  PE.imp (pe_tup h) fun σ H Q ⟨R, ρ, μ, P, a, w, k⟩ => ⟨R, ρ, μ, _, a, w, fun ds μ1 vs H1 p1 o1 s1 i1 => ⟨by rw [i1.length]; exact p1.1, fun p n => (k.step s1).tup o1 p1.2 i1 n⟩⟩
theorem d_lst (h : PA X es (tDA X.K wr)) : PE X (.List es pos) (tD X.K (wLst wr)) :=
  PE.imp (pe_lst h) fun σ H Q ⟨R, ρ, μ, P, a, w, k⟩ => ⟨R, ρ, μ, _, a, w, fun ds μ1 vs H1 p1 o1 s1 i1 => ⟨by rw [i1.length]; exact p1.1, fun p n => (k.step s1).lst o1 p1.2 i1 n⟩⟩
/-- a list that will change -/
def wLstM (wa : WA) : WE := fun ρ μ P => wa ρ μ fun ds μ1 => ds.length ≤ sizeLine ∧ ∀ p, μ1 p = none → P (.obj p) (updM μ1 p (.lst ds))
theorem d_lstM (h : PA X es (tDA X.K wr)) : PE X (.List es pos) (tD X.K (wLstM wr)) :=
  PE.imp (pe_lst h) fun σ H Q ⟨R, ρ, μ, P, a, w, k⟩ => ⟨R, ρ, μ, _, a, w, fun ds μ1 vs H1 p1 o1 s1 i1 => ⟨by rw [i1.length]; exact p1.1, fun p n => by
    have fm := o1.freeM n
    have hs : Same (hid R μ1 H1) (hid R (updM μ1 p (.lst ds)) (upd H1 p (.lst vs))) := fun b u e => by
      obtain ⟨e1, e2, e3⟩ := hid_some e
      have ne := ne_of_none e3 n
      rw [hid_at e1 (by rw [updM_ne ne]; exact e2), upd_ne ne]
      exact e3
    obtain ⟨o2, s2⟩ := o1.newM (o := .lst vs) (m := .lst ds) n ⟨vs, upd_same, i1.mono hs⟩ (by intro z; cases z)
    exact (k.step s1) _ _ _ _ (p1.2 p fm) o2 s2 (.obj p)⟩⟩
end
end Dz

set_option Elab.async false
set_option linter.all false
set_option maxRecDepth 100000
set_option maxHeartbeats 4000000
/-! Dz3: operators and comparisons of data, plain data as PyData, subscripts and slices. -/
namespace Dz
open PySem L2

/-! ### arithmetic -/
def wAdd : W2
  | .int i, .int j, μ, P => P (.int (i + j)) μ
  | .str s, .str t, μ, P => s.length + t.length ≤ sizeLine ∧ P (.str (s ++ t)) μ
  | .lst xs, .lst ys, μ, P => xs.length + ys.length ≤ sizeLine ∧ P (.lst (xs ++ ys)) μ
  | .tup xs, .tup ys, μ, P => xs.length + ys.length ≤ sizeLine ∧ P (.tup (xs ++ ys)) μ
  | _, _, _, _ => False
def wSub : W2
  | .int i, .int j, μ, P => P (.int (i - j)) μ
  | _, _, _, _ => False
def strRep (x : Str) (n : Nat) : Str := ⟨(List.replicate n x.cps).foldl (· ++ ·) #[]⟩
def wMul : W2
  | .int i, .int j, μ, P => CMul i j ∧ P (.int (i * j)) μ
  | .lst xs, .int k, μ, P => 0 ≤ k ∧ k < 2 ^ 63 ∧ xs.length * k.toNat ≤ sizeLine ∧ P (.lst (List.replicate k.toNat xs).flatten) μ
  | .str x, .int k, μ, P => 2 ≤ k ∧ 0 < x.length ∧ x.length * k.toNat ≤ sizeLine ∧ P (.str (strRep x k.toNat)) μ
  | _, _, _, _ => False
def wDiv : W2
  | .int i, .int j, μ, P => CDivW i j ∧ P (.int (i / j)) μ
  | _, _, _, _ => False
def wMod : W2
  | .int i, .int j, μ, P => 0 < j ∧ P (.int (i % j)) μ
  | _, _, _, _ => False
def wPow : W2
  | .int i, .int j, μ, P => CPow i j ∧ P (.int (i ^ j.toNat)) μ
  | _, _, _, _ => False
def wNeg : W1
  | .int i, μ, P => P (.int (-i)) μ
  | _, _, _ => False
section
variable {K : PySem.W.Frag} {X : Cx}
def rAddD (K : PySem.W.Frag) : R2 := fun x y H Q => rI0 (fun i j => .int (i + j)) x y H Q ∨ (∃ i j, x = .str i ∧ y = .str j ∧ i.length + j.length ≤ sizeLine ∧ Q (.str (i ++ j)) H) ∨ rCat x y H Q ∨ rCatA K x y H Q
theorem op_addD : OpR X (binaryOp .Add) (rAddD X.K) := op_add.or (op_add_str.or (op_cat.or op_catA))
theorem add_rd : R2D K (rAddD K) wAdd := by
  intro R μ H x y dx dy P Q ok ix iy w k
  cases ix with
  | int i => cases iy with
    | int j => exact .inl ⟨i, j, rfl, rfl, k.val ok w (.int _)⟩
    | _ => exact (show False from w).elim
  | str s => cases iy with
    | str t => exact .inr (.inl ⟨s, t, rfl, rfl, w.1, k.val ok w.2 (.str _)⟩)
    | _ => exact (show False from w).elim
  | lst hx rx => cases iy with
    | lst hy ry => exact .inr (.inr (.inl ⟨_, _, _, _, rfl, rfl, hid_le _ _ hx, hid_le _ _ hy, by rw [rx.length, ry.length]; exact w.1, fun p n => k.lst ok w.2 (rx.append ry) n⟩))
    | _ => exact (show False from w).elim
  | @tup a xs ds hx rx => cases iy with
    | @tup b ys es hy ry =>
      refine .inr (.inr (.inr ⟨_, _, _, _, rfl, rfl, Same.seqT hid_le hx, Same.seqT hid_le hy, by rw [rx.length, ry.length]; exact w.1, fun z => ?_, fun _ z => ?_, fun _ _ p n => k.tup ok w.2 (rx.append ry) n⟩))
      · subst z
        cases rx
        exact k.val ok w.2 (.tup hy ry)
      · subst z
        cases ry
        exact k.val ok (by have := w.2; rwa [List.append_nil] at this) (.tup hx rx)
    | _ => exact (show False from w).elim
  | _ => exact (show False from w).elim
theorem sub_rd : R2D K (rI0 fun i j => .int (i - j)) wSub := by
  intro R μ H x y dx dy P Q ok ix iy w k
  cases ix with
  | int i => cases iy with
    | int j => exact ⟨i, j, rfl, rfl, k.val ok w (.int _)⟩
    | _ => exact (show False from w).elim
  | _ => exact (show False from w).elim
theorem div_rd : R2D K (rI CDivW fun i j => .int (i / j)) wDiv := by
  intro R μ H x y dx dy P Q ok ix iy w k
  cases ix with
  | int i => cases iy with
    | int j => exact ⟨i, j, rfl, rfl, w.1, k.val ok w.2 (.int _)⟩
    | _ => exact (show False from w).elim
  | _ => exact (show False from w).elim
theorem mod_rd : R2D K (rI (fun _ j => 0 < j) fun i j => .int (i % j)) wMod := by
  intro R μ H x y dx dy P Q ok ix iy w k
  cases ix with
  | int i => cases iy with
    | int j => exact ⟨i, j, rfl, rfl, w.1, k.val ok w.2 (.int _)⟩
    | _ => exact (show False from w).elim
  | _ => exact (show False from w).elim
theorem pow_rd : R2D K (rI CPow fun i j => .int (i ^ j.toNat)) wPow := by
  intro R μ H x y dx dy P Q ok ix iy w k
  cases ix with
  | int i => cases iy with
    | int j => exact ⟨i, j, rfl, rfl, w.1, k.val ok w.2 (.int _)⟩
    | _ => exact (show False from w).elim
  | _ => exact (show False from w).elim
theorem neg_rd : R1D K (rU fun i => .int (-i)) wNeg := by
  intro R μ H x dx P Q ok ix w k
  cases ix with
  | int i => exact ⟨i, rfl, k.val ok w (.int _)⟩
  | _ => exact (show False from w).elim
def rRepS : R2 := fun x y H Q => ∃ (z : Str) (k : Int), x = .str z ∧ y = .int k ∧ 2 ≤ k ∧ 0 < z.length ∧ z.length * k.toNat ≤ sizeLine ∧ Q (.str (strRep z k.toNat)) H
theorem op_repS : OpR X (binaryOp .Mult) rRepS := by
  intro pins s σ H x y v u Q I rx ry h
  obtain ⟨z, k, rfl, rfl, h2, h0, hz, q⟩ := h
  obtain ⟨t, rfl⟩ := rx
  obtain ⟨t', rfl⟩ := ry
  have hs : sizeLine = 16777216 := sizeLine_eq
  have hk : k.toNat ≤ z.length * k.toNat := Nat.le_mul_of_pos_left _ h0
  have hzl : z.length ≤ z.length * k.toNat := Nat.le_mul_of_pos_right _ (by omega)
  refine PySem.P.mul_str (by rw [decide_eq_false (by omega), decide_eq_false (by omega)]; rfl) (fun _ _ => ?_) (fun _ _ => ?_) ?_
  · have h3 : (1 : Int) ≤ k := by omega
    have h4 : (z.length : Int) * k ≤ 16777216 := by
      have : ((z.length * k.toNat : Nat) : Int) ≤ ((16777216 : Nat) : Int) := Int.ofNat_le.mpr (by rw [← hs]; exact hz)
      rw [Int.natCast_mul] at this
      rw [Int.toNat_of_nonneg (by omega)] at this
      exact this
    have h5 : (z.length : Int) ≤ (2 ^ 63 - 1) / k := by
      rw [Int.le_ediv_iff_mul_le (by omega)]
      omega
    omega
  · unfold Builtin.Str.tooLong
    simp only [decide_eq_false_iff_not]
    omega
  · rw [if_neg (by omega)]
    have e : (k == 1 || z.length == 0) = false := by
      rw [Bool.or_eq_false_iff]
      exact ⟨beq_eq_false_iff_ne.mpr (by omega), beq_eq_false_iff_ne.mpr (by omega)⟩
    rw [e]
    refine ⟨?_, ⟨.str (strRep z k.toNat), H, I.tok _, ⟨_, rfl⟩, q⟩⟩
    have el : (⟨(List.replicate k.toNat z.cps).foldl (· ++ ·) #[]⟩ : Str).length = z.length * k.toNat := by
      unfold Str.length
      have : ∀ (n : Nat) (acc : Array Nat), ((List.replicate n z.cps).foldl (· ++ ·) acc).size = acc.size + z.cps.size * n := by
        intro n
        induction n with
        | zero => intro acc; simp
        | succ n ih => intro acc; rw [List.replicate_succ, List.foldl_cons, ih, Array.size_append, Nat.mul_succ]; omega
      rw [this]
      simp
    rw [el]
    exact hz
def rMulD : R2 := fun x y H Q => rI CMul (fun i j => .int (i * j)) x y H Q ∨ rRep x y H Q ∨ rRepS x y H Q
theorem op_mulD : OpR X (binaryOp .Mult) rMulD := op_mul.or (op_rep.or op_repS)
theorem mul_rd : R2D K rMulD wMul := by
  intro R μ H x y dx dy P Q ok ix iy w k
  cases ix with
  | int i => cases iy with
    | int j => exact .inl ⟨i, j, rfl, rfl, w.1, k.val ok w.2 (.int _)⟩
    | _ => exact (show False from w).elim
  | str s => cases iy with
    | int j => exact .inr (.inr ⟨s, j, rfl, rfl, w.1, w.2.1, w.2.2.1, k.val ok w.2.2.2 (.str _)⟩)
    | _ => exact (show False from w).elim
  | lst hx rx => cases iy with
    | int j => exact .inr (.inl ⟨_, j, _, rfl, rfl, hid_le _ _ hx, by have := w.1; omega, w.2.1, by rw [rx.length]; exact w.2.2.1, fun p n => k.lst ok w.2.2.2 (rx.replicate _) n⟩)
    | _ => exact (show False from w).elim
  | _ => exact (show False from w).elim
variable {a b : Expr} {wa wb : WE} {pos : Pos}
theorem d_add (ha : PE X a (tD X.K wa)) (hb : PE X b (tD X.K wb)) : PE X (.BinOp a .Add b pos) (tD X.K (wBin wAdd wa wb)) := d_op op_addD add_rd ha hb
theorem d_sub (ha : PE X a (tD X.K wa)) (hb : PE X b (tD X.K wb)) : PE X (.BinOp a .Sub b pos) (tD X.K (wBin wSub wa wb)) := d_op op_sub sub_rd ha hb
theorem d_mul (ha : PE X a (tD X.K wa)) (hb : PE X b (tD X.K wb)) : PE X (.BinOp a .Mult b pos) (tD X.K (wBin wMul wa wb)) := d_op op_mulD mul_rd ha hb
theorem d_div (ha : PE X a (tD X.K wa)) (hb : PE X b (tD X.K wb)) : PE X (.BinOp a .FloorDiv b pos) (tD X.K (wBin wDiv wa wb)) := d_op op_fdivW div_rd ha hb
theorem d_mod (ha : PE X a (tD X.K wa)) (hb : PE X b (tD X.K wb)) : PE X (.BinOp a .Mod b pos) (tD X.K (wBin wMod wa wb)) := d_op op_mod mod_rd ha hb
theorem d_pow (ha : PE X a (tD X.K wa)) (hb : PE X b (tD X.K wb)) : PE X (.BinOp a .Pow b pos) (tD X.K (wBin wPow wa wb)) := d_op op_pow pow_rd ha hb
theorem d_neg (ha : PE X a (tD X.K wa)) : PE X (.UnaryOp .USub a pos) (tD X.K (wUn wNeg wa)) := d_un un_neg neg_rd ha
end

/-! ### order -/
def ltS (s t : Str) : Bool := decide (s.cps.toList < t.cps.toList)
def wLt : W2
  | .int i, .int j, μ, P => P (.bool (decide (i < j))) μ
  | .str s, .str t, μ, P => P (.bool (ltS s t)) μ
  | _, _, _, _ => False
def wLe : W2
  | .int i, .int j, μ, P => P (.bool (decide (i ≤ j))) μ
  | .str s, .str t, μ, P => P (.bool (!ltS t s)) μ
  | _, _, _, _ => False
def wGt : W2
  | .int i, .int j, μ, P => P (.bool (decide (j < i))) μ
  | .str s, .str t, μ, P => P (.bool (ltS t s)) μ
  | _, _, _, _ => False
def wGe : W2
  | .int i, .int j, μ, P => P (.bool (decide (j ≤ i))) μ
  | .str s, .str t, μ, P => P (.bool (!ltS s t)) μ
  | _, _, _, _ => False
section
variable {K : PySem.W.Frag} {X : Cx}
def rOrd (f : Int → Int → Bool) (g : Str → Str → Bool) : R2 := fun x y H Q => rI0 (fun i j => .bl (f i j)) x y H Q ∨ ∃ i j, x = .str i ∧ y = .str j ∧ Q (.bl (g i j)) H
theorem op_ltD : OpR X (compareOp .Lt) (rOrd (fun i j => decide (i < j)) fun s t => decide (s.cps.toList < t.cps.toList)) := op_lt.or op_lt_str
theorem op_leD : OpR X (compareOp .LtE) (rOrd (fun i j => decide (i ≤ j)) fun s t => !decide (t.cps.toList < s.cps.toList)) := op_le.or op_le_str
theorem op_gtD : OpR X (compareOp .Gt) (rOrd (fun i j => decide (j < i)) fun s t => decide (t.cps.toList < s.cps.toList)) := op_gt.or op_gt_str
theorem op_geD : OpR X (compareOp .GtE) (rOrd (fun i j => decide (j ≤ i)) fun s t => !decide (s.cps.toList < t.cps.toList)) := op_ge.or op_ge_str
theorem ord_rd {f : Int → Int → Bool} {g : Str → Str → Bool} {w2 : W2} (h1 : ∀ i j μ P, w2 (.int i) (.int j) μ P → P (.bool (f i j)) μ) (h2 : ∀ i j μ P, w2 (.str i) (.str j) μ P → P (.bool (g i j)) μ)
    (h3 : ∀ x y μ P, (∀ i j, ¬ (x = .int i ∧ y = .int j)) → (∀ i j, ¬ (x = .str i ∧ y = .str j)) → w2 x y μ P → False) : R2D K (rOrd f g) w2 := by
  intro R μ H x y dx dy P Q ok ix iy w k
  cases ix with
  | int i => cases iy with
    | int j => exact .inl ⟨i, j, rfl, rfl, k.val ok (h1 _ _ _ _ w) (.bool _)⟩
    | _ => exact (h3 _ _ _ _ (fun i j h => by cases h.2) (fun i j h => by cases h.1) w).elim
  | str s => cases iy with
    | str t => exact .inr ⟨s, t, rfl, rfl, k.val ok (h2 _ _ _ _ w) (.bool _)⟩
    | _ => exact (h3 _ _ _ _ (fun i j h => by cases h.1) (fun i j h => by cases h.2) w).elim
  | _ => exact (h3 _ _ _ _ (fun i j h => by cases h.1) (fun i j h => by cases h.1) w).elim
theorem lt_rd : R2D K (rOrd (fun i j => decide (i < j)) fun s t => decide (s.cps.toList < t.cps.toList)) wLt := ord_rd (fun _ _ _ _ h => h) (fun _ _ _ _ h => h) fun x y μ P h1 h2 w => by
  unfold wLt at w; split at w
  · exact h1 _ _ ⟨rfl, rfl⟩
  · exact h2 _ _ ⟨rfl, rfl⟩
  · exact w
theorem le_rd : R2D K (rOrd (fun i j => decide (i ≤ j)) fun s t => !decide (t.cps.toList < s.cps.toList)) wLe := ord_rd (fun _ _ _ _ h => h) (fun _ _ _ _ h => h) fun x y μ P h1 h2 w => by
  unfold wLe at w; split at w
  · exact h1 _ _ ⟨rfl, rfl⟩
  · exact h2 _ _ ⟨rfl, rfl⟩
  · exact w
theorem gt_rd : R2D K (rOrd (fun i j => decide (j < i)) fun s t => decide (t.cps.toList < s.cps.toList)) wGt := ord_rd (fun _ _ _ _ h => h) (fun _ _ _ _ h => h) fun x y μ P h1 h2 w => by
  unfold wGt at w; split at w
  · exact h1 _ _ ⟨rfl, rfl⟩
  · exact h2 _ _ ⟨rfl, rfl⟩
  · exact w
theorem ge_rd : R2D K (rOrd (fun i j => decide (j ≤ i)) fun s t => !decide (s.cps.toList < t.cps.toList)) wGe := ord_rd (fun _ _ _ _ h => h) (fun _ _ _ _ h => h) fun x y μ P h1 h2 w => by
  unfold wGe at w; split at w
  · exact h1 _ _ ⟨rfl, rfl⟩
  · exact h2 _ _ ⟨rfl, rfl⟩
  · exact w
end

/-! ### plain data -/
def keyPy : Key → PyData
  | .inl i => .int i
  | .inr x => .str x
mutual
def toPy : DV → PyData
  | .none => .none
  | .bool b => .bool b
  | .int i => .int i
  | .str x => .str x
  | .tup ds => .tuple (toPys ds)
  | .lst ds => .list (toPys ds)
  | .dct kvs => .dict (toPyKv kvs)
  | .obj _ => .none
  | .fix _ => .none
def toPys : List DV → List PyData
  | [] => []
  | d :: ds => toPy d :: toPys ds
def toPyKv : List (Key × DV) → List (PyData × PyData)
  | [] => []
  | (k, d) :: r => (keyPy k, toPy d) :: toPyKv r
end
mutual
/-- without objects -/
def noObj : DV → Bool
  | .tup ds => noObjs ds
  | .lst ds => noObjs ds
  | .dct kvs => noObjKv kvs
  | .obj _ => false
  | .fix _ => false
  | _ => true
def noObjs : List DV → Bool
  | [] => true
  | d :: ds => noObj d && noObjs ds
def noObjKv : List (Key × DV) → Bool
  | [] => true
  | (_, d) :: r => noObj d && noObjKv r
end
theorem toPys_map : ∀ ds : List DV, toPys ds = ds.map toPy
  | [] => rfl
  | d :: ds => by rw [toPys, toPys_map ds]; rfl
mutual
theorem Is.dp {K : PySem.W.Frag} {H : Hp} : ∀ {v : V} {d : DV}, Is K H v d → noObj d = true → (toPy d).canLay0 = true → Dp K H v (toPy d)
  | _, _, .none, _, _ => .non
  | _, _, .bool b, _, _ => .bl b
  | _, _, .int i, _, _ => .int i
  | _, _, .str x, _, _ => .str x
  | _, _, .tup h r, n, c => .tup h (Iss.dp r n c)
  | _, _, .lst h r, n, c => .lst (SqL.of h) (Iss.dp r n c)
  | _, _, .dct _ _ _, _, c => absurd (show false = true from c) Bool.false_ne_true
  | _, _, .obj _, n, _ => absurd (show false = true from n) Bool.false_ne_true
  | _, _, .fix _ _, n, _ => absurd (show false = true from n) Bool.false_ne_true
theorem Iss.dp {K : PySem.W.Frag} {H : Hp} : ∀ {vs : List V} {ds : List DV}, Iss K H vs ds → noObjs ds = true → PyData.canLayAll0 (toPys ds) = true → DpAll K H vs (toPys ds)
  | _, _, .nil, _, _ => .nil
  | _, _, .cons h r, n, c => by
    have n' := (Bool.and_eq_true_iff.mp n)
    have c' := (Bool.and_eq_true_iff.mp c)
    exact .cons (Is.dp h n'.1 c'.1) (Iss.dp r n'.2 c'.2)
end
/-- data that == and in may compare at any depth -/
def shapedD (d : DV) : Bool := noObj d && SeqAt.shaped (toPy d)
theorem Is.dpS {K : PySem.W.Frag} {H : Hp} {v : V} {d : DV} (h : Is K H v d) (s : shapedD d = true) : Dp K H v (toPy d) ∧ SeqAt.shaped (toPy d) = true := by
  have s' := Bool.and_eq_true_iff.mp s
  exact ⟨h.dp s'.1 (SeqAt.canLay_of_shaped s'.2), s'.2⟩
def deepEq (x y : DV) : Bool := PyData.eqv (toPy x) (toPy y)
def wEq : W2
  | .none, .none, μ, P => P (.bool true) μ
  | .none, .int _, μ, P => P (.bool false) μ
  | .none, .str _, μ, P => P (.bool false) μ
  | .none, .bool _, μ, P => P (.bool false) μ
  | .int _, .none, μ, P => P (.bool false) μ
  | .str _, .none, μ, P => P (.bool false) μ
  | .bool _, .none, μ, P => P (.bool false) μ
  | .int i, .int j, μ, P => P (.bool (decide (i = j))) μ
  | .bool i, .bool j, μ, P => P (.bool (decide (i = j))) μ
  | .str i, .str j, μ, P => P (.bool (decide (i = j))) μ
  | .int _, .str _, μ, P => P (.bool false) μ
  | .str _, .int _, μ, P => P (.bool false) μ
  | .bool _, .str _, μ, P => P (.bool false) μ
  | .str _, .bool _, μ, P => P (.bool false) μ
  | .lst xs, .lst ys, μ, P => shapedD (.lst xs) = true ∧ shapedD (.lst ys) = true ∧ P (.bool (deepEq (.lst xs) (.lst ys))) μ
  | .tup xs, .tup ys, μ, P => shapedD (.tup xs) = true ∧ shapedD (.tup ys) = true ∧ P (.bool (deepEq (.tup xs) (.tup ys))) μ
  | _, _, _, _ => False
def notB (w2 : W2) : W2 := fun x y μ P => w2 x y μ fun d μ1 => match d with | .bool b => P (.bool (!b)) μ1 | _ => False
section
variable {K : PySem.W.Frag} {X : Cx}
def rEqA (K : PySem.W.Frag) : R2 := fun x y H Q => rEq x y H Q ∨ rEqD K x y H Q
def rNeA (K : PySem.W.Frag) : R2 := fun x y H Q => rNe x y H Q ∨ rNeD K x y H Q
theorem op_eqA (hu : X.A.units + 64 < cLine) : OpR X (compareOp .Eq) (rEqA X.K) := op_eq.or (op_eqD hu)
theorem op_neA (hu : X.A.units + 64 < cLine) : OpR X (compareOp .NotEq) (rNeA X.K) := op_ne.or (op_neD hu)
theorem Is.up {R : Hp} {μ : Mh} {H : Hp} {v : V} {d : DV} (h : Is K (hid R μ H) v d) : Is K H v d := h.mono hid_le
theorem eq_core {x y : V} {dx dy : DV} {μ : Mh} {H : Hp} {P : DV → Mh → Prop} (ix : Is K H x dx) (iy : Is K H y dy) (w : wEq dx dy μ P) :
    (∃ b, scal x y = true ∧ decide (x = y) = b ∧ P (.bool b) μ) ∨ (∃ d e, Dp K H x d ∧ Dp K H y e ∧ SeqAt.shaped d = true ∧ SeqAt.shaped e = true ∧ P (.bool (PyData.eqv d e)) μ) := by
  cases ix with
  | none => cases iy with
    | none => exact .inl ⟨_, rfl, rfl, w⟩
    | int j => exact .inl ⟨_, rfl, rfl, w⟩
    | bool j => exact .inl ⟨_, rfl, rfl, w⟩
    | str j => exact .inl ⟨_, rfl, rfl, w⟩
    | _ => exact (show False from w).elim
  | int i => cases iy with
    | none => exact .inl ⟨_, rfl, rfl, w⟩
    | int j => exact .inl ⟨_, rfl, dec_int, (by rw [Bool.beq_eq_decide_eq]; exact w)⟩
    | str j => exact .inl ⟨_, rfl, rfl, w⟩
    | _ => exact (show False from w).elim
  | bool i => cases iy with
    | none => exact .inl ⟨_, rfl, rfl, w⟩
    | bool j => exact .inl ⟨_, rfl, dec_bl, (by rw [Bool.beq_eq_decide_eq]; exact w)⟩
    | str j => exact .inl ⟨_, rfl, rfl, w⟩
    | _ => exact (show False from w).elim
  | str i => cases iy with
    | none => exact .inl ⟨_, rfl, rfl, w⟩
    | int j => exact .inl ⟨_, rfl, rfl, w⟩
    | bool j => exact .inl ⟨_, rfl, rfl, w⟩
    | str j => exact .inl ⟨_, rfl, dec_str, (by rw [Bool.beq_eq_decide_eq]; exact w)⟩
    | _ => exact (show False from w).elim
  | lst hx rx => cases iy with
    | lst hy ry =>
      obtain ⟨s1, s2, w⟩ := w
      obtain ⟨p1, q1⟩ := (Is.lst (K := K) hx rx).dpS s1
      obtain ⟨p2, q2⟩ := (Is.lst (K := K) hy ry).dpS s2
      exact .inr ⟨_, _, p1, p2, q1, q2, w⟩
    | _ => exact (show False from w).elim
  | tup hx rx => cases iy with
    | tup hy ry =>
      obtain ⟨s1, s2, w⟩ := w
      obtain ⟨p1, q1⟩ := (Is.tup (K := K) hx rx).dpS s1
      obtain ⟨p2, q2⟩ := (Is.tup (K := K) hy ry).dpS s2
      exact .inr ⟨_, _, p1, p2, q1, q2, w⟩
    | _ => exact (show False from w).elim
  | _ => exact (show False from w).elim
/-- an object as it stands -/
def lookO (a : Addr) : Option MO → DV
  | some (.lst ds) => .lst ds
  | some (.dct kvs) => .dct kvs
  | _ => .obj a
def look (μ : Mh) : DV → DV
  | .obj a => lookO a (μ a)
  | d => d
theorem Is.look {R : Hp} {μ : Mh} {H : Hp} {v : V} {d : DV} (o : Ok K R μ H) (i : Is K (hid R μ H) v d) : Is K H v (Dz.look μ d) := by
  cases i with
  | obj a =>
    show Is K H (.ref a) (lookO a (μ a))
    cases e : μ a with
    | none => exact .obj a
    | some m =>
      cases m with
      | lst ds =>
        obtain ⟨xs, h, r⟩ := o.ob a _ e
        exact .lst h (r.mono hid_le)
      | dct ds =>
        obtain ⟨xs, h, q, r⟩ := o.ob a _ e
        exact .dct h q (r.mono hid_le)
      | _ => exact .obj a
  | none => exact .none
  | bool b => exact .bool b
  | int i => exact .int i
  | str s => exact .str s
  | lst h r => exact (Is.lst h r).mono hid_le
  | tup h r => exact (Is.tup h r).mono hid_le
  | dct h q r => exact (Is.dct h q r).mono hid_le
  | fix h r => exact (Is.fix h r).mono hid_le
def wEqL : W2 := fun x y μ P => wEq (look μ x) (look μ y) μ P
def wNeL : W2 := notB wEqL
theorem eq_rd : R2D K (rEqA K) wEqL := by
  intro R μ H x y dx dy P Q ok ix iy w k
  rcases eq_core (ix.look ok) (iy.look ok) w with ⟨b, h1, h2, h3⟩ | ⟨d, e, p1, p2, q1, q2, h3⟩
  · exact .inl ⟨h1, by rw [h2]; exact k.val ok h3 (.bool b)⟩
  · exact .inr ⟨d, e, p1, p2, q1, q2, k.val ok h3 (.bool _)⟩
theorem ne_rd : R2D K (rNeA K) wNeL := by
  intro R μ H x y dx dy P Q ok ix iy w k
  rcases eq_core (ix.look ok) (iy.look ok) w with ⟨b, h1, h2, h3⟩ | ⟨d, e, p1, p2, q1, q2, h3⟩
  · exact .inl ⟨h1, by rw [h2]; exact k.val ok h3 (.bool _)⟩
  · exact .inr ⟨d, e, p1, p2, q1, q2, k.val ok h3 (.bool _)⟩
/-! is None -/
def isNone : DV → Bool
  | .none => true
  | _ => false
def wIsN : W2 := fun x y μ P => match y with | .none => P (.bool (isNone x)) μ | _ => False
def wNotN : W2 := fun x y μ P => match y with | .none => P (.bool (!isNone x)) μ | _ => False
theorem isNone_of {H : Hp} {v : V} {d : DV} (h : Is K H v d) : decide (v = .non) = isNone d := by cases h <;> rfl
theorem isN_rd : R2D K (fun x y H Q => y = .non ∧ Q (.bl (decide (x = .non))) H) wIsN := by
  intro R μ H x y dx dy P Q ok ix iy w k
  cases iy with
  | none => exact ⟨rfl, by rw [isNone_of ix]; exact k.val ok w (.bool _)⟩
  | _ => exact (show False from w).elim
theorem notN_rd : R2D K (fun x y H Q => y = .non ∧ Q (.bl (!decide (x = .non))) H) wNotN := by
  intro R μ H x y dx dy P Q ok ix iy w k
  cases iy with
  | none => exact ⟨rfl, by rw [isNone_of ix]; exact k.val ok w (.bool _)⟩
  | _ => exact (show False from w).elim
/-! in -/
def flatD : DV → Bool
  | .none | .bool _ | .int _ | .str _ => true
  | _ => false
def eqF : DV → DV → Bool
  | .none, .none => true
  | .bool a, .bool b => a == b
  | .bool a, .int b => (if a then 1 else 0) == b
  | .int a, .bool b => a == (if b then 1 else 0)
  | .int a, .int b => a == b
  | .str a, .str b => a == b
  | _, _ => false
def inF (x : DV) (ds : List DV) : Bool := ds.any fun y => eqF y x
def inDeep (x : DV) (ds : List DV) : Bool := ds.any fun y => PyData.eqv (toPy y) (toPy x)
/-- x in a list or tuple: of flat things, or of data at any depth; a text in a text -/
def wIn : W2 := fun x y μ P => match y with
  | .lst ds => (flatD x = true ∧ ds.all flatD = true ∧ P (.bool (inF x ds)) μ) ∨ (shapedD x = true ∧ shapedD (.lst ds) = true ∧ P (.bool (inDeep x ds)) μ)
  | .tup ds => (flatD x = true ∧ ds.all flatD = true ∧ P (.bool (inF x ds)) μ) ∨ (shapedD x = true ∧ shapedD (.tup ds) = true ∧ P (.bool (inDeep x ds)) μ)
  | .str z => match x with
    | .str s => (∃ c, s = ⟨#[c]⟩ ∧ P (.bool (decide (c ∈ z.cps.toList))) μ) ∨ P (.bool (!(Builtin.Str.occurrences z s 0 z.length 1).isEmpty)) μ
    | _ => False
  | _ => False
def wNotIn : W2 := notB wIn
theorem flat_of {H : Hp} {v : V} {d : DV} (h : Is K H v d) : flatV v = flatD d := by cases h <;> rfl
theorem flats_of {H : Hp} : ∀ {vs : List V} {ds : List DV}, Iss K H vs ds → vs.all flatV = ds.all flatD
  | _, _, .nil => rfl
  | _, _, .cons h r => by rw [List.all_cons, List.all_cons, flat_of h, flats_of r]
theorem eqV_of {H : Hp} {v u : V} {d e : DV} (h : Is K H v d) (h' : Is K H u e) (f : flatD d = true) (f' : flatD e = true) : eqV v u = eqF d e := by
  cases h <;> first | (cases h' <;> first | rfl | exact absurd (show false = true from f') Bool.false_ne_true) | exact absurd (show false = true from f) Bool.false_ne_true
theorem inV_of {H : Hp} {v : V} {d : DV} (h : Is K H v d) (f : flatD d = true) : ∀ {vs : List V} {ds : List DV}, Iss K H vs ds → ds.all flatD = true → inV v vs = inF d ds
  | _, _, .nil, _ => rfl
  | _, _, .cons (v := v1) (vs := vs1) (d := d1) (ds := ds1) h1 r, fs => by
    rw [List.all_cons, Bool.and_eq_true] at fs
    have e := inV_of h f r fs.2
    show (eqV v1 v || inV v vs1) = (eqF d1 d || inF d ds1)
    rw [e, eqV_of h1 h fs.1 f]
def rInTD (K : PySem.W.Frag) : R2 := fun x y H Q => ∃ d ds, Dp K H x d ∧ Dp K H y (.tuple ds) ∧ SeqAt.shaped d = true ∧ SeqAt.shaped (.tuple ds) = true ∧ Q (.bl (ds.any fun z => PyData.eqv z d)) H
def rNotInTD (K : PySem.W.Frag) : R2 := fun x y H Q => ∃ d ds, Dp K H x d ∧ Dp K H y (.tuple ds) ∧ SeqAt.shaped d = true ∧ SeqAt.shaped (.tuple ds) = true ∧ Q (.bl (!ds.any fun z => PyData.eqv z d)) H
theorem room_in_tup {A : Around} {d : PyData} {ds : List PyData} (h : SeqAt.shaped d = true) (hu : A.units + 65 < cLine) : A.units + 1 + min (PyData.depthAll ds) d.depth < cLine := by
  have h1 := SeqAt.depth_of_shaped h
  have h2 : min (PyData.depthAll ds) d.depth ≤ d.depth := Nat.min_le_right _ _
  omega
theorem op_inTD (hu : X.A.units + 65 < cLine) : OpR X (compareOp .In) (rInTD X.K) := by
  intro pins s σ H x y v u Q I rx ry h
  obtain ⟨d, ds, hd, he, sd, se, q⟩ := h
  obtain ⟨as, r1⟩ := Dp.reads I d x v hd rx
  obtain ⟨bs, r2⟩ := Dp.reads I (.tuple ds) y u he ry
  exact SeqAt.in_tuple_reads r2 r1 (SeqAt.canLay_of_shaped se) (SeqAt.canLay_of_shaped sd) (room_in_tup sd hu) ⟨.bl _, H, I, rfl, q⟩
theorem op_notInTD (hu : X.A.units + 65 < cLine) : OpR X (compareOp .NotIn) (rNotInTD X.K) := by
  intro pins s σ H x y v u Q I rx ry h
  obtain ⟨d, ds, hd, he, sd, se, q⟩ := h
  obtain ⟨as, r1⟩ := Dp.reads I d x v hd rx
  obtain ⟨bs, r2⟩ := Dp.reads I (.tuple ds) y u he ry
  exact SeqAt.notIn_tuple_reads r2 r1 (SeqAt.canLay_of_shaped se) (SeqAt.canLay_of_shaped sd) (room_in_tup sd hu) ⟨.bl _, H, I, rfl, q⟩
def rInA (K : PySem.W.Frag) : R2 := fun x y H Q => rIn K false x y H Q ∨ rInD K x y H Q ∨ rInTD K x y H Q ∨ (∃ (c : Nat) (z : Str), x = .str ⟨#[c]⟩ ∧ y = .str z ∧ Q (.bl (decide (c ∈ z.cps.toList))) H) ∨
  (∃ i j, x = .str i ∧ y = .str j ∧ Q (.bl (!(Builtin.Str.occurrences j i 0 j.length 1).isEmpty)) H)
def rNotInA (K : PySem.W.Frag) : R2 := fun x y H Q => rIn K true x y H Q ∨ rNotInD K x y H Q ∨ rNotInTD K x y H Q ∨ (∃ (c : Nat) (z : Str), x = .str ⟨#[c]⟩ ∧ y = .str z ∧ Q (.bl (!decide (c ∈ z.cps.toList))) H) ∨
  (∃ i j, x = .str i ∧ y = .str j ∧ Q (.bl (!(!(Builtin.Str.occurrences j i 0 j.length 1).isEmpty))) H)
theorem op_inA (hu : X.A.units + 65 < cLine) : OpR X (compareOp .In) (rInA X.K) := op_in_seq.or ((op_inD hu).or ((op_inTD hu).or (op_in_sign.or op_in_str)))
theorem op_notInA (hu : X.A.units + 65 < cLine) : OpR X (compareOp .NotIn) (rNotInA X.K) := op_notIn_seq.or ((op_notInD hu).or ((op_notInTD hu).or (op_notIn_sign.or op_notin_str)))
theorem any_toPys (d : PyData) : ∀ ds : List DV, ((toPys ds).any fun z => PyData.eqv z d) = ds.any fun z => PyData.eqv (toPy z) d
  | [] => rfl
  | x :: ds => by rw [toPys, List.any_cons, List.any_cons, any_toPys d ds]
theorem in_rd : R2D K (rInA K) wIn := by
  intro R μ H x y dx dy P Q ok ix iy w k
  cases iy with
  | lst hy ry =>
    rcases w with ⟨f1, f2, w⟩ | ⟨s1, s2, w⟩
    · refine .inl ⟨_, _, rfl, .inl (SqL.of (hid_le _ _ hy)), by rw [flat_of ix]; exact f1, by rw [flats_of ry]; exact f2, ?_⟩
      rw [if_neg Bool.false_ne_true, inV_of ix f1 ry f2]
      exact k.val ok w (.bool _)
    · obtain ⟨p1, q1⟩ := ix.up.dpS s1
      obtain ⟨p2, q2⟩ := (Is.up (K := K) (.lst hy ry)).dpS s2
      exact .inr (.inl ⟨_, _, p1, p2, q1, q2, by rw [any_toPys]; exact k.val ok w (.bool _)⟩)
  | tup hy ry =>
    rcases w with ⟨f1, f2, w⟩ | ⟨s1, s2, w⟩
    · refine .inl ⟨_, _, rfl, .inr (Same.seqT hid_le hy), by rw [flat_of ix]; exact f1, by rw [flats_of ry]; exact f2, ?_⟩
      rw [if_neg Bool.false_ne_true, inV_of ix f1 ry f2]
      exact k.val ok w (.bool _)
    · obtain ⟨p1, q1⟩ := ix.up.dpS s1
      obtain ⟨p2, q2⟩ := (Is.up (K := K) (.tup hy ry)).dpS s2
      exact .inr (.inr (.inl ⟨_, _, p1, p2, q1, q2, by rw [any_toPys]; exact k.val ok w (.bool _)⟩))
  | str z => cases ix with
    | str s =>
      rcases w with ⟨c, rfl, w⟩ | w
      · exact .inr (.inr (.inr (.inl ⟨c, z, rfl, rfl, k.val ok w (.bool _)⟩)))
      · exact .inr (.inr (.inr (.inr ⟨s, z, rfl, rfl, k.val ok w (.bool _)⟩)))
    | _ => exact (show False from w).elim
  | _ => exact (show False from w).elim
theorem notIn_rd : R2D K (rNotInA K) wNotIn := by
  intro R μ H x y dx dy P Q ok ix iy w k
  cases iy with
  | lst hy ry =>
    rcases w with ⟨f1, f2, w⟩ | ⟨s1, s2, w⟩
    · refine .inl ⟨_, _, rfl, .inl (SqL.of (hid_le _ _ hy)), by rw [flat_of ix]; exact f1, by rw [flats_of ry]; exact f2, ?_⟩
      rw [if_pos rfl, inV_of ix f1 ry f2]
      exact k.val ok w (.bool _)
    · obtain ⟨p1, q1⟩ := ix.up.dpS s1
      obtain ⟨p2, q2⟩ := (Is.up (K := K) (.lst hy ry)).dpS s2
      exact .inr (.inl ⟨_, _, p1, p2, q1, q2, by rw [any_toPys]; exact k.val ok w (.bool _)⟩)
  | tup hy ry =>
    rcases w with ⟨f1, f2, w⟩ | ⟨s1, s2, w⟩
    · refine .inl ⟨_, _, rfl, .inr (Same.seqT hid_le hy), by rw [flat_of ix]; exact f1, by rw [flats_of ry]; exact f2, ?_⟩
      rw [if_pos rfl, inV_of ix f1 ry f2]
      exact k.val ok w (.bool _)
    · obtain ⟨p1, q1⟩ := ix.up.dpS s1
      obtain ⟨p2, q2⟩ := (Is.up (K := K) (.tup hy ry)).dpS s2
      exact .inr (.inr (.inl ⟨_, _, p1, p2, q1, q2, by rw [any_toPys]; exact k.val ok w (.bool _)⟩))
  | str z => cases ix with
    | str s =>
      rcases w with ⟨c, rfl, w⟩ | w
      · exact .inr (.inr (.inr (.inl ⟨c, z, rfl, rfl, k.val ok w (.bool _)⟩)))
      · exact .inr (.inr (.inr (.inr ⟨s, z, rfl, rfl, k.val ok w (.bool _)⟩)))
    | _ => exact (show False from w).elim
  | _ => exact (show False from w).elim

/-! ### subscripts, slices -/
def atW {α : Type} (o : Option α) (f : α → Prop) : Prop := match o with | some d => f d | none => False
theorem atW_of {α : Type} {o : Option α} {f : α → Prop} (h : atW o f) : ∃ d, o = some d ∧ f d := by
  cases o with
  | none => exact h.elim
  | some d => exact ⟨d, rfl, h⟩
def wIx : W2
  | .lst ds, .int i, μ, P => atW (atI ds i) fun d => P d μ
  | .tup ds, .int i, μ, P => atW (atI ds i) fun d => P d μ
  | .str z, .int i, μ, P => z.length ≤ sizeLine ∧ atW (atI z.cps.toList i) fun c => P (.str ⟨#[c]⟩) μ
  | _, _, _, _ => False
theorem Iss.atI {H : Hp} {vs : List V} {ds : List DV} {i : Int} {d : DV} (r : Iss K H vs ds) (h : L2.atI ds i = some d) : ∃ v, L2.atI vs i = some v ∧ Is K H v d := by
  unfold L2.atI at h ⊢
  rw [r.length]
  cases e : ixN ds.length i with
  | none => rw [e] at h; cases h
  | some j =>
    rw [e] at h
    exact r.get h
theorem ix_rd : R2D K (rIx K) wIx := by
  intro R μ H x y dx dy P Q ok ix iy w k
  cases ix with
  | lst hx rx => cases iy with
    | int i =>
      obtain ⟨d, e, w⟩ := atW_of w
      obtain ⟨v, h1, h2⟩ := rx.atI e
      exact .inl ⟨_, _, i, v, rfl, rfl, SqL.of (hid_le _ _ hx), h1, k.val ok w h2⟩
    | _ => exact (show False from w).elim
  | tup hx rx => cases iy with
    | int i =>
      obtain ⟨d, e, w⟩ := atW_of w
      obtain ⟨v, h1, h2⟩ := rx.atI e
      exact .inr (.inl ⟨_, _, i, v, rfl, rfl, Same.seqT hid_le hx, h1, k.val ok w h2⟩)
    | _ => exact (show False from w).elim
  | str z => cases iy with
    | int i =>
      obtain ⟨d, e, w'⟩ := atW_of w.2
      exact .inr (.inr ⟨z, i, _, rfl, rfl, w.1, e, k.val ok w' (.str _)⟩)
    | _ => exact (show False from w).elim
  | _ => exact (show False from w).elim
abbrev WO := Rho → Mh → (Option Int → Mh → Prop) → Prop
def NxtO (K : PySem.W.Frag) (R : Hp) (μ : Mh) (H : Hp) (P : Option Int → Mh → Prop) (Q : Option Int → Hp → Prop) : Prop :=
  ∀ b μ' H', P b μ' → Ok K R μ' H' → Same (hid R μ H) (hid R μ' H') → Q b H'
def tDO (K : PySem.W.Frag) (w : WO) : TO := fun σ H Q => ∃ R ρ μ P, At K R σ ρ μ H ∧ w ρ μ P ∧ NxtO K R μ H P Q
def wNoPart : WO := fun _ μ P => P none μ
def wPart (w : WE) : WO := fun ρ μ P => w ρ μ fun d μ1 => match d with | .int i => P (some i) μ1 | _ => False
theorem PO.imp {e : Option Expr} {t t' : TO} (h : PO X e t) (i : ∀ σ H Q, t' σ H Q → t σ H Q) : PO X e t' := ⟨fun pins s σ H Q I w => h.run pins s σ H Q I (i _ _ _ w)⟩
theorem do_none : PO X none (tDO X.K wNoPart) := PO.imp po_none fun σ H Q ⟨R, ρ, μ, P, a, w, k⟩ => k _ μ H w a.ok (Same.refl _)
variable {e a b : Expr} {w wa wb : WE} {lo hi : Option Expr} {wl wh : WO} {pos p2 : Pos}
theorem do_some (h : PE X e (tD X.K w)) : PO X (some e) (tDO X.K (wPart w)) := PO.imp (po_some h) fun σ H Q ⟨R, ρ, μ, P, a, w, k⟩ => ⟨R, ρ, μ, _, a, w, fun d μ1 v H1 p1 o1 s1 i1 => by
  cases i1 with
  | int i => exact ⟨i, rfl, k _ μ1 H1 p1 o1 s1⟩
  | _ => exact (show False from p1).elim⟩
def cutD (ds : List DV) (lo hi : Option Int) : List DV := (ds.drop (HT.sIx ds.length 0 lo)).take (HT.sIx ds.length ds.length hi - HT.sIx ds.length 0 lo)
theorem Iss.cut {H : Hp} {vs : List V} {ds : List DV} (r : Iss K H vs ds) (lo hi : Option Int) : Iss K H (cutV vs lo hi) (cutD ds lo hi) := by
  unfold cutV cutD
  rw [r.length]
  exact (r.drop _).take _
def wCut : DV → Option Int → Option Int → Mh → (DV → Mh → Prop) → Prop
  | .lst ds, l, h, μ, P => P (.lst (cutD ds l h)) μ
  | .tup ds, l, h, μ, P => P (.tup (cutD ds l h)) μ
  | .str z, l, h, μ, P => z.length ≤ sizeLine ∧ P (.str (cutS z l h)) μ
  | .fix ds, l, h, μ, P => P (.lst (cutD ds l h)) μ
  | _, _, _, _, _ => False
def wSl (w : WE) (wl wh : WO) : WE := fun ρ μ P => w ρ μ fun x μ1 => wl ρ μ1 fun l μ2 => wh ρ μ2 fun h μ3 => wCut x l h μ3 P
def rSlX (K : PySem.W.Frag) : V → Option Int → Option Int → Hp → VK → Prop := fun x lo hi H Q => rSlL K x lo hi H Q ∨ rSlA K x lo hi H Q ∨ rSlS x lo hi H Q
theorem sl_any : SlR X (rSlX X.K) := sl_list.or (sl_tupA.or sl_str)
theorem d_slice (he : PE X e (tD X.K w)) (hl : PO X lo (tDO X.K wl)) (hu : PO X hi (tDO X.K wh)) : PE X (.Subscript e (.Slice lo hi none p2) pos) (tD X.K (wSl w wl wh)) :=
  PE.imp (pe_slice sl_any he hl hu) fun σ H Q ⟨R, ρ, μ, P, a, w, k⟩ => ⟨R, ρ, μ, _, a, w, fun x μ1 v H1 p1 o1 s1 i1 => ⟨R, ρ, μ1, _, a.step o1 s1, p1, fun l μ2 H2 p2 o2 s2 => ⟨R, ρ, μ2, _, a.step o2 (s1.trans s2), p2, fun h μ3 H3 p3 o3 s3 => by
    have k3 := k.step ((s1.trans s2).trans s3)
    have i3 := i1.mono (s2.trans s3)
    cases i3 with
    | lst hx rx => exact .inl ⟨_, _, rfl, SqL.of (hid_le _ _ hx), fun p n => k3.lst o3 p3 (rx.cut l h) n⟩
    | @tup a xs ds hx rx =>
      refine .inr (.inl ⟨_, _, rfl, Same.seqT hid_le hx, fun z => ?_, fun _ p n => k3.tup o3 p3 (rx.cut l h) n⟩)
      have e : cutD ds l h = ds := by
        unfold cutD
        rw [← rx.length, z.1, z.2]
        simp [rx.length]
      exact k3.val o3 (by rw [← e]; exact p3) (.tup hx rx)
    | fix hx rx => exact .inl ⟨_, _, rfl, hid_le.seq hx, fun p n => k3.lst o3 p3 (rx.cut l h) n⟩
    | str z => exact .inr (.inr ⟨z, rfl, p3.1, k3.val o3 p3.2 (.str _)⟩)
    | _ => exact (show False from p3).elim⟩⟩⟩
theorem d_ix (ha : PE X a (tD X.K wa)) (hb : PE X b (tD X.K wb)) (hs : PlainIx b := by exact fun _ _ => rfl) : PE X (.Subscript a b pos) (tD X.K (wBin wIx wa wb)) := PE.imp (pe_ix ix_seq ha hb hs) (bin_imp ix_rd)
end
end Dz

set_option Elab.async false
set_option linter.all false
set_option maxRecDepth 100000
set_option maxHeartbeats 4000000
/-! DzG: a def's promise where nothing around it is being shown (repr): guards stand empty. The law's end for such promises. -/
namespace Dz
open PySem PySem.Spec L2 PyProof.Rows

/-- as FnOk, at places around which no repr runs -/
structure FnG (P : Program) (w : World) (K : PySem.W.Frag) (mg : Str → Option Value) (base : Heap) (k : Nat) (f : Addr) (fd : FuncData) (ps : List Str) (sp : Sp) : Prop where
  len : ∀ vs H Q E, sp vs H Q E → vs.length = ps.length
  run : ∀ (A : Around) (fr : List Env) (s : Shared) (H : Hp) (ar : Args) (us : List Value) (vs : List V) (Q : VK) (E : XK), A.guards = some [] → Room k A → Env0 P w K mg base A fr s H → BindsTo s fd ar (ps.zip us) → Vals vs us → sp vs H Q E →
    codeAny (model P w) A (.call (.ref f) ar) (CR CX0 fr P w H s Q E) s
theorem FnG.mono {P : Program} {w : World} {K : PySem.W.Frag} {mg : Str → Option Value} {base : Heap} {j k : Nat} {f : Addr} {fd : FuncData} {ps : List Str} {sp : Sp} (F : FnG P w K mg base j f fd ps sp) (h : j ≤ k) : FnG P w K mg base k f fd ps sp :=
  ⟨F.len, fun A fr s H ar us vs Q E hg hr => F.run A fr s H ar us vs Q E hg (hr.mono h)⟩
theorem FnOk.g {P : Program} {w : World} {K : PySem.W.Frag} {mg : Str → Option Value} {base : Heap} {k : Nat} {f : Addr} {fd : FuncData} {ps : List Str} {sp : Sp} (F : FnOk P w K mg base CX0 k f fd ps sp) : FnG P w K mg base k f fd ps sp :=
  ⟨F.len, fun A fr s H ar us vs Q E _ hr => F.run A fr s H ar us vs Q E hr⟩

/-- a def of the text keeps a promise by its body -/
theorem fng_of {P : Program} {w : World} {K : PySem.W.Frag} {mg : Str → Option Value} {base : Heap} {x qual : Str} {st : Stmt} {f : Addr} {fd : FuncData} {N ps : List Str} {k : Nat} {sp : Sp} (F : Fun K x qual st f fd) (S : FnScope N ps (defScope st)) (len : ∀ vs H Q E, sp vs H Q E → vs.length = ps.length)
    (body : ∀ (cdv : Value) (A : Around) (fr : List Env) (s : Shared) (H : Hp) (vs : List V) (Q : VK) (E : XK), A.guards = some [] → Room k (A.deeper (envOfC qual (defScope st) s.heap.objs.size f cdv)) → sp vs H Q E →
      ∃ t, PSs (cxOf CX0 P w K mg base N qual (defScope st) f cdv A fr s H E).nox (defBody st) t ∧ t { nx := fun _ H' => Q .non H', rt := Q } (start N vs) H) : FnG P w K mg base (k + 1) f fd ps sp := by
  obtain ⟨oc, od, kV, doc, pm, an, cdv, ct, osl, rfl, lk, hcd⟩ := F.ex
  refine ⟨len, fun A fr s H ar us vs Q E hgd room env bnd rel want => ?_⟩
  have inK : K.In s.heap := env.mod.kin.keeps fun b o q => (env.bs b o q).1
  have nolim : s.heap.NoLimit := env.mod.nolimit.keeps fun b o q => (env.bs b o q).1
  have count := len vs H Q E want
  have kinds : ∀ y ∈ ps.zip us, (defScope st).names.lookup y.1 = some .local ∨ ((defScope st).names.lookup y.1 = some .cell ∧ ((cellsFrom (s.heap.objs.size + 1) (defScope st).names []).lookup y.1).isSome = true) := by
    rintro ⟨nm, vv⟩ hy
    have hp := S.par nm (List.of_mem_zip hy).1
    rcases hp with hp | hp
    · exact Or.inl hp
    · exact Or.inr ⟨hp, PySem.W.cellsFrom_some _ _ _ (Or.inl hp)⟩
  refine codeAny_call_function room.depth (inK _ _ lk) rfl S.co S.gen rfl (PySem.W.codeRec_of inK hcd) (bnd _ _ _ _ ?_)
  refine wpAny_newFunctionEnv_cells S.kind kinds fun ev hev s1 x1 => ?_
  subst hev
  refine ⟨nolim.keeps x1.toInCall.keep, codeAny_func ?_⟩
  obtain ⟨t, ht0, hq⟩ := body cdv A fr s H vs Q E hgd (room.deeper _) want
  have ht := ht0.nox
  have I0 := inv_start (CX := CX0) (E := E) S room.hd env count rel x1
  refine wpAny_mono (ht.run [] s1 (start N vs) H _ I0 hq) (fun flow s2 hs => ?_) fun er s2 hs => hs
  cases flow with
  | next =>
    obtain ⟨σ2, H2, J, q⟩ := hs
    exact ⟨.non, H2, J.os, J.bare, J.base, J.hok, rfl, q⟩
  | ret u =>
    obtain ⟨v, σ2, H2, J, rv, q⟩ := hs
    exact ⟨v, H2, J.os, J.bare, J.base, J.hok, rv, q⟩
  | brk =>
    obtain ⟨_, _, _, q⟩ := hs
    exact q.elim
  | cont =>
    obtain ⟨_, _, _, q⟩ := hs
    exact q.elim

section
variable {X : Cx} {k : Nat} {f : Addr} {fd : FuncData} {ps : List Str} {sp : Sp} {E : XK} {x : Str} {p pos : Pos} {e : Expr} {es : List Expr} {t : TA} {dvs : List V} {ds : List Value}
theorem runG {pins : List (Addr × Obj)} {σ : L2.St} {H : Hp} {s : Shared} {Q : VK} {ar : Args} {us : List Value} {vs : List V} (F : FnG X.prog X.w X.K X.mg X.base k f fd ps sp) (hgd : X.A.guards = some []) (hr : Room k X.A) (I : Inv X pins σ H s) (hb : BindsTo s fd ar (ps.zip us)) (r : Vals vs us) (h : sp vs H Q E) :
    wpAny (model X.prog X.w) X.A (PySem.call (.ref f) ar.pos ar.kw) (EP X pins σ Q) X.xe s := by
  refine wpAny_call (codeAny_mono (F.run X.A X.stack s H ⟨ar.pos, ar.kw⟩ us vs Q E hgd hr I.env0 hb r h) fun res s' hq => ?_)
  match res, hq with
  | .ok (.ret u), hq => exact I.after hq
theorem peg_call (F : FnG X.prog X.w X.K X.mg X.base k f fd ps sp) (hgd : X.A.guards = some []) (hr : Room k X.A) (hg : Gl X x) (hm : X.mg x = some (.ref f)) (hk : PySem.W.keepIn X.K (.ref f) = true) (hb : Binds X.K fd ps ds) (hd : Vals dvs ds)
    (ha : PA X (e :: es) t) (hdb : (x == ("__debug__" : Str)) = false) (he : starEach (e :: es) X.env = (false, eval e X.env) :: starEach es X.env) (hpl : (backTo pos (starEach es X.env)).any (·.1) = false) :
    PE X (.Call (.Name x p) (e :: es) [] pos) (tCall sp dvs E t) := by
  constructor
  intro pins s σ H Q I h
  refine wpAny_Call_Name_kw (ld_glob I hg hm (PySem.W.callWith_K (h₀ := X.base) I.ok.mod.kin hk (thn (ha.run pos pins s σ H _ I h) fun us s1 ⟨vs, H1, I1, r, q⟩ => ⟨I1.kIn, ?_⟩) he hpl) hdb)
  have rr : Vals (vs ++ dvs) (us ++ ds) := r.append hd
  exact runG (ar := ⟨us, []⟩) F hgd hr I1 (hb s1 us I1.kIn (by rw [← rr.length]; exact F.len _ _ _ _ q)) rr q
theorem peg_call0 (F : FnG X.prog X.w X.K X.mg X.base k f fd ps sp) (hgd : X.A.guards = some []) (hr : Room k X.A) (hg : Gl X x) (hm : X.mg x = some (.ref f)) (hk : PySem.W.keepIn X.K (.ref f) = true) (hb : Binds X.K fd ps ds) (hd : Vals dvs ds)
    (hdb : (x == ("__debug__" : Str)) = false) : PE X (.Call (.Name x p) [] [] pos) (tCall sp dvs E tNil) := by
  constructor
  intro pins s σ H Q I h
  refine wpAny_Call_Name_kw (ld_glob I hg hm (PySem.W.callWith_K0 I.kIn hk ?_) hdb)
  exact runG (ar := ⟨[], []⟩) (us := [] ++ ds) (vs := [] ++ dvs) F hgd hr I (hb s [] I.kIn (by rw [← (Vals.append .nil hd).length]; exact F.len _ _ _ _ h)) (Vals.append .nil hd) h
/-- keywords alone -/
theorem peg_callK0 {ks : List Str} {kws : List Keyword} {tk : TA} {g : List Value → List Value → List Value} {gV : List V → List V → List V} (F : FnG X.prog X.w X.K X.mg X.base k f fd ps sp) (hgd : X.A.guards = some []) (hr : Room k X.A) (hg : Gl X x) (hm : X.mg x = some (.ref f)) (hk : PySem.W.keepIn X.K (.ref f) = true)
    (hb : KBinds X.K fd ps ks g gV) (hkw : PK X kws tk) (hall : (backToKw pos (keywordEach kws X.env)).all (·.1.isSome) = true) (hks : (backToKw pos (keywordEach kws X.env)).filterMap (·.1) = ks) (hdb : (x == ("__debug__" : Str)) = false)
    (hpl : ((backTo pos (starEach [] X.env)).any (·.1) || (backToKw pos (keywordEach kws X.env)).any (·.1.isNone)) = false) : PE X (.Call (.Name x p) [] kws pos) (fun σ H Q => tk σ H fun zs H1 => sp (gV [] zs) H1 Q E) := by
  constructor
  intro pins s σ H Q I h
  refine wpAny_Call_Name_kw (ld_glob I hg hm (PySem.W.callWith_KW0 (h₀ := X.base) I.ok.mod.kin hk hall (thn (hkw.run pos pins s σ H _ I h) fun us s1 ⟨zs, H1, I1, r, q⟩ => ⟨I1.kIn, ?_⟩) hpl) hdb)
  rw [hks]
  have rr : Vals (gV [] zs) (g [] us) := hb.rel .nil r
  exact runG (ar := ⟨[], ks.zip us⟩) F hgd hr I1 (hb.to s1 [] us I1.kIn (by rw [← rr.length]; exact F.len _ _ _ _ q)) rr q
end

/-! ### the end -/
/-- the script is there: a list of the ints, locked (or the module's own); nothing else is tracked -/
def Entry (H : Hp) : Prop := ∀ b, H b = none ∨ ∃ o xs, H b = some (.frz o (.lst xs))
theorem law_callG {P : Program} {w : World} {K : PySem.W.Frag} {mg mb : Str → Option Value} {k : Nat} {fa a : Addr} {fd : FuncData} {x : Str} {sp : Sp} {s₁ : Shared} {vs : List Value} {ns : List Int}
    (KX : K.In s₁.heap) (hns : s₁.heap.Ns mainGlobals mg) (hb : s₁.heap.Ns builtinsNs mb) (hbb : ∀ y : Str, y ≠ "__name__" → mb y = bootBuiltins y) (hlim : s₁.heap.NoLimit) (hg : s₁.gens = #[])
    (ha : s₁.heap.get? a = some { cls := .type "list", data := .seq vs.toArray }) (hi : IntsAre vs ns) (hl : ns.length ≤ sizeLine) (hr : Room k callerA)
    (hsys : ∃ m, s₁.heap.Ns sysModules m) (F : ∀ base : Heap, K.In base → base.Ns mainGlobals mg → (∃ o, base.get? sysModules = some o) → FnG P w K mg base k fa fd [x] sp) (hbind : ∀ (s : Shared) (u : Value), BindsTo s fd ⟨[u], []⟩ [(x, u)])
    (hsp : ∀ H : Hp, Entry H → SqL K H a (ns.map V.int) → sp [.ref a] H (fun v _ => v = .bl true) fun _ _ _ => False) :
    codeAny (model P w) callerA (.call (.ref fa) ⟨[.ref a], []⟩) (fun r s' => r = .ok (.ret (.bool true)) ∧ OldK s₁.heap s'.heap ∧ s'.os = s₁.os ∧ AllBare s'.gens) s₁ := by
  have rv := vals_ints hi
  have same : ∀ H : Hp, Entry H → SqL K H a (ns.map V.int) → HOk P w H s₁.heap → (∀ b u, H b = some u → b = a ∧ K.lookup a = none) →
      codeAny (model P w) callerA (.call (.ref fa) ⟨[.ref a], []⟩) (fun r s' => r = .ok (.ret (.bool true)) ∧ OldK s₁.heap s'.heap ∧ s'.os = s₁.os ∧ AllBare s'.gens) s₁ := by
    intro H hE hS hok only
    -- what is no list at a stays below
    have low : ∀ {b : Addr} {o : Obj}, s₁.heap.get? b = some o → (b = a → K.lookup a = none → False) → (hidT s₁.heap H).get? b = some o := fun {b o} e ne => by
      refine hidT_get e ?_
      cases q : H b with
      | none => rfl
      | some u => exact (ne (only b u q).1 (only b u q).2).elim
    have lowNs : ∀ {b : Addr} {m : Str → Option Value}, s₁.heap.Ns b m → (hidT s₁.heap H).Ns b m := fun {b m} h => by
      obtain ⟨o, es, ep, e, d, rest⟩ := h
      refine ⟨o, es, ep, low e fun z _ => ?_, d, rest⟩
      subst z
      rw [ha] at e
      cases e
      exact Data.noConfusion (show Data.seq vs.toArray _ = Data.dict es ep from d)
    have lowK : K.In (hidT s₁.heap H) := fun b o e => low (KX b o e) fun z n => by
      subst z
      rw [n] at e
      cases e
    obtain ⟨ml, hl1, hl2⟩ := hlim
    have env : Env0 P w K mg (hidT s₁.heap H) callerA [] s₁ H :=
      ⟨rfl, ⟨lowK, lowNs hns, ⟨mb, lowNs hb, hbb⟩, ⟨ml, lowNs hl1, hl2⟩⟩, fun b o e => of_hidT e, Nat.le_of_eq (hidT_size _ _), trivial, (fun b z => (List.not_mem_nil (show b ∈ ([] : List Addr) from z)).elim), hok, AllBare.of_eq hg⟩
    refine codeAny_mono ((F (hidT s₁.heap H) lowK (lowNs hns) (let ⟨_, hm⟩ := hsys; let ⟨o, _, _, ho, _⟩ := lowNs hm; ⟨o, ho⟩)).run callerA [] s₁ H ⟨[.ref a], []⟩ [.ref a] [.ref a] _ _ rfl hr env (hbind s₁ (.ref a)) (.cons rfl .nil) (hsp H hE hS)) fun res s' h => ?_
    match res, h with
    | .ok (.ret u), ⟨v, H', os, bare, un, hok', r', q⟩ =>
      have q' : v = V.bl true := q
      subst q'
      obtain rfl : u = Value.bool true := r'
      refine ⟨rfl, OldK.of_keep fun b o e => ?_, os, bare⟩
      rcases hE b with z | ⟨ob, xs, z⟩
      · exact un.keep b o e z (fun y => List.not_mem_nil (show b ∈ ([] : List Addr) from y)) (fun y => List.not_mem_nil y)
      · obtain ⟨e1, _⟩ := hok b _ z
        obtain ⟨e2, _⟩ := hok' b _ (un.frzs b ob _ z)
        have e3 : some o = some ob := e.symm.trans e1
        cases e3
        exact e2
  have lenV := hi.length
  cases hk : K.lookup a with
  | some o =>
    have e := (KX a o hk).symm.trans ha
    cases e
    exact same (fun _ => none) (fun _ => Or.inl rfl) (Or.inr ⟨_, vs.toArray, _, hk, rfl, rfl, rfl, by simpa [lenV] using hl, by simpa using rv⟩) (fun b u z => by cases z) (fun b u z => by cases z)
  | none =>
    let o0 : Obj := { cls := .type "list", data := .seq vs.toArray }
    let H0 : Hp := fun b => if b = a then some (.frz o0 (.lst (ns.map V.int))) else none
    have at0 : ∀ b u, H0 b = some u → b = a ∧ u = .frz o0 (.lst (ns.map V.int)) := fun b u z => by
      by_cases hb : b = a
      · exact ⟨hb, (Option.some.inj ((if_pos hb).symm.trans z)).symm⟩
      · cases (if_neg hb).symm.trans z
    refine same H0 (fun b => ?_) (Or.inl (Or.inr ⟨o0, if_pos rfl⟩)) (fun b u z => ?_) (fun b u z => ⟨(at0 b u z).1, hk⟩)
    · by_cases hb : b = a
      · exact Or.inr ⟨o0, _, if_pos hb⟩
      · exact Or.inl (if_neg hb)
    · obtain ⟨rfl, rfl⟩ := at0 b u z
      exact ⟨ha, by rw [List.length_map]; exact hl, vs, _, rv, ha⟩
/-- the goal that k_head leaves, from the law's promise -/
theorem walk_ofG {l : PySem.W.OpenLaw} {n k : Nat} {q : Program} {loose : List Str} {XP : (Str → Option Value) → Heap → Prop} {YP : World → Heap → Prop} {d : DefRec} {K : Params → PySem.W.Frag} {sp : PySem.W.Frag → Sp} {x : Str}
    (hn : l.most = some n) (hn2 : n ≤ sizeLine) (hi : importsNone q = true) (hdf : d.params.defaults = []) (hr : Room k callerA) (hY : ∀ (w : World) (h : Heap), YP w h → (K w.params).In h)
    (F : ∀ (w : World) (mg : Str → Option Value) (fa : Addr) (h : Heap), (K w.params).In h → h.Ns mainGlobals mg → (∃ o, h.get? sysModules = some o) → mg d.name = some (.ref fa) →
      ∃ fd : FuncData, (∀ (s : Shared) (u : Value), BindsTo s fd ⟨[u], []⟩ [(x, u)]) ∧ ∀ base : Heap, (K w.params).In base → base.Ns mainGlobals mg → (∃ o, base.get? sysModules = some o) → FnG l.prog w (K w.params) mg base k fa fd [x] (sp (K w.params)))
    (hsp : ∀ (K : PySem.W.Frag) (H : Hp) (a : Addr) (ns : List Int), ns.length ≤ n → Entry H → SqL K H a (ns.map V.int) → sp K [.ref a] H (fun v _ => v = .bl true) fun _ _ _ => False) :
    PySem.W.WalkO q loose XP YP l.row.toRowW d [] (fun f vs => PySem.call f vs) := by
  refine Att.attach_call hn hdf fun w s₀ s₁ mg mb fa o pm cd doc a vs ns G Y ho hd hcd hmg hobj hints hlen hgen => ?_
  have KX := hY w _ Y
  have hsys : ∃ m, s₁.heap.Ns sysModules m := let ⟨m, hm, _⟩ := (G.T.seer hi).mods; ⟨m, hm⟩
  obtain ⟨fd, hbd, hF⟩ := F w mg fa _ KX G.T.g (let ⟨_, hm⟩ := hsys; let ⟨o, _, _, ho, _⟩ := hm; ⟨o, ho⟩) hmg
  exact law_callG KX G.T.g G.T.b G.T.builtins G.T.nolimit hgen hobj hints (Nat.le_trans hlen hn2) hr hsys hF hbd fun H hE hS => hsp (K w.params) H a ns hlen hE hS
end Dz

set_option Elab.async false
set_option linter.all false
set_option maxRecDepth 100000
set_option maxHeartbeats 4000000
/-! Dz4: targets, things walked, statements, loops, comprehensions, defs and their calls. -/
namespace Dz
open PySem L2 PyProof.Rows

/-! ### targets -/
theorem wipe_get (σ : L2.St) (j : Nat) : ∀ vs : List Nat, (wipe σ vs)[j]? = if j ∈ vs ∧ j < σ.length then some none else σ[j]?
  | [] => by simp [wipe]
  | v :: vs => by
    unfold wipe
    by_cases h : v = j
    · subst h
      by_cases hl : v < σ.length
      · rw [List.getElem?_set_self (by rw [wipe_length]; exact hl), if_pos ⟨List.mem_cons_self, hl⟩]
      · rw [List.getElem?_eq_none (by rw [List.length_set, wipe_length]; omega), if_neg (fun z => hl z.2), List.getElem?_eq_none (by omega)]
    · rw [List.getElem?_set_ne h, wipe_get σ j vs]
      by_cases c : j ∈ vs ∧ j < σ.length
      · rw [if_pos c, if_pos ⟨List.mem_cons_of_mem _ c.1, c.2⟩]
      · rw [if_neg c, if_neg fun z => c ⟨(List.mem_cons.mp z.1).resolve_left fun q => h q.symm, z.2⟩]
theorem wipe_set {σ : L2.St} {i : Nat} {x : Option V} {vs : List Nat} (h : i ∈ vs) : wipe (σ.set i x) vs = wipe σ vs := by
  apply List.ext_getElem?
  intro j
  rw [wipe_get, wipe_get, List.length_set]
  by_cases c : j ∈ vs ∧ j < σ.length
  · rw [if_pos c, if_pos c]
  · rw [if_neg c, if_neg c]
    by_cases e : i = j
    · subst e
      have hl : ¬ i < σ.length := fun z => c ⟨h, z⟩
      rw [List.getElem?_eq_none (by rw [List.length_set]; omega), List.getElem?_eq_none (by omega)]
    · rw [List.getElem?_set_ne e]
theorem wipe_wipe (σ : L2.St) (vs : List Nat) : wipe (wipe σ vs) vs = wipe σ vs := by
  apply List.ext_getElem?
  intro j
  rw [wipe_get, wipe_get, wipe_length]
  by_cases c : j ∈ vs ∧ j < σ.length
  · rw [if_pos c, if_pos c]
  · rw [if_neg c, if_neg c]
def tDG (K : PySem.W.Frag) (sl : List Nat) (wg : WG) : TG := fun v σ H Q => ∃ R ρ μ d P, At K R σ ρ μ H ∧ Is K (hid R μ H) v d ∧ wg d ρ P ∧
  ∀ ρ' σ', P ρ' → Sl K (hid R μ H) σ' ρ' → (∀ vs, (∀ i ∈ sl, i ∈ vs) → wipe σ' vs = wipe σ vs) → Q σ' H
abbrev WGs := List DV → Rho → (Rho → Prop) → Prop
def tDGs (K : PySem.W.Frag) (sl : List Nat) (wg : WGs) : TGs := fun vs σ H Q => ∃ R ρ μ ds P, At K R σ ρ μ H ∧ Iss K (hid R μ H) vs ds ∧ wg ds ρ P ∧
  ∀ ρ' σ', P ρ' → Sl K (hid R μ H) σ' ρ' → (∀ vs, (∀ i ∈ sl, i ∈ vs) → wipe σ' vs = wipe σ vs) → Q σ' H
theorem PG.imp {X : Cx} {e : Expr} {t t' : TG} (h : PG X e t) (i : ∀ v σ H Q, t' v σ H Q → t v σ H Q) : PG X e t' := ⟨fun pins s σ H v u Q I r w => h.run pins s σ H v u Q I r (i _ _ _ _ w)⟩
theorem PGs.imp {X : Cx} {e : List Expr} {t t' : TGs} (h : PGs X e t) (i : ∀ v σ H Q, t' v σ H Q → t v σ H Q) : PGs X e t' := ⟨fun pins s σ H v u Q I r w => h.run pins s σ H v u Q I r (i _ _ _ _ w)⟩
theorem PI.imp {X : Cx} {tg e : Expr} {t t' : TI} (h : PI X tg e t) (i : ∀ σ H Q, t' σ H Q → t σ H Q) : PI X tg e t' := ⟨fun pins s σ H Q I w => h.run pins s σ H Q I (i _ _ _ w)⟩
def wgName (i : Nat) : WG := fun d ρ P => P (ρ.set i (some d))
def wgNil : WGs := fun ds ρ P => ds = [] ∧ P ρ
def wgCons (g : WG) (gs : WGs) : WGs := fun ds ρ P => match ds with | d :: r => g d ρ fun ρ1 => gs r ρ1 P | [] => False
def wgTup (n : Nat) (gs : WGs) : WG := fun d ρ P => match d with | .tup ds => ds.length = n ∧ gs ds ρ P | _ => False
section
variable {X : Cx} {pos : Pos} {e : Expr} {es : List Expr} {g : WG} {gs : WGs} {s1 s2 : List Nat}
theorem dg_name {i : Nat} {x : Str} (hN : X.N.Nodup) (hi : X.N[i]? = some x) (hx : Loc X.env.scope x) (hf : X.fn x = true ∨ X.env.scope.names.lookup x = some .local := by first | exact .inl rfl | exact .inr rfl | assumption) : PG X (.Name x pos) (tDG X.K [i] (wgName i)) :=
  PG.imp (pg_name hN hi hx hf) fun v σ H Q ⟨R, ρ, μ, d, P, a, r, w, k⟩ => k _ _ w (a.sl.set i r) fun vs h => wipe_set (h i List.mem_cons_self)
theorem dgs_nil : PGs X [] (tDGs X.K [] wgNil) := PGs.imp pgs_nil fun v σ H Q ⟨R, ρ, μ, d, P, a, r, w, k⟩ => by
  obtain ⟨rfl, w⟩ := w
  cases r
  exact ⟨rfl, k _ _ w a.sl fun _ _ => rfl⟩
theorem dgs_cons (h1 : PG X e (tDG X.K s1 g)) (h2 : PGs X es (tDGs X.K s2 gs)) (hs : (assignEach (e :: es) X.env).map (·.2) = assign e X.env :: (assignEach es X.env).map (·.2) := by rfl) : PGs X (e :: es) (tDGs X.K (s1 ++ s2) (wgCons g gs)) :=
  PGs.imp (pgs_cons h1 h2 hs) fun v σ H Q ⟨R, ρ, μ, ds, P, a, r, w, k⟩ => by
    cases r with
    | nil => exact (show False from w).elim
    | cons r rr =>
      refine ⟨_, _, rfl, R, ρ, μ, _, _, a, r, w, fun ρ1 σ1 p1 sl1 w1 => ⟨R, ρ1, μ, _, P, ⟨a.ok, sl1⟩, rr, p1, fun ρ2 σ2 p2 sl2 w2 => k ρ2 σ2 p2 sl2 fun vs h => ?_⟩⟩
      rw [w2 vs fun i hi => h i (List.mem_append_right _ hi), w1 vs fun i hi => h i (List.mem_append_left _ hi)]
theorem dg_tup {k n : Nat} (hc : X.calm = true) (h : PGs X es (tDGs X.K s1 gs)) (hn : (assignEach es X.env).length = n := by rfl) (hst : (assignEach es X.env).findIdx? (·.1) = none := by rfl) : PG X (.Tuple es k pos) (tDG X.K s1 (wgTup n gs)) :=
  PG.imp (pg_tup hc h hn hst) fun v σ H Q ⟨R, ρ, μ, d, P, a, r, w, k⟩ => by
    cases r with
    | tup hx rx => exact ⟨_, _, rfl, Same.seqT hid_le hx, by rw [rx.length]; exact w.1, R, ρ, μ, _, P, a, rx, w.2, k⟩
    | _ => exact (show False from w).elim
end

/-! ### what is walked -/
structure ItD (K : PySem.W.Frag) (Hm : Hp) (J : It) (xs : List DV) : Prop where
  go : ∀ R μ H i, Ok K R μ H → Same Hm (hid R μ H) → i < xs.length → J.go i H
  yld : ∀ R μ H i x H', Ok K R μ H → Same Hm (hid R μ H) → J.yld i H x H' → i < xs.length → ∃ d, xs[i]? = some d ∧ Ok K R μ H' ∧ Same (hid R μ H) (hid R μ H') ∧ Is K (hid R μ H') x d
  stop : ∀ R μ H i, Ok K R μ H → Same Hm (hid R μ H) → xs.length ≤ i → J.stop i H
theorem ItD.lst {K : PySem.W.Frag} {Hm : Hp} {a : Addr} {vs : List V} {xs : List DV} (h : Hm a = some (.lst vs)) (r : Iss K Hm vs xs) : ItD K Hm (Itl K a) xs where
  go := fun R μ H i o s hi => by
    obtain ⟨v, e, _⟩ := r.get (List.getElem?_eq_getElem hi)
    exact ⟨vs, v, SqL.of (hid_le _ _ (s _ _ h)), e⟩
  yld := fun R μ H i x H' o s y hi => by
    obtain ⟨rfl, y⟩ := y
    have e := y vs (SqL.of (hid_le _ _ (s _ _ h)))
    obtain ⟨d, e2, k⟩ := r.getV e
    exact ⟨d, e2, o, Same.refl _, k.mono s⟩
  stop := fun R μ H i o s hi => ⟨vs, SqL.of (hid_le _ _ (s _ _ h)), by rw [r.length]; exact hi⟩
theorem ItD.tup {K : PySem.W.Frag} {Hm : Hp} {a : Addr} {vs : List V} {xs : List DV} (h : SqT K Hm a vs) (r : Iss K Hm vs xs) : ItD K Hm (Itt K a) xs where
  go := fun R μ H i o s hi => by
    obtain ⟨v, e, _⟩ := r.get (List.getElem?_eq_getElem hi)
    exact ⟨vs, v, Same.seqT (s.trans hid_le) h, e⟩
  yld := fun R μ H i x H' o s y hi => by
    obtain ⟨rfl, y⟩ := y
    have e := y vs (Same.seqT (s.trans hid_le) h)
    obtain ⟨d, e2, k⟩ := r.getV e
    exact ⟨d, e2, o, Same.refl _, k.mono s⟩
  stop := fun R μ H i o s hi => ⟨vs, Same.seqT (s.trans hid_le) h, by rw [r.length]; exact hi⟩
def signs (z : Str) : List DV := z.cps.toList.map fun c => .str ⟨#[c]⟩
theorem ItD.str {K : PySem.W.Frag} {Hm : Hp} {z : Str} : ItD K Hm (Its z) (signs z) where
  go := fun R μ H i o s hi => by
    unfold signs at hi
    rw [List.length_map, Array.length_toList] at hi
    exact hi
  yld := fun R μ H i x H' o s y hi => by
    obtain ⟨rfl, c, e, rfl⟩ := y
    refine ⟨.str ⟨#[c]⟩, ?_, o, Same.refl _, .str _⟩
    unfold signs
    rw [List.getElem?_map, Array.getElem?_toList, e]
    rfl
  stop := fun R μ H i o s hi => by
    unfold signs at hi
    rw [List.length_map, Array.length_toList] at hi
    exact hi
def rngD (lo : Int) (n : Nat) : List DV := (List.range n).map fun i : Nat => .int (lo + (i : Int))
theorem ItD.rng {K : PySem.W.Frag} {Hm : Hp} {lo : Int} {n : Nat} : ItD K Hm (Itr lo n) (rngD lo n) where
  go := fun R μ H i o s hi => by
    unfold rngD at hi
    rw [List.length_map, List.length_range] at hi
    exact hi
  yld := fun R μ H i x H' o s y hi => by
    obtain ⟨rfl, rfl⟩ := y
    unfold rngD at hi ⊢
    rw [List.length_map, List.length_range] at hi
    refine ⟨.int (lo + (i : Int)), ?_, o, Same.refl _, .int _⟩
    rw [List.getElem?_map, List.getElem?_range hi]
    rfl
  stop := fun R μ H i o s hi => by
    unfold rngD at hi
    rw [List.length_map, List.length_range] at hi
    exact hi
abbrev WI := Rho → Mh → (List DV → Mh → Prop) → Prop
def tDI (K : PySem.W.Frag) (ws : WI) : TI := fun σ H RR => ∃ R ρ μ P, At K R σ ρ μ H ∧ ws ρ μ P ∧ ∀ xs μ' H' J, P xs μ' → Ok K R μ' H' → Same (hid R μ H) (hid R μ' H') → ItD K (hid R μ' H') J xs → RR J H'
def sLst (w : WE) : WI := fun ρ μ P => w ρ μ fun d μ1 => match d with | .lst xs => P xs μ1 | _ => False
def sTup (w : WE) : WI := fun ρ μ P => w ρ μ fun d μ1 => match d with | .tup xs => P xs μ1 | _ => False
def sStr (w : WE) : WI := fun ρ μ P => w ρ μ fun d μ1 => match d with | .str z => P (signs z) μ1 | _ => False
def sRng1 (w : WE) : WI := fun ρ μ P => w ρ μ fun d μ1 => match d with | .int j => j < 2 ^ 62 ∧ -(2 ^ 62) ≤ j ∧ P (rngD 0 j.toNat) μ1 | _ => False
def sRng2 (wa wb : WE) : WI := fun ρ μ P => wa ρ μ fun c μ1 => wb ρ μ1 fun d μ2 => match c, d with | .int i, .int j => (-(2 ^ 62) ≤ i ∧ i < 2 ^ 62 ∧ -(2 ^ 62) ≤ j ∧ j < 2 ^ 62) ∧ P (rngD i (j - i).toNat) μ2 | _, _ => False
section
variable {X : Cx} {tg e a b : Expr} {w wa wb : WE} {p pos : Pos}
theorem di_list (h : PE X e (tD X.K w)) : PI X tg e (tDI X.K (sLst w)) := PI.imp (pi_list h) fun σ H RR ⟨R, ρ, μ, P, a, w, k⟩ => ⟨R, ρ, μ, _, a, w, fun d μ1 v H1 p1 o1 s1 i1 => by
  cases i1 with
  | lst hx rx => exact ⟨_, rfl, ⟨_, SqL.of (hid_le _ _ hx)⟩, k _ μ1 H1 _ p1 o1 s1 (.lst hx rx)⟩
  | _ => exact (show False from p1).elim⟩
theorem di_tup (h : PE X e (tD X.K w)) : PI X tg e (tDI X.K (sTup w)) := PI.imp (pi_tup h) fun σ H RR ⟨R, ρ, μ, P, a, w, k⟩ => ⟨R, ρ, μ, _, a, w, fun d μ1 v H1 p1 o1 s1 i1 => by
  cases i1 with
  | tup hx rx => exact ⟨_, rfl, ⟨_, Same.seqT hid_le hx⟩, k _ μ1 H1 _ p1 o1 s1 (.tup hx rx)⟩
  | _ => exact (show False from p1).elim⟩
theorem di_str (h : PE X e (tD X.K w)) : PI X tg e (tDI X.K (sStr w)) := PI.imp (pi_str h) fun σ H RR ⟨R, ρ, μ, P, a, w, k⟩ => ⟨R, ρ, μ, _, a, w, fun d μ1 v H1 p1 o1 s1 i1 => by
  cases i1 with
  | str z => exact ⟨_, rfl, k _ μ1 H1 _ p1 o1 s1 .str⟩
  | _ => exact (show False from p1).elim⟩
theorem di_range1 (hg : Gl X "range") (hm : X.mg "range" = none) (h : PE X a (tD X.K w)) (hs : starEach [a] X.env = [(false, eval a X.env)] := by rfl) : PI X tg (.Call (.Name "range" p) [a] [] pos) (tDI X.K (sRng1 w)) :=
  PI.imp (pi_range1 hg hm (pa_cons h pa_nil hs) hs) fun σ H RR ⟨R, ρ, μ, P, a, w, k⟩ => ⟨R, ρ, μ, _, a, w, fun d μ1 v H1 p1 o1 s1 i1 => by
    cases i1 with
    | int j => exact ⟨j, rfl, p1.2.1, p1.1, k _ μ1 H1 _ p1.2.2 o1 s1 .rng⟩
    | _ => exact (show False from p1).elim⟩
theorem di_range2 (hg : Gl X "range") (hm : X.mg "range" = none) (ha : PE X a (tD X.K wa)) (hb : PE X b (tD X.K wb)) (hs : starEach [a, b] X.env = [(false, eval a X.env), (false, eval b X.env)] := by rfl) (hs2 : starEach [b] X.env = [(false, eval b X.env)] := by rfl) :
    PI X tg (.Call (.Name "range" p) [a, b] [] pos) (tDI X.K (sRng2 wa wb)) :=
  PI.imp (pi_range2 hg hm (pa_cons ha (pa_cons hb pa_nil hs2) (by rw [hs, hs2])) hs hs2) fun σ H RR ⟨R, ρ, μ, P, a, w, k⟩ => ⟨R, ρ, μ, _, a, w, fun c μ1 u H1 p1 o1 s1 i1 => ⟨R, ρ, μ1, _, a.step o1 s1, p1, fun d μ2 v H2 p2 o2 s2 i2 => by
    cases i1 with
    | int i =>
      cases i2 with
      | int j => exact ⟨i, j, rfl, p2.1, k _ μ2 H2 _ p2.2 o2 (s1.trans s2) .rng⟩
      | _ => exact (show False from p2).elim
    | _ => exact (show False from p2).elim⟩⟩
end

/-! ### statements -/
def wSeq (t u : WS) : WS := fun E ρ μ => t { E with nx := u E } ρ μ
def wNext : WS := fun E ρ μ => E.nx ρ μ
def wBrk : WS := fun E ρ μ => E.bk ρ μ
def wCnt : WS := fun E ρ μ => E.ct ρ μ
def wAsg (w : WE) (g : WG) : WS := fun E ρ μ => w ρ μ fun d μ1 => g d ρ fun ρ1 => E.nx ρ1 μ1
def wDrop (w : WE) : WS := fun E ρ μ => w ρ μ fun _ μ1 => E.nx ρ μ1
def wRet (w : WE) : WS := fun E ρ μ => w ρ μ fun d μ1 => E.rt d μ1
def wRetN : WS := fun E _ μ => E.rt .none μ
def wIfS (c : WT) (t u : WS) : WS := fun E ρ μ => c ρ μ fun b μ1 => match b with | true => t E ρ μ1 | false => u E ρ μ1
def wPar (i j : Nat) (wa : WA) : WS := fun E ρ μ => wa ρ μ fun ds μ1 => match ds with | [x, y] => E.nx ((ρ.set i (some x)).set j (some y)) μ1 | _ => False
section
variable {X : Cx} {st : Stmt} {rest sa sb : List Stmt} {t u : WS} {e tg : Expr} {w : WE} {g : WG} {sl : List Nat} {pos : Pos}
theorem dss_nil : PSs X [] (tDS X.K wNext) := PSs.imp pss_nil fun D σ H ⟨R, ρ, μ, E, a, w, k⟩ => k.nx ρ μ σ H w a (Same.refl _)
theorem dss_cons (h1 : PS X st (tDS X.K t)) (h2 : PSs X rest (tDS X.K u)) : PSs X (st :: rest) (tDS X.K (wSeq t u)) := PSs.imp (pss_cons h1 h2) fun D σ H ⟨R, ρ, μ, E, a, w, k⟩ =>
  ⟨R, ρ, μ, _, a, w, ⟨fun ρ1 μ1 σ1 H1 p1 a1 s1 => ⟨R, ρ1, μ1, E, a1, p1, k.step s1⟩, k.rt, k.bk, k.ct⟩⟩
theorem dss_one (h : PS X st (tDS X.K t)) : PSs X [st] (tDS X.K t) := pss_one h
theorem ds_pass : PS X (.Pass pos) (tDS X.K wNext) := PS.imp ps_pass fun D σ H ⟨R, ρ, μ, E, a, w, k⟩ => k.nx ρ μ σ H w a (Same.refl _)
theorem ds_break : PS X (.Break pos) (tDS X.K wBrk) := PS.imp ps_break fun D σ H ⟨R, ρ, μ, E, a, w, k⟩ => k.bk ρ μ σ H w a (Same.refl _)
theorem ds_continue : PS X (.Continue pos) (tDS X.K wCnt) := PS.imp ps_continue fun D σ H ⟨R, ρ, μ, E, a, w, k⟩ => k.ct ρ μ σ H w a (Same.refl _)
theorem asg_imp {K : PySem.W.Frag} : ∀ D σ H, tDS K (wAsg w g) D σ H → tAsg (tD K w) (tDG K sl g) D σ H := fun D σ H ⟨R, ρ, μ, E, a, w, k⟩ =>
  ⟨R, ρ, μ, _, a, w, fun d μ1 v H1 p1 o1 s1 i1 => ⟨R, ρ, μ1, d, _, a.step o1 s1, i1, p1, fun ρ' σ' p2 sl2 _ => k.nx ρ' μ1 σ' H1 p2 ⟨o1, sl2⟩ s1⟩⟩
theorem ds_asg (he : PE X e (tD X.K w)) (hg : PG X tg (tDG X.K sl g)) (hs : swapsWithSole [tg] e pos.line X.env = pure false := by rfl) (hw : swappedStores [tg] e X.env = pure none := by rfl) (h1 : (assignEach [tg] X.env).map (·.2) = [assign tg X.env] := by rfl) : PS X (.Assign [tg] e pos) (tDS X.K (wAsg w g)) :=
  PS.imp (ps_asg he hg hs hw h1) asg_imp
theorem ds_set {i : Nat} {x : Str} {pos' : Pos} (hN : X.N.Nodup) (hi : X.N[i]? = some x) (hx : Loc X.env.scope x) (he : PE X e (tD X.K w)) (hs : swapsWith e (some (.Name x pos')) pos.line X.env = pure false := by rfl)
    (hf : X.fn x = true ∨ X.env.scope.names.lookup x = some .local := by first | exact .inl rfl | exact .inr rfl | assumption) : PS X (.Assign [.Name x pos'] e pos) (tDS X.K (wAsg w (wgName i))) :=
  PS.imp (ps_set hN hi hx he hs hf) fun D σ H ⟨R, ρ, μ, E, a, w, k⟩ => ⟨R, ρ, μ, _, a, w, fun d μ1 v H1 p1 o1 s1 i1 => k.nx _ μ1 _ H1 p1 ⟨o1, (a.sl.mono s1).set i i1⟩ s1⟩
theorem ds_par {i j : Nat} {x y : Str} {a b : Expr} {wa : WA} {px py pt : Pos} {kt k2 pt2} (hN : X.N.Nodup) (hi : X.N[i]? = some x) (hj : X.N[j]? = some y) (hij : i ≠ j) (hx : X.env.scope.names.lookup x = some .local) (hy : X.env.scope.names.lookup y = some .local) (ha : PA X [a, b] (tDA X.K wa))
    (hw : swappedStores [.Tuple [.Name x px, .Name y py] kt pt] (.Tuple [a, b] k2 pt2) X.env = pure (some [x, y])) (hc : X.calm = true := by rfl) (hs : swapsWithSole [.Tuple [.Name x px, .Name y py] kt pt] (.Tuple [a, b] k2 pt2) pos.line X.env = pure false := by rfl) :
    PS X (.Assign [.Tuple [.Name x px, .Name y py] kt pt] (.Tuple [a, b] k2 pt2) pos) (tDS X.K (wPar i j wa)) :=
  PS.imp (ps_par hc hN hi hj hij hx hy ha hw hs) fun D σ H ⟨R, ρ, μ, E, a, w, k⟩ => ⟨R, ρ, μ, _, a, w, fun ds μ1 vs H1 p1 o1 s1 i1 => by
    cases i1 with
    | nil => exact (show False from p1).elim
    | cons i1 r => cases r with
      | nil => exact (show False from p1).elim
      | cons i2 r => cases r with
        | nil => exact ⟨_, _, rfl, k.nx _ μ1 _ H1 p1 ⟨o1, ((a.sl.mono s1).set i i1).set j i2⟩ s1⟩
        | cons _ _ => exact (show False from p1).elim⟩
theorem ds_expr (he : PE X e (tD X.K w)) (hs : swapsWith e none pos.line X.env = pure false := by rfl) : PS X (.Expr e pos) (tDS X.K (wDrop w)) :=
  PS.imp (ps_expr he hs) fun D σ H ⟨R, ρ, μ, E, a, w, k⟩ => ⟨R, ρ, μ, _, a, w, fun d μ1 v H1 p1 o1 s1 i1 => k.nx ρ μ1 σ H1 p1 (a.step o1 s1) s1⟩
theorem ds_ret (he : PE X e (tD X.K w)) : PS X (.Return (some e) pos) (tDS X.K (wRet w)) :=
  PS.imp (ps_ret he) fun D σ H ⟨R, ρ, μ, E, a, w, k⟩ => ⟨R, ρ, μ, _, a, w, k.rt⟩
theorem ds_retN : PS X (.Return none pos) (tDS X.K wRetN) := PS.imp ps_retN fun D σ H ⟨R, ρ, μ, E, a, w, k⟩ => k.rt _ μ _ H w a.ok (Same.refl _) .none
theorem ds_if {c : Expr} {tc : WT} (hc : PT X c (tDT X.K tc)) (ha : PSs X sa (tDS X.K t)) (hb : PSs X sb (tDS X.K u)) : PS X (.If c sa sb pos) (tDS X.K (wIfS tc t u)) :=
  PS.imp (ps_if hc ha hb) fun D σ H ⟨R, ρ, μ, E, a, w, k⟩ => ⟨R, ρ, μ, _, a, w, fun b μ1 H1 p1 o1 s1 => by
    cases b with
    | true => exact iteT ⟨R, ρ, μ1, E, a.step o1 s1, p1, k.step s1⟩
    | false => exact iteF ⟨R, ρ, μ1, E, a.step o1 s1, p1, k.step s1⟩⟩

/-! ### loops -/
def forW (g : WG) (b : WS) (E : DEnds) : List DV → Rho → Mh → Prop
  | [], ρ, μ => E.nx ρ μ
  | x :: xs, ρ, μ => g x ρ fun ρ1 => b { nx := forW g b E xs, rt := E.rt, bk := E.nx, ct := forW g b E xs } ρ1 μ
def wFor (ws : WI) (g : WG) (b : WS) : WS := fun E ρ μ => ws ρ μ fun xs μ1 => forW g b E xs ρ μ1
theorem drop_at {α : Type} {xs : List α} {i : Nat} {d : α} (h : xs[i]? = some d) : xs.drop i = d :: xs.drop (i + 1) := by
  obtain ⟨hi, e⟩ := List.getElem?_eq_some_iff.mp h
  rw [List.drop_eq_getElem_cons hi, e]
theorem ds_for {iter : Expr} {body : List Stmt} {ws : WI} {b : WS} (hi : PI X tg iter (tDI X.K ws)) (hg : PG X tg (tDG X.K sl g)) (hb : PSs X body (tDS X.K b)) (hp : PassesOwn (model X.prog X.w) X.A X.env X.xe := by exact PassesOwn.never) (hc : X.calm = true := by rfl)
    (hs : ∀ x, foldedSetIterable iter X.env x = pure x := by intro _; rfl) : PS X (.For tg iter body [] pos) (tDS X.K (wFor ws g b)) :=
  PS.imp (ps_for hp hc hi hg hb hs) fun D σ H ⟨R, ρ, μ, E, a, w, k⟩ => ⟨R, ρ, μ, _, a, w, fun xs μ1 H1 J p1 o1 s1 it => by
    refine ⟨fun i m σ' H' => m = xs.length - i ∧ i ≤ xs.length ∧ ∃ ρ' μ', At X.K R σ' ρ' μ' H' ∧ Same (hid R μ1 H1) (hid R μ' H') ∧ forW g b E (xs.drop i) ρ' μ', ⟨_, rfl, Nat.zero_le _, ρ, μ1, a.step o1 s1, Same.refl _, p1⟩, ?_⟩
    rintro i m σ2 H2 ⟨rfl, hi, ρ2, μ2, a2, s2, w2⟩
    by_cases hlt : i < xs.length
    · refine .inr ⟨it.go R μ2 H2 i a2.ok s2 hlt, fun σ' H' => ∃ ρ' μ', At X.K R σ' ρ' μ' H' ∧ Same (hid R μ1 H1) (hid R μ' H') ∧ forW g b E (xs.drop (i + 1)) ρ' μ', fun σ' H' ⟨ρ', μ', a', s', w'⟩ => ⟨_, ?_, rfl, hlt, ρ', μ', a', s', w'⟩, fun x H3 y => ?_⟩
      · omega
      · obtain ⟨d, hd, o3, s3, r3⟩ := it.yld R μ2 H2 i x H3 a2.ok s2 y hlt
        rw [drop_at hd] at w2
        refine ⟨R, ρ2, μ2, d, _, a2.step o3 s3, r3, w2, fun ρ4 σ4 w4 sl4 _ => ⟨R, ρ4, μ2, _, ⟨o3, sl4⟩, w4, ⟨fun ρ5 μ5 σ5 H5 p5 a5 s5 => ⟨ρ5, μ5, a5, (s2.trans s3).trans s5, p5⟩, ?_, ?_, fun ρ5 μ5 σ5 H5 p5 a5 s5 => ⟨ρ5, μ5, a5, (s2.trans s3).trans s5, p5⟩⟩⟩⟩
        · exact k.rt.step ((s1.trans s2).trans s3)
        · exact k.nx.step ((s1.trans s2).trans s3)
    · have e : i = xs.length := by omega
      subst e
      rw [List.drop_length] at w2
      exact .inl ⟨it.stop R μ2 H2 _ a2.ok s2 (Nat.le_refl _), k.nx ρ2 μ2 σ2 H2 w2 a2 (s1.trans s2)⟩⟩
def wWhile (c : WT) (b : WS) : WS := fun E ρ μ => ∃ W : Nat → Rho → Mh → Prop, (∃ m, W m ρ μ) ∧ ∀ m ρ μ, W m ρ μ → c ρ μ fun z μ1 => match z with
  | true => b { nx := fun ρ' μ' => ∃ m', m' < m ∧ W m' ρ' μ', rt := E.rt, bk := E.nx, ct := fun ρ' μ' => ∃ m', m' < m ∧ W m' ρ' μ' } ρ μ1
  | false => E.nx ρ μ1
theorem ds_while {c : Expr} {body : List Stmt} {tc : WT} {b : WS} (hc : PT X c (tDT X.K tc)) (hb : PSs X body (tDS X.K b)) (hp : PassesOwn (model X.prog X.w) X.A X.env X.xe := by exact PassesOwn.never) : PS X (.While c body [] pos) (tDS X.K (wWhile tc b)) :=
  PS.imp (ps_while hp hc hb) fun D σ H ⟨R, ρ, μ, E, a, ⟨W, ⟨m0, w0⟩, w⟩, k⟩ => by
    refine ⟨fun m σ' H' => ∃ ρ' μ', At X.K R σ' ρ' μ' H' ∧ Same (hid R μ H) (hid R μ' H') ∧ W m ρ' μ', ⟨m0, ρ, μ, a, Same.refl _, w0⟩, ?_⟩
    rintro m σ1 H1 ⟨ρ1, μ1, a1, s1, w1⟩
    refine ⟨R, ρ1, μ1, _, a1, w m ρ1 μ1 w1, fun z μ2 H2 p2 o2 s2 => ?_⟩
    cases z with
    | true =>
      refine ⟨fun σ' H' => ∃ m', m' < m ∧ ∃ ρ' μ', At X.K R σ' ρ' μ' H' ∧ Same (hid R μ H) (hid R μ' H') ∧ W m' ρ' μ', fun σ' H' h => h, R, ρ1, μ2, _, a1.step o2 s2, p2, ⟨?_, k.rt.step (s1.trans s2), k.nx.step (s1.trans s2), ?_⟩⟩
      · rintro ρ3 μ3 σ3 H3 ⟨m', hm, w3⟩ a3 s3
        exact ⟨m', hm, ρ3, μ3, a3, (s1.trans s2).trans s3, w3⟩
      · rintro ρ3 μ3 σ3 H3 ⟨m', hm, w3⟩ a3 s3
        exact ⟨m', hm, ρ3, μ3, a3, (s1.trans s2).trans s3, w3⟩
    | false => exact k.nx ρ1 μ2 σ1 H2 p2 (a1.step o2 s2) (s1.trans s2)
end

/-! ### comprehensions -/
def compW (g : WG) (t : WT) (e : WE) (ρ : Rho) : List DV → List DV → Mh → (List DV → Mh → Prop) → Prop
  | [], acc, μ, P => P acc μ
  | x :: xs, acc, μ, P => g x ρ fun ρ1 => t ρ1 μ fun b μ1 => match b with
    | true => e ρ1 μ1 fun y μ2 => acc.length < sizeLine ∧ compW g t e ρ xs (acc ++ [y]) μ2 P
    | false => compW g t e ρ xs acc μ1 P
def wLc (ws : WI) (g : WG) (t : WT) (e : WE) (vs : List Nat) : WE := fun ρ μ P => ws ρ μ fun xs μ1 => compW g t e (wipeD ρ vs) xs [] μ1 fun acc μ2 => P (.lst acc) μ2
section
variable {K : PySem.W.Frag} {R : Hp} {μ μ' : Mh} {H H' : Hp} {D : Addr} {o o' : HO}
/-- a thing set aside -/
theorem Ok.frame (k : Ok K R μ H) (n : H D = none) : Ok K (upd R D o) μ (upd H D o) ∧ hid (upd R D o) μ (upd H D o) = hid R μ H := by
  have k2 := k.new (o := o) n
  have e : hid (upd R D o) μ (upd H D o) = hid R μ H := by
    funext b
    by_cases z : b = D
    · subst z
      have h1 : hid (upd R b o) μ (upd H b o) b = none := by
        unfold hid
        rw [if_neg fun q => by rw [upd_same] at q; exact Bool.false_ne_true q.1]
      have h2 : hid R μ H b = none := by
        unfold hid
        rw [n]
        split <;> rfl
      rw [h1, h2]
    · unfold hid
      rw [upd_ne z, upd_ne z]
  refine ⟨⟨fun a u h => ?_, fun a u h => ?_, fun a u h => ?_⟩, e⟩
  · by_cases z : a = D
    · subst z
      rw [upd_same] at h ⊢
      exact h
    · rw [upd_ne z] at h ⊢
      exact k.fr a u h
  · by_cases z : a = D
    · subst z
      exact k.freeM n
    · rw [upd_ne z] at h
      exact k.dj a u h
  · have := k2.ob a u h
    rw [e]
    refine MOk.mono ?_ rfl (fun _ _ => rfl) h (fun _ q => q) ?_ (Hm := hid R μ H) (μ := μ) (H := upd H D o)
    · exact Same.refl _
    · have ne : ∀ {b u}, H b = some u → b ≠ D := fun q z => by subst z; rw [n] at q; cases q
      obtain ⟨w, hw⟩ := (k.ob a u h).here
      refine (k.ob a u h).mono (Same.refl _) (upd_ne (ne hw)) (fun b hb => ?_) h (fun _ z => z)
      rw [h] at hb
      cases u with
      | ext near φ =>
        obtain ⟨_, _, hn, _⟩ := k.ob a _ h
        obtain ⟨v, hv⟩ := (k.ob b _ (hn b hb)).here
        exact upd_ne (ne hv)
      | _ => cases hb
/-- what was set aside changes -/
theorem Ok.reframe (k : Ok K (upd R D o) μ H) : Ok K (upd R D o') μ (upd H D o') ∧ hid (upd R D o') μ (upd H D o') = hid (upd R D o) μ H := by
  have hm : μ D = none := k.dj D o upd_same
  have hH : H D = some o := k.fr D o upd_same
  have e : hid (upd R D o') μ (upd H D o') = hid (upd R D o) μ H := by
    funext b
    by_cases z : b = D
    · subst z
      have h1 : ∀ (u : HO) (G : Hp), hid (upd R b u) μ G b = none := fun u G => by
        unfold hid
        rw [if_neg fun q => by rw [upd_same] at q; exact Bool.false_ne_true q.1]
      rw [h1, h1]
    · unfold hid
      rw [upd_ne z, upd_ne z, upd_ne z]
  refine ⟨⟨fun a u h => ?_, fun a u h => ?_, fun a u h => ?_⟩, e⟩
  · by_cases z : a = D
    · subst z
      rw [upd_same] at h ⊢
      exact h
    · rw [upd_ne z] at h ⊢
      exact k.fr a u (by rw [upd_ne z]; exact h)
  · by_cases z : a = D
    · subst z
      exact hm
    · rw [upd_ne z] at h
      exact k.dj a u (by rw [upd_ne z]; exact h)
  · rw [e]
    have ne : ∀ {b m}, μ b = some m → b ≠ D := fun q z => by subst z; rw [hm] at q; cases q
    refine (k.ob a u h).mono (Same.refl _) (upd_ne (ne h)) (fun b hb => ?_) h (fun _ z => z)
    rw [h] at hb
    cases u with
    | ext near φ =>
      obtain ⟨_, _, hn, _⟩ := k.ob a _ h
      exact upd_ne (ne (hn b hb))
    | _ => cases hb
/-- what was set aside is let go -/
theorem Ok.unframe (k : Ok K (upd R D o) μ H) (n : R D = none) : Ok K R μ H ∧ Same (hid (upd R D o) μ H) (hid R μ H) ∧ hid R μ H D = some o := by
  have hm : μ D = none := k.dj D o upd_same
  have hH : H D = some o := k.fr D o upd_same
  have s : Same (hid (upd R D o) μ H) (hid R μ H) := fun b u h => by
    obtain ⟨e1, e2, e3⟩ := hid_some h
    by_cases z : b = D
    · subst z
      rw [upd_same] at e1
      cases e1
    · rw [upd_ne z] at e1
      rw [hid_at e1 e2]
      exact e3
  refine ⟨⟨fun a u h => ?_, fun a u h => ?_, fun a u h => (k.ob a u h).mono s rfl (fun _ _ => rfl) h (fun _ z => z)⟩, s, by rw [hid_at n hm]; exact hH⟩
  · refine k.fr a u ?_
    rw [upd_ne (fun z => by subst z; rw [n] at h; cases h)]
    exact h
  · refine k.dj a u ?_
    rw [upd_ne (fun z => by subst z; rw [n] at h; cases h)]
    exact h
end
section
variable {X : Cx} {elt tg iter : Expr} {ifs : List Expr} {scope : Scope} {own : List (Str × Nat)} {pos : Pos} {ws : WI} {g : WG} {t : WT} {e : WE} {sl : List Nat}
theorem lc_imp {K : PySem.W.Frag} {vs : List Nat} (hv : ∀ i ∈ sl, i ∈ vs) : ∀ σ H Q, tD K (wLc ws g t e vs) σ H Q → tLc (tDI K ws) (tDG K sl g) (tDT K t) (tD K e) vs σ H Q := fun σ H Q ⟨R, ρ, μ, P, a, w, k⟩ =>
  ⟨R, ρ, μ, _, a, w, fun xs μ1 H1 J p1 o1 s1 it => fun D n => by
    have rn := o1.freeR n
    refine ⟨fun i m H' => m = xs.length - i ∧ i ≤ xs.length ∧ ∃ μ' acc accV, Ok K (upd R D (.lst accV)) μ' H' ∧ Same (hid R μ1 H1) (hid (upd R D (.lst accV)) μ' H') ∧ Iss K (hid (upd R D (.lst accV)) μ' H') accV acc ∧
      compW g t e (wipeD ρ vs) (xs.drop i) acc μ' fun acc μ2 => P (.lst acc) μ2, ?_, ?_⟩
    · obtain ⟨o2, e2⟩ := o1.frame (o := .lst []) n
      exact ⟨_, rfl, Nat.zero_le _, μ1, [], [], o2, by rw [e2]; exact Same.refl _, .nil, p1⟩
    rintro i m H2 ⟨rfl, hi, μ2, acc, accV, o2, s2, r2, w2⟩
    by_cases hlt : i < xs.length
    · refine .inr ⟨it.go _ μ2 H2 i o2 s2 hlt, fun H' => ∃ μ' acc accV, Ok K (upd R D (.lst accV)) μ' H' ∧ Same (hid R μ1 H1) (hid (upd R D (.lst accV)) μ' H') ∧ Iss K (hid (upd R D (.lst accV)) μ' H') accV acc ∧
        compW g t e (wipeD ρ vs) (xs.drop (i + 1)) acc μ' fun acc μ2 => P (.lst acc) μ2, fun H' ⟨μ', acc', accV', o', s', r', w'⟩ => ⟨_, ?_, rfl, hlt, μ', acc', accV', o', s', r', w'⟩, fun x H3 y => ?_⟩
      · omega
      · obtain ⟨d, hd, o3, s3, r3⟩ := it.yld _ μ2 H2 i x H3 o2 s2 y hlt
        rw [drop_at hd] at w2
        have sl3 : Sl K (hid (upd R D (.lst accV)) μ2 H3) (wipe σ vs) (wipeD ρ vs) := (a.sl.mono ((s1.trans s2).trans s3)).wipe vs
        refine ⟨_, wipeD ρ vs, μ2, d, _, ⟨o3, sl3⟩, r3, w2, fun ρ4 σ4 w4 sl4 ww => ⟨by rw [ww vs hv, wipe_wipe], _, ρ4, μ2, _, ⟨o3, sl4⟩, w4, fun b μ5 H5 p5 o5 s5 => ?_⟩⟩
        cases b with
        | false => exact iteF ⟨μ5, acc, accV, o5, (s2.trans s3).trans s5, r2.mono (s3.trans s5), p5⟩
        | true =>
          refine iteT ⟨_, ρ4, μ5, _, ⟨o5, sl4.mono s5⟩, p5, fun y μ6 v H6 p6 o6 s6 r6 => ⟨accV, o6.fr D _ upd_same, ?_, ?_⟩⟩
          · rw [r2.length]
            exact p6.1
          · obtain ⟨o7, e7⟩ := o6.reframe (o' := .lst (accV ++ [v]))
            refine ⟨μ6, acc ++ [y], accV ++ [v], o7, ?_, ?_, p6.2⟩
            · rw [e7]
              exact ((s2.trans s3).trans s5).trans s6
            · rw [e7]
              exact (r2.mono ((s3.trans s5).trans s6)).append (.cons r6 .nil)
    · have e' : i = xs.length := by omega
      subst e'
      rw [List.drop_length] at w2
      obtain ⟨o4, s4, h4⟩ := o2.unframe rn
      exact .inl ⟨it.stop _ μ2 H2 _ o2 s2 (Nat.le_refl _), k _ μ2 _ H2 w2 o4 (s1.trans (s2.trans s4)) (.lst h4 (r2.mono s4))⟩⟩
def wYes : WT := fun _ μ P => P true μ
theorem PTs.imp {X : Cx} {es : List Expr} {t t' : TT} (h : PTs X es t) (i : ∀ σ H Q, t' σ H Q → t σ H Q) : PTs X es t' := ⟨fun pins s σ H Q I w => h.run pins s σ H Q I (i _ _ _ w)⟩
theorem dts_nil : PTs X [] (tDT X.K wYes) := PTs.imp pts_nil fun σ H Q ⟨R, ρ, μ, P, a, w, k⟩ => k true μ H w a.ok (Same.refl _)
theorem dts_one {c : Expr} {t : WT} (h : PT X c (tDT X.K t)) : PTs X [c] (tDT X.K t) := pts_one h
theorem d_lc (hi : PI X tg iter (tDI X.K ws)) (ok : BlkOk X.N X.env.scope scope own)
    (hg : ∀ (s : Shared) (H : Hp) (C : Addr) (cl : List (Str × Addr)) (fp : List Addr), PG (X.blk s H scope (compEnvC scope cl C X.env) fp) tg (tDG X.K sl g)) (ht : ∀ (s : Shared) (H : Hp) (C : Addr) (cl : List (Str × Addr)) (fp : List Addr), PTs (X.blk s H scope (compEnvC scope cl C X.env) fp) ifs (tDT X.K t))
    (he : ∀ (s : Shared) (H : Hp) (C : Addr) (cl : List (Str × Addr)) (fp : List Addr), PE (X.blk s H scope (compEnvC scope cl C X.env) fp) elt (tD X.K e)) (hN : X.N.Nodup) (hv : ∀ i ∈ sl, i ∈ own.map (·.2) := by decide) (hc : X.calm = true := by rfl) (hs : ∀ x, foldedSetIterable iter X.env x = pure x := by intro _; rfl) :
    PE X (.ListComp elt [⟨tg, iter, ifs, 0⟩] scope pos) (tD X.K (wLc ws g t e (own.map (·.2)))) := PE.imp (pe_lc hc hN hi ok hg ht he hs) (lc_imp hv)
theorem ds_setLc {i : Nat} {y : Str} {py spos : Pos} (hy : X.N[i]? = some y) (hyl : X.env.scope.names.lookup y = some .local) (hsw : swapsWith (.ListComp elt [⟨tg, iter, ifs, 0⟩] scope pos) (some (.Name y py)) spos.line X.env = pure true) (hi : PI X tg iter (tDI X.K ws)) (ok : BlkOk X.N X.env.scope scope own)
    (hg : ∀ (s : Shared) (H : Hp) (C : Addr) (cl : List (Str × Addr)) (fp : List Addr), PG (X.blk s H scope (compEnvC scope cl C X.env) fp) tg (tDG X.K sl g)) (ht : ∀ (s : Shared) (H : Hp) (C : Addr) (cl : List (Str × Addr)) (fp : List Addr), PTs (X.blk s H scope (compEnvC scope cl C X.env) fp) ifs (tDT X.K t))
    (he : ∀ (s : Shared) (H : Hp) (C : Addr) (cl : List (Str × Addr)) (fp : List Addr), PE (X.blk s H scope (compEnvC scope cl C X.env) fp) elt (tD X.K e)) (hN : X.N.Nodup) (hv : ∀ i ∈ sl, i ∈ own.map (·.2) := by decide) (hc : X.calm = true := by rfl) (hs : ∀ x, foldedSetIterable iter X.env x = pure x := by intro _; rfl) :
    PS X (.Assign [.Name y py] (.ListComp elt [⟨tg, iter, ifs, 0⟩] scope pos) spos) (tDS X.K (wAsg (wLc ws g t e (own.map (·.2))) (wgName i))) :=
  PS.imp (ps_setLc hc hN hy hyl hsw hi ok hg ht he hs) fun D σ H ⟨R, ρ, μ, E, a, w, k⟩ => lc_imp hv σ H _ ⟨R, ρ, μ, _, a, w, fun d μ1 v H1 p1 o1 s1 i1 => k.nx _ μ1 _ H1 p1 ⟨o1, (a.sl.mono s1).set i i1⟩ s1⟩
end

/-! ### defs and their calls -/
section
variable {P : Program} {w0 : World} {K : PySem.W.Frag} {mg : Str → Option Value} {base : Heap}
theorem fn_dat {x qual : Str} {st : Stmt} {f : Addr} {fd : FuncData} {N ps : List Str} {k n : Nat} {w : WS} {wf : WF} (F : Fun K x qual st f fd) (S : FnScope N ps (defScope st)) (hn : ps.length = n)
    (hb : ∀ (cdv : Value) (A : Around) (outer : List Env) (s : Shared) (H : Hp) (E : XK), A.guards = some [] → Room k (A.deeper (envOfC qual (defScope st) s.heap.objs.size f cdv)) →
      PSs (cxOf CX0 P w0 K mg base N qual (defScope st) f cdv A outer s H E).nox (defBody st) (tDS K w))
    (hw : ∀ ds μ Q, ds.length = n → wf ds μ Q → w { nx := fun _ μ' => Q .none μ', rt := Q } (ds.map some ++ List.replicate (N.length - n) none) μ) : FnG P w0 K mg base (k + 1) f fd ps (spD K n wf) := by
  refine fng_of F S (fun vs H Q E h => ?_) (fun cdv A outer s H vs Q E hgd hr h => ?_)
  · obtain ⟨R, ds, μ, P', o, r, l, _⟩ := h
    rw [r.length, l, hn]
  · obtain ⟨R, ds, μ, P', o, r, l, w1, k1⟩ := h
    refine ⟨_, hb cdv A outer s H E hgd hr, R, _, μ, _, ⟨o, ?_⟩, hw ds μ P' l w1, ⟨fun ρ' μ' σ' H' p a' s' => ?_, k1, fun _ _ _ _ p => p.elim, fun _ _ _ _ p => p.elim⟩⟩
    · rw [← l]
      exact Sl.start r
    · exact k1 .none μ' .non H' p a'.ok s' .none
end
section
variable {X : Cx} {k n : Nat} {f : Addr} {fd : FuncData} {ps : List Str} {wf : WF} {x : Str} {p pos : Pos} {e : Expr} {es : List Expr} {wa wk : WA}
def wCall (n : Nat) (wf : WF) (wa : WA) : WE := fun ρ μ P => wa ρ μ fun ds μ1 => ds.length = n ∧ wf ds μ1 P
def wCallD (n : Nat) (wf : WF) (dds : List DV) (wa : WA) : WE := fun ρ μ P => wa ρ μ fun ds μ1 => (ds ++ dds).length = n ∧ wf (ds ++ dds) μ1 P
theorem call_imp {K : PySem.W.Frag} {dvs : List V} {dds : List DV} (hd : ∀ H, Iss K H dvs dds) : ∀ σ H Q, tD K (wCallD n wf dds wa) σ H Q → tCall (spD K n wf) dvs E0 (tDA K wa) σ H Q := fun σ H Q ⟨R, ρ, μ, P, a, w, k⟩ =>
  ⟨R, ρ, μ, _, a, w, fun ds μ1 vs H1 p1 o1 s1 i1 => ⟨R, ds ++ dds, μ1, P, o1, i1.append (hd _), p1.1, p1.2, k.step s1⟩⟩
/-- with the defaults of the last parameters -/
theorem d_callD {dvs : List V} {us : List Value} {dds : List DV} (hd : ∀ H, Iss X.K H dvs dds) (F : FnG X.prog X.w X.K X.mg X.base k f fd ps (spD X.K n wf)) (hgd : X.A.guards = some []) (hr : Room k X.A) (hg : Gl X x) (hm : X.mg x = some (.ref f)) (hk : PySem.W.keepIn X.K (.ref f) = true) (hb : Binds X.K fd ps us) (hv : Vals dvs us) (ha : PA X (e :: es) (tDA X.K wa))
    (hdb : (x == ("__debug__" : Str)) = false := by decide) (he : starEach (e :: es) X.env = (false, eval e X.env) :: starEach es X.env := by rfl) (hpl : (backTo pos (starEach es X.env)).any (·.1) = false := by rfl) :
    PE X (.Call (.Name x p) (e :: es) [] pos) (tD X.K (wCallD n wf dds wa)) :=
  PE.imp (peg_call F hgd hr hg hm hk hb hv ha hdb he hpl) (call_imp hd)
theorem d_call (F : FnG X.prog X.w X.K X.mg X.base k f fd ps (spD X.K n wf)) (hgd : X.A.guards = some []) (hr : Room k X.A) (hg : Gl X x) (hm : X.mg x = some (.ref f)) (hk : PySem.W.keepIn X.K (.ref f) = true) (hb : Binds X.K fd ps []) (ha : PA X (e :: es) (tDA X.K wa)) (hd : (x == ("__debug__" : Str)) = false := by decide)
    (he : starEach (e :: es) X.env = (false, eval e X.env) :: starEach es X.env := by rfl) (hpl : (backTo pos (starEach es X.env)).any (·.1) = false := by rfl) : PE X (.Call (.Name x p) (e :: es) [] pos) (tD X.K (wCall n wf wa)) :=
  PE.imp (d_callD (dvs := []) (dds := []) (fun _ => .nil) F hgd hr hg hm hk hb .nil ha hd he hpl) fun σ H Q ⟨R, ρ, μ, P, a, w, k⟩ => ⟨R, ρ, μ, P, a, by simpa [wCall, wCallD] using w, k⟩
theorem d_call0 (F : FnG X.prog X.w X.K X.mg X.base k f fd ps (spD X.K n wf)) (hgd : X.A.guards = some []) (hr : Room k X.A) (hg : Gl X x) (hm : X.mg x = some (.ref f)) (hk : PySem.W.keepIn X.K (.ref f) = true) (hb : Binds X.K fd ps []) (hd : (x == ("__debug__" : Str)) = false := by decide) : PE X (.Call (.Name x p) [] [] pos) (tD X.K (wCall n wf wNil)) :=
  PE.imp (peg_call0 (E := E0) F hgd hr hg hm hk hb .nil hd) fun σ H Q ⟨R, ρ, μ, P, a, w, k⟩ => ⟨R, [], μ, P, a.ok, .nil, w.1, w.2, k⟩
/-- keywords alone: gD puts them in the parameters' order -/
def wCallK (n : Nat) (wf : WF) (gD : List DV → List DV) (wk : WA) : WE := fun ρ μ P => wk ρ μ fun ds μ1 => (gD ds).length = n ∧ wf (gD ds) μ1 P
theorem d_callK0 {ks : List Str} {kws : List Keyword} {g : List Value → List Value → List Value} {gV : List V → List V → List V} (gD : List DV → List DV) (hg' : ∀ (K : PySem.W.Frag) (H : Hp) (vs : List V) (ds : List DV), Iss K H vs ds → Iss K H (gV [] vs) (gD ds))
    (F : FnG X.prog X.w X.K X.mg X.base k f fd ps (spD X.K n wf)) (hgd : X.A.guards = some []) (hr : Room k X.A) (hg : Gl X x) (hm : X.mg x = some (.ref f)) (hk : PySem.W.keepIn X.K (.ref f) = true) (hb : KBinds X.K fd ps ks g gV) (hkw : PK X kws (tDA X.K wk))
    (hall : (backToKw pos (keywordEach kws X.env)).all (·.1.isSome) = true := by rfl) (hks : (backToKw pos (keywordEach kws X.env)).filterMap (·.1) = ks := by rfl) (hdb : (x == ("__debug__" : Str)) = false := by decide)
    (hpl : ((backTo pos (starEach [] X.env)).any (·.1) || (backToKw pos (keywordEach kws X.env)).any (·.1.isNone)) = false := by rfl) : PE X (.Call (.Name x p) [] kws pos) (tD X.K (wCallK n wf gD wk)) :=
  PE.imp (peg_callK0 (E := E0) F hgd hr hg hm hk hb hkw hall hks hdb hpl) fun σ H Q ⟨R, ρ, μ, P, a, w, k⟩ => ⟨R, ρ, μ, _, a, w, fun ds μ1 vs H1 p1 o1 s1 i1 => ⟨R, gD ds, μ1, P, o1, hg' _ _ _ _ i1, p1.1, p1.2, k.step s1⟩⟩
end
end Dz

set_option Elab.async false
set_option linter.all false
set_option maxRecDepth 100000
set_option maxHeartbeats 4000000
/-! Dz5: calls of built-ins over data: len, isinstance, repr, abs, all, tuple, list, int, str, join; displays of dicts. -/
namespace Dz
open PySem L2
abbrev WB := List DV → Mh → (DV → Mh → Prop) → Prop
def RAD (K : PySem.W.Frag) (r : List V → Hp → VK → Prop) (w : WB) : Prop := ∀ R μ H vs ds P Q, Ok K R μ H → Iss K (hid R μ H) vs ds → w ds μ P → Nxt K R μ H P Q → r vs H Q
def wB (wb : WB) (wa : WA) : WE := fun ρ μ P => wa ρ μ fun ds μ1 => wb ds μ1 P
section
variable {X : Cx} {x : Str} {p pos : Pos} {e : Expr} {es : List Expr} {wa : WA} {id T : String} {r : List V → Hp → VK → Prop} {wb : WB} {w : WE}
theorem cb_imp {K : PySem.W.Frag} (hr : RAD K r wb) : ∀ σ H Q, tD K (wB wb wa) σ H Q → tCB r (tDA K wa) σ H Q := fun σ H Q ⟨R, ρ, μ, P, a, w, k⟩ =>
  ⟨R, ρ, μ, _, a, w, fun ds μ1 vs H1 p1 o1 s1 i1 => hr R μ1 H1 vs ds P Q o1 i1 p1 (k.step s1)⟩
theorem d_callB (hc : CallR X (.builtin id) r) (hr : RAD X.K r wb) (hg : Gl X x) (hm : X.mg x = none) (hv : bootBuiltins x = some (.builtin id)) (ha : PA X (e :: es) (tDA X.K wa)) (hn : x ≠ "__name__" := by decide) (hdb : (x == ("__debug__" : Str)) = false := by decide)
    (he : starEach (e :: es) X.env = (false, eval e X.env) :: starEach es X.env := by rfl) (hpl : (backTo pos (starEach es X.env)).any (·.1) = false := by rfl) : PE X (.Call (.Name x p) (e :: es) [] pos) (tD X.K (wB wb wa)) :=
  PE.imp (pe_callB hc hg hm hv ha hn hdb he hpl) (cb_imp hr)
theorem d_callTy (hc : CallR X (.type T) r) (hr : RAD X.K r wb) (hg : Gl X x) (hm : X.mg x = none) (hv : bootBuiltins x = some (.type T)) (ha : PA X (e :: es) (tDA X.K wa)) (hn : x ≠ "__name__" := by decide) (hdb : (x == ("__debug__" : Str)) = false := by decide)
    (he : starEach (e :: es) X.env = (false, eval e X.env) :: starEach es X.env := by rfl) (hpl : (backTo pos (starEach es X.env)).any (·.1) = false := by rfl) : PE X (.Call (.Name x p) (e :: es) [] pos) (tD X.K (wB wb wa)) :=
  PE.imp (pe_callTy hc hg hm hv ha hn hdb he hpl) (cb_imp hr)
end

/-! ### len, abs, all, any, tuple, list, int -/
def wLen : WB
  | [.lst ds], μ, P => P (.int (ds.length : Int)) μ
  | [.tup ds], μ, P => P (.int (ds.length : Int)) μ
  | [.str z], μ, P => z.length ≤ sizeLine ∧ P (.int (z.length : Int)) μ
  | [.obj a], μ, P => match μ a with | some (.lst ds) => P (.int (ds.length : Int)) μ | _ => False
  | _, _, _ => False
def wAbs : WB
  | [.int i], μ, P => P (.int (if i < 0 then -i else i)) μ
  | _, _, _ => False
def wAll : WB
  | [.lst ds], μ, P => ∃ bs : List Bool, ds = bs.map DV.bool ∧ P (.bool (bs.all id)) μ
  | _, _, _ => False
def wAny : WB
  | [.lst ds], μ, P => ∃ bs : List Bool, ds = bs.map DV.bool ∧ P (.bool (bs.any id)) μ
  | _, _, _ => False
def wTuple : WB
  | [.lst ds], μ, P => P (.tup ds) μ
  | [.tup ds], μ, P => P (.tup ds) μ
  | [.obj a], μ, P => match μ a with | some (.lst ds) => P (.tup ds) μ | _ => False
  | _, _, _ => False
def wList : WB
  | [.lst ds], μ, P => P (.lst ds) μ
  | [.tup ds], μ, P => P (.lst ds) μ
  | [.obj a], μ, P => match μ a with | some (.lst ds) => P (.lst ds) μ | _ => False
  | _, _, _ => False
def wInt1 : WB
  | [.int i], μ, P => P (.int i) μ
  | [.bool b], μ, P => P (.int (if b then 1 else 0)) μ
  | _, _, _ => False
def wStrI : WB
  | [.int i], μ, P => i.natAbs.log2 < 1920 ∧ P (.str (toString i)) μ
  | _, _, _ => False
def wMax2 : WB
  | [.int i, .int j], μ, P => P (.int (if j > i then j else i)) μ
  | _, _, _ => False
def wMin2 : WB
  | [.int i, .int j], μ, P => P (.int (if j < i then j else i)) μ
  | _, _, _ => False
def wMaxL : WB
  | [.lst ds], μ, P => ∃ ns : List Int, ds = ns.map DV.int ∧ 0 < ns.length ∧ ∀ m, m ∈ ns → (∀ y, y ∈ ns → y ≤ m) → P (.int m) μ
  | _, _, _ => False
def wMinL : WB
  | [.lst ds], μ, P => ∃ ns : List Int, ds = ns.map DV.int ∧ 0 < ns.length ∧ ∀ m, m ∈ ns → (∀ y, y ∈ ns → m ≤ y) → P (.int m) μ
  | _, _, _ => False
section
variable {K : PySem.W.Frag} {X : Cx}
theorem Iss.one {H : Hp} {vs : List V} {d : DV} (h : Iss K H vs [d]) : ∃ v, vs = [v] ∧ Is K H v d := by
  cases h with
  | cons a b => cases b; exact ⟨_, rfl, a⟩
theorem Iss.two {H : Hp} {vs : List V} {d e : DV} (h : Iss K H vs [d, e]) : ∃ v u, vs = [v, u] ∧ Is K H v d ∧ Is K H u e := by
  cases h with
  | cons a b => cases b with
    | cons c d => cases d; exact ⟨_, _, rfl, a, c⟩
theorem len_rd : RAD K (fun xs H Q => ∃ x n, xs = [x] ∧ LenV K x H n ∧ Q (.int n) H) wLen := by
  intro R μ H vs ds P Q o i w k
  match ds, w with
  | [.lst ds], w =>
    obtain ⟨v, rfl, i1⟩ := i.one
    cases i1 with | lst hx rx => exact ⟨_, _, rfl, .inl ⟨_, SqL.of (hid_le _ _ hx), rfl⟩, by rw [rx.length]; exact k.val o w (.int _)⟩
  | [.tup ds], w =>
    obtain ⟨v, rfl, i1⟩ := i.one
    cases i1 with | tup hx rx => exact ⟨_, _, rfl, .inr ⟨_, Same.seqT hid_le hx, rfl⟩, by rw [rx.length]; exact k.val o w (.int _)⟩
  | [.str z], w =>
    obtain ⟨v, rfl, i1⟩ := i.one
    cases i1 with | str z => exact ⟨_, _, rfl, ⟨w.1, rfl⟩, k.val o w.2 (.int _)⟩
  | [.obj a], w =>
    obtain ⟨v, rfl, i1⟩ := i.one
    have w' : (match μ a with | some (.lst ds) => P (.int (ds.length : Int)) μ | _ => False) := w
    split at w'
    · rename_i ds e
      obtain ⟨xs, h1, r⟩ := o.ob a _ e
      cases i1
      exact ⟨_, _, rfl, .inl ⟨_, SqL.of h1, rfl⟩, by rw [r.length]; exact k.val o w' (.int _)⟩
    · exact w'.elim
theorem abs_rd : RAD K (fun xs H Q => ∃ i, xs = [.int i] ∧ Q (.int (if i < 0 then -i else i)) H) wAbs := by
  intro R μ H vs ds P Q o i w k
  match ds, w with
  | [.int j], w =>
    obtain ⟨v, rfl, i1⟩ := i.one
    cases i1
    exact ⟨j, rfl, k.val o w (.int _)⟩
theorem bools_of {H : Hp} : ∀ {vs : List V} {bs : List Bool}, Iss K H vs (bs.map DV.bool) → vs = bs.map V.bl
  | _, [], h => by cases h; rfl
  | _, b :: bs, h => by
    cases h with
    | cons a r =>
      cases a
      rw [List.map_cons, bools_of r]
theorem nums_of {H : Hp} : ∀ {vs : List V} {ns : List Int}, Iss K H vs (ns.map DV.int) → vs = ns.map V.int
  | _, [], h => by cases h; rfl
  | _, b :: bs, h => by
    cases h with
    | cons a r =>
      cases a
      rw [List.map_cons, nums_of r]
theorem texts_of {H : Hp} : ∀ {vs : List V} {ns : List Str}, Iss K H vs (ns.map DV.str) → vs = ns.map V.str
  | _, [], h => by cases h; rfl
  | _, b :: bs, h => by
    cases h with
    | cons a r =>
      cases a
      rw [List.map_cons, texts_of r]
theorem texts_is {H : Hp} : ∀ ns : List Str, Iss K H (ns.map V.str) (ns.map DV.str)
  | [] => .nil
  | _ :: ns => .cons (.str _) (texts_is ns)
theorem nums_is {H : Hp} : ∀ ns : List Int, Iss K H (ns.map V.int) (ns.map DV.int)
  | [] => .nil
  | _ :: ns => .cons (.int _) (nums_is ns)
theorem all_rd : RAD K (rAll K) wAll := by
  intro R μ H vs ds P Q o i w k
  match ds, w with
  | [.lst ds], ⟨bs, e, w⟩ =>
    subst e
    obtain ⟨v, rfl, i1⟩ := i.one
    cases i1 with | lst hx rx => exact ⟨_, bs, rfl, by rw [← bools_of rx]; exact SqL.of (hid_le _ _ hx), k.val o w (.bool _)⟩
theorem any_rd : RAD K (rAny K) wAny := by
  intro R μ H vs ds P Q o i w k
  match ds, w with
  | [.lst ds], ⟨bs, e, w⟩ =>
    subst e
    obtain ⟨v, rfl, i1⟩ := i.one
    cases i1 with | lst hx rx => exact ⟨_, bs, rfl, by rw [← bools_of rx]; exact SqL.of (hid_le _ _ hx), k.val o w (.bool _)⟩
theorem tuple_rd : RAD K (fun xs H Q => ∃ p ys, xs = [.ref p] ∧ ((SqL K H p ys ∧ ∀ l, H l = none → Q (.ref l) (upd H l (.tup ys))) ∨ (SqT K H p ys ∧ Q (.ref p) H))) wTuple := by
  intro R μ H vs ds P Q o i w k
  match ds, w with
  | [.lst ds], w =>
    obtain ⟨v, rfl, i1⟩ := i.one
    cases i1 with | lst hx rx => exact ⟨_, _, rfl, .inl ⟨SqL.of (hid_le _ _ hx), fun l n => k.tup o w rx n⟩⟩
  | [.tup ds], w =>
    obtain ⟨v, rfl, i1⟩ := i.one
    cases i1 with | tup hx rx => exact ⟨_, _, rfl, .inr ⟨Same.seqT hid_le hx, k.val o w (.tup hx rx)⟩⟩
  | [.obj a], w =>
    obtain ⟨v, rfl, i1⟩ := i.one
    have w' : (match μ a with | some (.lst ds) => P (.tup ds) μ | _ => False) := w
    split at w'
    · rename_i ds e
      obtain ⟨xs, h1, r⟩ := o.ob a _ e
      cases i1
      exact ⟨_, _, rfl, .inl ⟨SqL.of h1, fun l n => k.tup o w' r n⟩⟩
    · exact w'.elim
theorem list_rd : RAD K (fun xs H Q => ∃ p ys, xs = [.ref p] ∧ (SqL K H p ys ∨ SqT K H p ys) ∧ ∀ l, H l = none → Q (.ref l) (upd H l (.lst ys))) wList := by
  intro R μ H vs ds P Q o i w k
  match ds, w with
  | [.lst ds], w =>
    obtain ⟨v, rfl, i1⟩ := i.one
    cases i1 with | lst hx rx => exact ⟨_, _, rfl, .inl (SqL.of (hid_le _ _ hx)), fun l n => k.lst o w rx n⟩
  | [.tup ds], w =>
    obtain ⟨v, rfl, i1⟩ := i.one
    cases i1 with | tup hx rx => exact ⟨_, _, rfl, .inr (Same.seqT hid_le hx), fun l n => k.lst o w rx n⟩
  | [.obj a], w =>
    obtain ⟨v, rfl, i1⟩ := i.one
    have w' : (match μ a with | some (.lst ds) => P (.lst ds) μ | _ => False) := w
    split at w'
    · rename_i ds e
      obtain ⟨xs, h1, r⟩ := o.ob a _ e
      cases i1
      exact ⟨_, _, rfl, .inl (SqL.of h1), fun l n => k.lst o w' r n⟩
    · exact w'.elim
theorem int1_rd : RAD K (fun xs H Q => (∃ i, xs = [.int i] ∧ Q (.int i) H) ∨ ∃ k, xs = [.bl k] ∧ Q (.int (if k then 1 else 0)) H) wInt1 := by
  intro R μ H vs ds P Q o i w k
  match ds, w with
  | [.int j], w =>
    obtain ⟨v, rfl, i1⟩ := i.one
    cases i1
    exact .inl ⟨j, rfl, k.val o w (.int _)⟩
  | [.bool b], w =>
    obtain ⟨v, rfl, i1⟩ := i.one
    cases i1
    exact .inr ⟨b, rfl, k.val o w (.int _)⟩
theorem strI_rd : RAD K (fun xs H Q => ∃ i, xs = [.int i] ∧ i.natAbs.log2 < 1920 ∧ Q (.str (toString i)) H) wStrI := by
  intro R μ H vs ds P Q o i w k
  match ds, w with
  | [.int j], w =>
    obtain ⟨v, rfl, i1⟩ := i.one
    cases i1
    exact ⟨j, rfl, w.1, k.val o w.2 (.str _)⟩
theorem max2_rd : RAD K (fun xs H Q => ∃ i j, xs = [.int i, .int j] ∧ Q (.int (if j > i then j else i)) H) wMax2 := by
  intro R μ H vs ds P Q o i w k
  match ds, w with
  | [.int a, .int b], w =>
    obtain ⟨v, u, rfl, i1, j1⟩ := i.two
    cases i1
    cases j1
    exact ⟨a, b, rfl, k.val o w (.int _)⟩
theorem min2_rd : RAD K (fun xs H Q => ∃ i j, xs = [.int i, .int j] ∧ Q (.int (if j < i then j else i)) H) wMin2 := by
  intro R μ H vs ds P Q o i w k
  match ds, w with
  | [.int a, .int b], w =>
    obtain ⟨v, u, rfl, i1, j1⟩ := i.two
    cases i1
    cases j1
    exact ⟨a, b, rfl, k.val o w (.int _)⟩
theorem maxL_rd : RAD K (rMax K) wMaxL := by
  intro R μ H vs ds P Q o i w k
  match ds, w with
  | [.lst ds], ⟨ns, e, h, w⟩ =>
    subst e
    obtain ⟨v, rfl, i1⟩ := i.one
    cases i1 with | lst hx rx => exact ⟨_, ns, rfl, by rw [← nums_of rx]; exact SqL.of (hid_le _ _ hx), h, fun m hm hl => k.val o (w m hm hl) (.int _)⟩
theorem minL_rd : RAD K (rMin K) wMinL := by
  intro R μ H vs ds P Q o i w k
  match ds, w with
  | [.lst ds], ⟨ns, e, h, w⟩ =>
    subst e
    obtain ⟨v, rfl, i1⟩ := i.one
    cases i1 with | lst hx rx => exact ⟨_, ns, rfl, by rw [← nums_of rx]; exact SqL.of (hid_le _ _ hx), h, fun m hm hl => k.val o (w m hm hl) (.int _)⟩
variable {e a b : Expr} {es : List Expr} {wa : WA} {w wx wy : WE} {p pos : Pos}
theorem d_len (hg : Gl X "len") (hm : X.mg "len" = none) (ha : PE X e (tD X.K w)) (hs : starEach [e] X.env = [(false, eval e X.env)] := by rfl) : PE X (.Call (.Name "len" p) [e] [] pos) (tD X.K (wB wLen (wCons w wNil))) :=
  d_callB call_len len_rd hg hm PySem.boot_len (da_cons ha da_nil hs) (by decide) (by decide) hs rfl
theorem d_abs (hg : Gl X "abs") (hm : X.mg "abs" = none) (ha : PE X e (tD X.K w)) (hs : starEach [e] X.env = [(false, eval e X.env)] := by rfl) : PE X (.Call (.Name "abs" p) [e] [] pos) (tD X.K (wB wAbs (wCons w wNil))) :=
  d_callB call_abs abs_rd hg hm (by decide +kernel) (da_cons ha da_nil hs) (by decide) (by decide) hs rfl
theorem d_all (hg : Gl X "all") (hm : X.mg "all" = none) (ha : PE X e (tD X.K w)) (hc : X.calm = true := by rfl) (hs : starEach [e] X.env = [(false, eval e X.env)] := by rfl) : PE X (.Call (.Name "all" p) [e] [] pos) (tD X.K (wB wAll (wCons w wNil))) :=
  d_callB (cr_all hc) all_rd hg hm (by decide +kernel) (da_cons ha da_nil hs) (by decide) (by decide) hs rfl
theorem d_any (hg : Gl X "any") (hm : X.mg "any" = none) (ha : PE X e (tD X.K w)) (hc : X.calm = true := by rfl) (hs : starEach [e] X.env = [(false, eval e X.env)] := by rfl) : PE X (.Call (.Name "any" p) [e] [] pos) (tD X.K (wB wAny (wCons w wNil))) :=
  d_callB (cr_any hc) any_rd hg hm (by decide +kernel) (da_cons ha da_nil hs) (by decide) (by decide) hs rfl
theorem d_tuple (hg : Gl X "tuple") (hm : X.mg "tuple" = none) (ha : PE X e (tD X.K w)) (hs : starEach [e] X.env = [(false, eval e X.env)] := by rfl) : PE X (.Call (.Name "tuple" p) [e] [] pos) (tD X.K (wB wTuple (wCons w wNil))) :=
  d_callTy call_tuple_of tuple_rd hg hm (by decide +kernel) (da_cons ha da_nil hs) (by decide) (by decide) hs rfl
theorem d_list (hg : Gl X "list") (hm : X.mg "list" = none) (ha : PE X e (tD X.K w)) (hs : starEach [e] X.env = [(false, eval e X.env)] := by rfl) : PE X (.Call (.Name "list" p) [e] [] pos) (tD X.K (wB wList (wCons w wNil))) :=
  d_callTy call_list_of list_rd hg hm (by decide +kernel) (da_cons ha da_nil hs) (by decide) (by decide) hs rfl
theorem d_int1 (hg : Gl X "int") (hm : X.mg "int" = none) (ha : PE X e (tD X.K w)) (hs : starEach [e] X.env = [(false, eval e X.env)] := by rfl) : PE X (.Call (.Name "int" p) [e] [] pos) (tD X.K (wB wInt1 (wCons w wNil))) :=
  d_callTy call_int1 int1_rd hg hm (by decide +kernel) (da_cons ha da_nil hs) (by decide) (by decide) hs rfl
theorem d_strI (hg : Gl X "str") (hm : X.mg "str" = none) (ha : PE X e (tD X.K w)) (hs : starEach [e] X.env = [(false, eval e X.env)] := by rfl) : PE X (.Call (.Name "str" p) [e] [] pos) (tD X.K (wB wStrI (wCons w wNil))) :=
  d_callTy call_str_int strI_rd hg hm (by decide +kernel) (da_cons ha da_nil hs) (by decide) (by decide) hs rfl
theorem d_maxL (hg : Gl X "max") (hm : X.mg "max" = none) (ha : PE X e (tD X.K w)) (hc : X.calm = true := by rfl) (hs : starEach [e] X.env = [(false, eval e X.env)] := by rfl) : PE X (.Call (.Name "max" p) [e] [] pos) (tD X.K (wB wMaxL (wCons w wNil))) :=
  d_callB (cr_max hc) maxL_rd hg hm (by decide +kernel) (da_cons ha da_nil hs) (by decide) (by decide) hs rfl
theorem d_minL (hg : Gl X "min") (hm : X.mg "min" = none) (ha : PE X e (tD X.K w)) (hc : X.calm = true := by rfl) (hs : starEach [e] X.env = [(false, eval e X.env)] := by rfl) : PE X (.Call (.Name "min" p) [e] [] pos) (tD X.K (wB wMinL (wCons w wNil))) :=
  d_callB (cr_min hc) minL_rd hg hm (by decide +kernel) (da_cons ha da_nil hs) (by decide) (by decide) hs rfl
theorem d_max2 (hg : Gl X "max") (hm : X.mg "max" = none) (ha : PE X a (tD X.K wx)) (hb : PE X b (tD X.K wy)) (hc : X.calm = true := by rfl) (hs : starEach [a, b] X.env = (false, eval a X.env) :: starEach [b] X.env := by rfl) (hs2 : starEach [b] X.env = [(false, eval b X.env)] := by rfl) :
    PE X (.Call (.Name "max" p) [a, b] [] pos) (tD X.K (wB wMax2 (wCons wx (wCons wy wNil)))) :=
  d_callB (call_max2 hc) max2_rd hg hm (by decide +kernel) (da_cons ha (da_cons hb da_nil hs2) hs) (by decide) (by decide) hs (by rw [hs2]; rfl)
theorem d_min2 (hg : Gl X "min") (hm : X.mg "min" = none) (ha : PE X a (tD X.K wx)) (hb : PE X b (tD X.K wy)) (hc : X.calm = true := by rfl) (hs : starEach [a, b] X.env = (false, eval a X.env) :: starEach [b] X.env := by rfl) (hs2 : starEach [b] X.env = [(false, eval b X.env)] := by rfl) :
    PE X (.Call (.Name "min" p) [a, b] [] pos) (tD X.K (wB wMin2 (wCons wx (wCons wy wNil)))) :=
  d_callB (call_min2 hc) min2_rd hg hm (by decide +kernel) (da_cons ha (da_cons hb da_nil hs2) hs) (by decide) (by decide) hs (by rw [hs2]; rfl)

/-! ### isinstance -/
inductive Ty where
  | none | bool | int | str | tup | lst | dct
def Ty.name : Ty → String
  | .none => "NoneType" | .bool => "bool" | .int => "int" | .str => "str" | .tup => "tuple" | .lst => "list" | .dct => "dict"
def tyD : DV → Mh → Option Ty
  | .none, _ => some .none
  | .bool _, _ => some .bool
  | .int _, _ => some .int
  | .str _, _ => some .str
  | .tup _, _ => some .tup
  | .lst _, _ => some .lst
  | .dct _, _ => some .dct
  | .obj a, μ => match μ a with | some (.lst _) => some .lst | some (.dct _) => some .dct | _ => Option.none
  | .fix _, _ => Option.none
theorem ty_of {R : Hp} {μ : Mh} {H : Hp} {v : V} {d : DV} {t : Ty} (o : Ok K R μ H) (i : Is K (hid R μ H) v d) (h : tyD d μ = some t) : TyX K H v (.type t.name) := by
  cases i with
  | none => cases h; exact .base .non
  | bool b => cases h; exact .base (.bl b)
  | int b => cases h; exact .base (.int b)
  | str b => cases h; exact .base (.str b)
  | lst hx rx => cases h; exact .base (.lst (hid_le _ _ hx))
  | dct hx _ _ => cases h; exact .base (.dK (hid_le _ _ hx))
  | tup hx rx =>
    cases h
    rcases hx with (hx | ⟨ob, hx⟩) | ⟨ob, its, n, hk, hc, _⟩
    · exact .base (.tup (hid_le _ _ hx))
    · exact .fTuple (hid_le _ _ hx)
    · exact .kTuple hk hc
  | obj a =>
    have h' : (match μ a with | some (.lst _) => some Ty.lst | some (.dct _) => some Ty.dct | _ => Option.none) = some t := h
    split at h'
    · rename_i ds e
      cases h'
      obtain ⟨xs, h1, r⟩ := o.ob a _ e
      exact .base (.lst h1)
    · rename_i ds e
      cases h'
      obtain ⟨xs, h1, r⟩ := o.ob a _ e
      exact .base (.dK h1)
    · cases h'
  | fix _ _ => cases h
def wIsi (f : Ty → Bool) (w : WE) : WE := fun ρ μ P => w ρ μ fun d μ1 => atW (tyD d μ1) fun t => P (.bool (f t)) μ1
theorem d_isi {Tn : Str} {T : String} {p2 : Pos} (f : Ty → Bool) (hf : ∀ t : Ty, kitB t.name T = some (f t)) (hg : Gl X "isinstance") (hm : X.mg "isinstance" = none) (hg2 : Gl X Tn) (hm2 : X.mg Tn = none) (hv2 : bootBuiltins Tn = some (.type T)) (ha : PE X e (tD X.K w))
    (hs : starEach [e, .Name Tn p2] X.env = (false, eval e X.env) :: starEach [.Name Tn p2] X.env := by rfl) (hs2 : starEach [.Name Tn p2] X.env = [(false, eval (.Name Tn p2) X.env)] := by rfl) (hn : Tn ≠ "__name__" := by decide) (hdb : (Tn == ("__debug__" : Str)) = false := by decide) :
    PE X (.Call (.Name "isinstance" p) [e, .Name Tn p2] [] pos) (tD X.K (wIsi f w)) :=
  PE.imp (pe_callB call_isi hg hm (by decide +kernel) (pa_cons ha (pa_cons (pe_bltn (v := .ty T) hg2 hm2 hv2 rfl hn hdb) pa_nil hs2) hs) (by decide) (by decide) hs (by rw [hs2]; rfl)) fun σ H Q ⟨R, ρ, μ, P, a, w, k⟩ =>
    ⟨R, ρ, μ, _, a, w, fun d μ1 v H1 p1 o1 s1 i1 => by
      obtain ⟨t, ht, p2⟩ := atW_of p1
      exact ⟨v, .ty T, _, _, f t, rfl, .ty T, ty_of o1 i1 ht, kit_ty (hf t), k _ μ1 _ H1 p2 o1 s1 (.bool _)⟩⟩
def tyStr : Ty → Bool | .str => true | _ => false
def tyInt : Ty → Bool | .int => true | .bool => true | _ => false
def tyBool : Ty → Bool | .bool => true | _ => false
def tyTup : Ty → Bool | .tup => true | _ => false
def tyLst : Ty → Bool | .lst => true | _ => false
def tyDct : Ty → Bool | .dct => true | _ => false
theorem hf_str : ∀ t : Ty, kitB t.name "str" = some (tyStr t) := by intro t; cases t <;> decide +kernel
theorem hf_int : ∀ t : Ty, kitB t.name "int" = some (tyInt t) := by intro t; cases t <;> decide +kernel
theorem hf_bool : ∀ t : Ty, kitB t.name "bool" = some (tyBool t) := by intro t; cases t <;> decide +kernel
theorem hf_tup : ∀ t : Ty, kitB t.name "tuple" = some (tyTup t) := by intro t; cases t <;> decide +kernel
theorem hf_lst : ∀ t : Ty, kitB t.name "list" = some (tyLst t) := by intro t; cases t <;> decide +kernel
theorem hf_dct : ∀ t : Ty, kitB t.name "dict" = some (tyDct t) := by intro t; cases t <;> decide +kernel
theorem boot_str : bootBuiltins "str" = some (.type "str") := by decide +kernel
theorem boot_int : bootBuiltins "int" = some (.type "int") := by decide +kernel
theorem boot_bool : bootBuiltins "bool" = some (.type "bool") := by decide +kernel
theorem boot_tup : bootBuiltins "tuple" = some (.type "tuple") := by decide +kernel
theorem boot_lst : bootBuiltins "list" = some (.type "list") := by decide +kernel
theorem boot_dct : bootBuiltins "dict" = some (.type "dict") := by decide +kernel

/-! ### sep.join(texts) -/
def joinD (a : Str) (ds : List DV) (μ : Mh) (P : DV → Mh → Prop) : Prop := ∃ ys : List Str, ds = ys.map DV.str ∧ (ys.map (·.length)).sum + ys.length * a.length ≤ 16777216 ∧ P (.str (Txt.join a ys)) μ
def wJoin (wx wy : WE) : WE := fun ρ μ P => wx ρ μ fun x μ1 => match x with
  | .str a => wy ρ μ1 fun y μ2 => match y with
    | .lst ds => joinD a ds μ2 P
    | .tup ds => joinD a ds μ2 P
    | _ => False
  | _ => False
theorem d_join {apos : Pos} (ho : PE X a (tD X.K wx)) (he : PE X b (tD X.K wy)) (hs : starEach [b] X.env = [(false, eval b X.env)] := by rfl) (hbase : attributeBase a "join" X.env (eval a X.env) = eval a X.env := by rfl) (hline : (apos.endLine == pos.line) = true := by rfl) :
    PE X (.Call (.Attribute a "join" apos) [b] [] pos) (tD X.K (wJoin wx wy)) :=
  PE.imp (pe_join ho he hs hbase hline) fun σ H Q ⟨R, ρ, μ, P, a, w, k⟩ => ⟨R, ρ, μ, _, a, w, fun x μ1 v H1 p1 o1 s1 i1 => by
    cases i1 with
    | str z => exact ⟨⟨z, rfl⟩, R, ρ, μ1, _, a.step o1 s1, p1, fun y μ2 u H2 p2 o2 s2 i2 => by
        cases i2 with
        | lst hy ry =>
          obtain ⟨ys, e, h1, h2⟩ := p2
          subst e
          exact ⟨z, _, ys, rfl, rfl, .inl (by rw [← texts_of ry]; exact SqL.of (hid_le _ _ hy)), h1, k _ μ2 _ H2 h2 o2 (s1.trans s2) (.str _)⟩
        | tup hy ry =>
          obtain ⟨ys, e, h1, h2⟩ := p2
          subst e
          exact ⟨z, _, ys, rfl, rfl, .inr (by rw [← texts_of ry]; exact Same.seqT hid_le hy), h1, k _ μ2 _ H2 h2 o2 (s1.trans s2) (.str _)⟩
        | _ => exact (show False from p2).elim⟩
    | _ => exact (show False from p1).elim⟩
end
end Dz

set_option Elab.async false
set_option linter.all false
set_option maxRecDepth 100000
set_option maxHeartbeats 4000000
/-! Dz6: repr of data, displays of dicts, order of tuples. -/
namespace Dz
open PySem L2

/-! ### data as the library reads it -/
def ReadsIn (h : Heap) (v : Value) (d : PyData) : Prop := ∃ as, Reads h v d as ∧ sysModules ∉ as
def ReadsInAll (h : Heap) (vs : List Value) (ds : List PyData) : Prop := ∃ as, ReadsAll h vs ds as ∧ sysModules ∉ as
theorem ReadsInAll.cons {h : Heap} {v : Value} {d : PyData} {vs : List Value} {ds : List PyData} (a : ReadsIn h v d) (b : ReadsInAll h vs ds) : ReadsInAll h (v :: vs) (d :: ds) := by
  obtain ⟨as, r1, n1⟩ := a
  obtain ⟨bs, r2, n2⟩ := b
  exact ⟨_, .cons r1 r2, fun m => (List.mem_append.mp m).elim n1 n2⟩
section
variable {X : Cx} {pins : List (Addr × Obj)} {σ : L2.St} {H : Hp} {s : Shared}
theorem ne_sys (I : Inv X pins σ H s) (hs : ∃ o, X.base.get? sysModules = some o) {a : Addr} {u : HO} (h : H a = some u) : sysModules ≠ a := by
  obtain ⟨o, e⟩ := hs
  intro z
  subst z
  rw [(I.bs _ _ e).2] at h
  cases h
theorem key_reads {h : Heap} : ∀ {es : List DictEntry} {vs : List (Key × Value)} {P : Program} {w : World}, Pairs (mixKind P w) es vs → ReadsInAll h (es.map (·.key)) (vs.map fun kv => keyPy kv.1)
  | _, _, _, _, .nil => ⟨[], .nil, by simp⟩
  | _, _, _, _, .cons h1 h2 r => by
    refine ReadsInAll.cons ?_ (key_reads r)
    rcases keyIs_shape h1 with ⟨i, t, e1, e2⟩ | ⟨i, t, e1, e2⟩
    · show ReadsIn h (DictEntry.key _) (keyPy (Prod.fst _))
      rw [e1, e2]
      exact ⟨[], .int i t, by simp⟩
    · show ReadsIn h (DictEntry.key _) (keyPy (Prod.fst _))
      rw [e1, e2]
      exact ⟨[], .str i t, by simp⟩
theorem vals_eq {es : List DictEntry} {vs : List (Key × Value)} {P : Program} {w : World} (r : Pairs (mixKind P w) es vs) : es.map (·.val) = vs.map (·.2) := by
  induction r with
  | nil => rfl
  | cons h1 h2 _ ih => rw [List.map_cons, List.map_cons, h2, ih]
theorem toPyKv_keys : ∀ ds : List (Key × DV), (toPyKv ds).map (·.1) = ds.map fun kv => keyPy kv.1
  | [] => rfl
  | (k, d) :: r => by rw [toPyKv, List.map_cons, List.map_cons, toPyKv_keys r]
theorem toPyKv_vals : ∀ ds : List (Key × DV), (toPyKv ds).map (·.2) = toPys (ds.map (·.2))
  | [] => rfl
  | (k, d) :: r => by rw [toPyKv, List.map_cons, List.map_cons, toPyKv_vals r]; rfl
theorem noObjKv_vals : ∀ ds : List (Key × DV), noObjKv ds = noObjs (ds.map (·.2))
  | [] => rfl
  | (k, d) :: r => by rw [noObjKv, List.map_cons, noObjKv_vals r]; rfl
theorem kv_vals {κ : Type} {kvs : List (κ × V)} {vs : List (κ × Value)} (r : KV kvs vs) : Vals (kvs.map (·.2)) (vs.map (·.2)) := by
  unfold KV at r
  induction r with
  | nil => exact .nil
  | cons q _ ih => exact .cons q.2 ih
mutual
theorem Is.reads (I : Inv X pins σ H s) (hs : ∃ o, X.base.get? sysModules = some o) : ∀ {v : V} {d : DV} {u : Value}, Is X.K H v d → noObj d = true → RelV v u → ReadsIn s.heap u (toPy d)
  | _, _, _, .none, _, r => by cases r; exact ⟨_, .none, by simp⟩
  | _, _, _, .bool b, _, r => by cases r; exact ⟨_, .bool b, by simp⟩
  | _, _, _, .int i, _, r => by obtain ⟨t, rfl⟩ := r; exact ⟨_, .int i t, by simp⟩
  | _, _, _, .str i, _, r => by obtain ⟨t, rfl⟩ := r; exact ⟨_, .str i t, by simp⟩
  | _, _, _, .tup h rr, n, r => by
    cases r
    obtain ⟨its, rv, ⟨o, ho, hc, m, hd⟩, _⟩ := I.tuple h
    obtain ⟨as, hr, ns⟩ := Iss.reads I hs rr n rv
    exact ⟨_, .tuple ho hc hd hr, ns⟩
  | _, _, _, .lst h rr, n, r => by
    cases r
    obtain ⟨its, rv, ⟨o, m, ho, hc, _, hd⟩, _⟩ := I.list (SqL.of h)
    obtain ⟨as, hr, ns⟩ := Iss.reads I hs rr n rv
    exact ⟨_, .list ho hc hd hr, fun z => (List.mem_cons.mp z).elim (ne_sys I hs h) ns⟩
  | _, _, _, .dct (a := a) (kvs := kvs) (ds := ds) h k rr, n, r => by
    cases r
    obtain ⟨_, _, vs, rv, ob, es, ep, ho, hx, hd, _, pr, _⟩ := (show ObjOk X.prog X.w H s.heap a (.dK kvs) from I.hok a _ h)
    have rv2 : Vals (kvs.map (·.2)) (vs.map (·.2)) := kv_vals rv
    obtain ⟨as, r1, n1⟩ := key_reads (h := s.heap) pr
    obtain ⟨bs, r2, n2⟩ := Iss.reads I hs rr (by rw [← noObjKv_vals]; exact n) rv2
    have kk : vs.map (fun kv => keyPy kv.1) = (toPyKv ds).map (·.1) := by
      rw [toPyKv_keys]
      have e1 : vs.map (·.1) = ds.map (·.1) := rv.keys.symm.trans k
      have e2 := congrArg (List.map keyPy) e1
      rw [List.map_map, List.map_map] at e2
      exact e2
    rw [kk] at r1
    rw [← vals_eq pr, ← toPyKv_vals] at r2
    exact ⟨_, .dict ho hx.1 hd r1 r2, fun z => (List.mem_append.mp z).elim (fun z => (List.mem_cons.mp z).elim (ne_sys I hs h) n1) n2⟩
  | _, _, _, .obj _, n, _ => absurd (show false = true from n) Bool.false_ne_true
  | _, _, _, .fix _ _, n, _ => absurd (show false = true from n) Bool.false_ne_true
theorem Iss.reads (I : Inv X pins σ H s) (hs : ∃ o, X.base.get? sysModules = some o) : ∀ {vs : List V} {ds : List DV} {us : List Value}, Iss X.K H vs ds → noObjs ds = true → Vals vs us → ReadsInAll s.heap us (toPys ds)
  | _, _, _, .nil, _, r => by cases r; exact ⟨_, .nil, by simp⟩
  | _, _, _, .cons h rr, n, r => by
    cases r with
    | cons r1 r2 =>
      have n' := Bool.and_eq_true_iff.mp n
      exact ReadsInAll.cons (Is.reads I hs h n'.1 r1) (Iss.reads I hs rr n'.2 r2)
end
end

/-! ### repr -/
/-- data whose text the model can write -/
structure Shows (d : DV) : Prop where
  no : noObj d = true
  sh : (toPy d).showable = true
  len : (toPy d).shown.length ≤ sizeLine
  dep : (toPy d).depth ≤ 60
def shownD (d : DV) : Str := (toPy d).shown
def wRepr : WB
  | [d], μ, P => Shows d ∧ P (.str (shownD d)) μ
  | _, _, _ => False
def rReprD (K : PySem.W.Frag) : List V → Hp → VK → Prop := fun xs H Q => ∃ x d, xs = [x] ∧ Is K H x d ∧ Shows d ∧ Q (.str (shownD d)) H
section
variable {X : Cx}
theorem call_reprD {k : Nat} (hg : X.A.guards = some []) (hr : Room k X.A) (hs : ∃ o, X.base.get? sysModules = some o) : CallR X (.builtin "repr") (rReprD X.K) := by
  intro pins s σ H xs us Q I r h
  obtain ⟨x, d, rfl, i, S, q⟩ := h
  obtain ⟨u, rfl, rx⟩ := vals1 r
  have hu := hr.un
  cases i with
  | none =>
    cases rx
    exact PySem.P.repr_of_none ⟨.str _, H, I.tok _, ⟨_, rfl⟩, q⟩
  | bool b =>
    cases rx
    exact PySem.P.repr_of_bool ⟨.str _, H, I.tok _, ⟨_, rfl⟩, q⟩
  | int j =>
    obtain ⟨t, rfl⟩ := rx
    exact PySem.P.repr_of_int (by have := S.sh; simpa [toPy, PyData.showable] using this) ⟨.str _, H, I.tok _, ⟨_, rfl⟩, q⟩
  | str z =>
    obtain ⟨t, rfl⟩ := rx
    exact PySem.P.repr_of_str ⟨.str _, H, I.tok _, ⟨_, rfl⟩, q⟩ S.len
  | obj a => exact absurd (show false = true from S.no) Bool.false_ne_true
  | fix _ _ => exact absurd (show false = true from S.no) Bool.false_ne_true
  | tup h rr =>
    obtain ⟨as, rd, ns⟩ := Is.reads I hs (.tup h rr) S.no rx
    cases rx
    refine repr_of_reads' rd S.sh (fun _ => ns) hg (by have := S.dep; omega) (fun _ _ e => e) (fun h' v tk hk => ?_) S.len
    exact ⟨.str _, H, I.kept hk, ⟨_, rfl⟩, q⟩
  | lst h rr =>
    obtain ⟨as, rd, ns⟩ := Is.reads I hs (.lst h rr) S.no rx
    cases rx
    refine repr_of_reads' rd S.sh (fun _ => ns) hg (by have := S.dep; omega) (fun _ _ e => e) (fun h' v tk hk => ?_) S.len
    exact ⟨.str _, H, I.kept hk, ⟨_, rfl⟩, q⟩
  | dct h kk rr =>
    obtain ⟨as, rd, ns⟩ := Is.reads I hs (.dct h kk rr) S.no rx
    cases rx
    refine repr_of_reads' rd S.sh (fun _ => ns) hg (by have := S.dep; omega) (fun _ _ e => e) (fun h' v tk hk => ?_) S.len
    exact ⟨.str _, H, I.kept hk, ⟨_, rfl⟩, q⟩
theorem repr_rd {K : PySem.W.Frag} : RAD K (rReprD K) wRepr := by
  intro R μ H vs ds P Q o i w k
  match ds, w with
  | [d], w =>
    obtain ⟨v, rfl, i1⟩ := i.one
    exact ⟨v, d, rfl, i1.up, w.1, k.val o w.2 (.str _)⟩
theorem d_repr {k : Nat} {e : Expr} {w : WE} {p pos : Pos} (hgd : X.A.guards = some []) (hr : Room k X.A) (hsm : ∃ o, X.base.get? sysModules = some o) (hg : Gl X "repr") (hm : X.mg "repr" = none) (ha : PE X e (tD X.K w)) (hs : starEach [e] X.env = [(false, eval e X.env)] := by rfl) :
    PE X (.Call (.Name "repr" p) [e] [] pos) (tD X.K (wB wRepr (wCons w wNil))) :=
  d_callB (call_reprD hgd hr hsm) repr_rd hg hm (by decide +kernel) (da_cons ha da_nil hs) (by decide) (by decide) hs rfl

/-! ### {}, {k: v, ..} -/
def wPairs : List (Key × WE) → Rho → Mh → (List (Key × DV) → Mh → Prop) → Prop
  | [], _, μ, P => P [] μ
  | (k, w) :: r, ρ, μ, P => w ρ μ fun d μ1 => wPairs r ρ μ1 fun ds μ2 => P ((k, d) :: ds) μ2
/-- a dict as data: the keys written, each once -/
def wDct (ws : List (Key × WE)) : WE := fun ρ μ P => wPairs ws ρ μ fun ds μ1 => P (.dct ds) μ1
theorem d_dct0 {pos : Pos} : PE X (.Dict [] [] pos) (tD X.K (wC (.dct []))) :=
  PE.imp pe_dnewK fun σ H Q ⟨R, ρ, μ, P, a, w, k⟩ => fun p n => k _ μ _ _ w (a.ok.new n) (a.ok.sameNew n) (.dct (hid_new a.ok n) rfl .nil)
/-- one pair -/
theorem d_dct1 {pos : Pos} {kx vx : Expr} {key : Key} {w : WE} (hk : PE X kx (tC (kV key))) (hv : PE X vx (tD X.K w)) : PE X (.Dict [some kx] [vx] pos) (tD X.K (wDct [(key, w)])) :=
  PE.imp (pe_disp (pps_cons hk hv pps_nil) rfl rfl (fun z => by cases z) (Nat.le_of_ble_eq_true rfl)) fun σ H Q ⟨R, ρ, μ, P, a, w, k⟩ => fun p n => by
    obtain ⟨o1, e1⟩ := a.ok.frame (o := .dK []) n
    refine ⟨upd R p (.dK []), ρ, μ, _, ⟨o1, by rw [e1]; exact a.sl⟩, w, fun d μ1 v H1 p1 o2 s2 i2 => ⟨o2.fr p _ upd_same, [(key, v)], rfl, Nat.le_of_ble_eq_true rfl, ?_⟩⟩
    have rn := a.ok.freeR n
    rw [e1] at s2
    have em : mergeK [] [(key, v)] = [(key, v)] := rfl
    rw [em]
    obtain ⟨o3, e3⟩ := o2.reframe (o' := .dK [(key, v)])
    obtain ⟨o4, s4, h4⟩ := o3.unframe rn
    rw [e3] at s4
    exact k _ μ1 _ _ p1 o4 (s2.trans s4) (.dct h4 rfl (.cons (i2.mono s4) .nil))
end

/-! ### order of tuples -/
def ltB : DV → DV → Bool
  | .int i, .int j => decide (i < j)
  | .str s, .str t => ltS s t
  | _, _ => false
def cmpB : DV → DV → Bool
  | .int _, .int _ => true
  | .str _, .str _ => true
  | _, _ => false
/-- place by place of one kind, ints or texts -/
def cmpAll : List DV → List DV → Bool
  | x :: xs, y :: ys => cmpB x y && cmpAll xs ys
  | _, _ => true
def lexB : List DV → List DV → Bool
  | [], [] => false
  | [], _ :: _ => true
  | _ :: _, [] => false
  | x :: xs, y :: ys => if eqF x y = true then lexB xs ys else ltB x y
def eAt (xs ys : List DV) (j : Nat) : Bool := match xs[j]?, ys[j]? with | some x, some y => eqF x y | _, _ => true
def rAt (xs ys : List DV) (j : Nat) : Bool := match xs[j]?, ys[j]? with | some x, some y => ltB x y | _, _ => false
theorem lexAt_shift {z : Bool} : ∀ (k i : Nat) (e r e' r' : Nat → Bool), (∀ j, e' j = e (j + 1)) → (∀ j, r' j = r (j + 1)) → Ob.lexAt e r z (i + 1) k = Ob.lexAt e' r' z i k
  | 0, _, _, _, _, _, _, _ => rfl
  | k + 1, i, e, r, e', r', he, hr => by
    rw [Ob.lexAt_succ, Ob.lexAt_succ, lexAt_shift k (i + 1) e r e' r' he hr, he, hr]
theorem lexAt_lexB : ∀ xs ys : List DV, Ob.lexAt (eAt xs ys) (rAt xs ys) (decide (xs.length < ys.length)) 0 (min xs.length ys.length) = lexB xs ys
  | [], [] => rfl
  | [], _ :: _ => by simp [Ob.lexAt_zero, lexB]
  | _ :: _, [] => by simp [Ob.lexAt_zero, lexB]
  | x :: xs, y :: ys => by
    have h : min (x :: xs).length (y :: ys).length = min xs.length ys.length + 1 := by simp only [List.length_cons]; omega
    have hz : decide ((x :: xs).length < (y :: ys).length) = decide (xs.length < ys.length) := by simp
    rw [h, hz, Ob.lexAt_succ, lexAt_shift _ 0 (eAt (x :: xs) (y :: ys)) (rAt (x :: xs) (y :: ys)) (eAt xs ys) (rAt xs ys) (fun j => by simp [eAt]) (fun j => by simp [rAt]), lexAt_lexB xs ys]
    rfl
theorem cmpAll_at : ∀ {xs ys : List DV} {j : Nat} {x y : DV}, cmpAll xs ys = true → xs[j]? = some x → ys[j]? = some y → cmpB x y = true
  | [], _, j, _, _, _, h, _ => by simp at h
  | _ :: _, [], j, _, _, _, _, h => by simp at h
  | a :: xs, b :: ys, 0, x, y, c, h1, h2 => by
    simp at h1 h2
    subst h1 h2
    exact (Bool.and_eq_true_iff.mp c).1
  | a :: xs, b :: ys, j + 1, x, y, c, h1, h2 => cmpAll_at (j := j) (Bool.and_eq_true_iff.mp c).2 (by simpa using h1) (by simpa using h2)
def rLtTD (K : PySem.W.Frag) : R2 := fun x y H Q => ∃ a b xs ys dx dy, x = .ref a ∧ y = .ref b ∧ SqT K H a xs ∧ SqT K H b ys ∧ Iss K H xs dx ∧ Iss K H ys dy ∧ cmpAll dx dy = true ∧ Q (.bl (lexB dx dy)) H
theorem op_ltTD {X : Cx} (hu : X.A.units < cLine) : OpR X (compareOp .Lt) (rLtTD X.K) := by
  intro pins s σ H x y v u Q I rx ry h
  obtain ⟨a, b, xs, ys, dx, dy, rfl, rfl, ha, hb, i1, i2, c, q⟩ := h
  cases rx
  cases ry
  obtain ⟨its, r1, p1, _⟩ := I.tuple ha
  obtain ⟨its2, r2, p2, _⟩ := I.tuple hb
  have pick : ∀ {us : List Value} {zs : List V} {ds : List DV}, Vals zs us → Iss X.K H zs ds → ∀ (j : Nat) (h1 : j < us.toArray.size), ∃ z d, ds[j]? = some d ∧ Is X.K H z d ∧ RelV z us.toArray[j] := fun {us zs ds} r i j h1 => by
    have hl := r.length
    have hj : j < zs.length := by simp at h1; omega
    obtain ⟨u, e1, e2⟩ := r.get (List.getElem?_eq_getElem hj)
    obtain ⟨d, e3, e4⟩ := i.getV (List.getElem?_eq_getElem hj)
    refine ⟨_, d, e3, e4, ?_⟩
    have h2 : j < us.length := by simpa using h1
    rw [List.getElem?_eq_getElem h2] at e1
    cases e1
    simpa using e2
  have fl : ∀ {d e : DV}, cmpB d e = true → flatD d = true ∧ flatD e = true := fun {d e} h => by
    cases d <;> cases e <;> first | exact ⟨rfl, rfl⟩ | cases h
  have run := Ob.RcOp.tuples_lt (A := X.A) (e := eAt dx dy) (r := rAt dx dy) p1 p2 hu (fun j h1 h2 => by
    obtain ⟨z1, d1, e1, k1, t1⟩ := pick r1 i1 j h1
    obtain ⟨z2, d2, e2, k2, t2⟩ := pick r2 i2 j h2
    have cc := cmpAll_at c e1 e2
    have e : eAt dx dy j = eqV z1 z2 := by
      unfold eAt
      rw [e1, e2, eqV_of k1 k2 (fl cc).1 (fl cc).2]
    rw [e]
    exact eqAt_V t1 t2 (by rw [flat_of k1]; exact (fl cc).1) (by rw [flat_of k2]; exact (fl cc).2)) (fun j h1 h2 hne => by
    obtain ⟨z1, d1, e1, k1, t1⟩ := pick r1 i1 j h1
    obtain ⟨z2, d2, e2, k2, t2⟩ := pick r2 i2 j h2
    have cc := cmpAll_at c e1 e2
    have e : rAt dx dy j = ltB d1 d2 := by
      unfold rAt
      rw [e1, e2]
    rw [e]
    cases d1 with
    | int i => cases d2 with
      | int k =>
        cases k1
        cases k2
        obtain ⟨tk, q1⟩ := t1
        obtain ⟨tk', q2⟩ := t2
        rw [q1, q2]
        exact Ob.RcOp.lt_int _ _ _ _
      | _ => cases cc
    | str i => cases d2 with
      | str k =>
        cases k1
        cases k2
        obtain ⟨tk, q1⟩ := t1
        obtain ⟨tk', q2⟩ := t2
        rw [q1, q2]
        exact fun _ _ _ _ h => PyProof.Rows.lt_str h
      | _ => cases cc
    | _ => cases cc) X.prog X.w
  refine run _ _ ⟨.bl (lexB dx dy), H, I, ?_, q⟩
  have e1 : its.toArray.size = dx.length := by rw [List.size_toArray, ← r1.length, i1.length]
  have e2 : its2.toArray.size = dy.length := by rw [List.size_toArray, ← r2.length, i2.length]
  rw [e1, e2, lexAt_lexB]
  rfl
def wLtA : W2
  | .int i, .int j, μ, P => P (.bool (decide (i < j))) μ
  | .str s, .str t, μ, P => P (.bool (ltS s t)) μ
  | .tup xs, .tup ys, μ, P => cmpAll xs ys = true ∧ P (.bool (lexB xs ys)) μ
  | _, _, _, _ => False
section
variable {K : PySem.W.Frag} {X : Cx} {a b : Expr} {wa wb wc : WE} {pos : Pos}
def rLtA (K : PySem.W.Frag) : R2 := fun x y H Q => rOrd (fun i j => decide (i < j)) (fun s t => decide (s.cps.toList < t.cps.toList)) x y H Q ∨ rLtTD K x y H Q
theorem op_ltA (hu : X.A.units < cLine) : OpR X (compareOp .Lt) (rLtA X.K) := op_ltD.or (op_ltTD hu)
theorem ltA_rd : R2D K (rLtA K) wLtA := by
  intro R μ H x y dx dy P Q ok ix iy w k
  cases ix with
  | int i => cases iy with
    | int j => exact .inl (.inl ⟨i, j, rfl, rfl, k.val ok w (.bool _)⟩)
    | _ => exact (show False from w).elim
  | str i => cases iy with
    | str j => exact .inl (.inr ⟨i, j, rfl, rfl, k.val ok w (.bool _)⟩)
    | _ => exact (show False from w).elim
  | tup hx rx => cases iy with
    | tup hy ry => exact .inr ⟨_, _, _, _, _, _, rfl, rfl, Same.seqT hid_le hx, Same.seqT hid_le hy, rx.mono hid_le, ry.mono hid_le, w.1, k.val ok w.2 (.bool _)⟩
    | _ => exact (show False from w).elim
  | _ => exact (show False from w).elim

/-! ### comparisons as the text has them: c.. a value, t.. a test -/
theorem c_lt {k : Nat} (hr : Room k X.A) (ha : PE X a (tD X.K wa)) (hb : PE X b (tD X.K wb)) : PE X (.Compare a [.Lt] [b] pos) (tD X.K (wBin wLtA wa wb)) := d_cmp (op_ltA hr.units0) ltA_rd ha hb (nomark _)
theorem c_le (ha : PE X a (tD X.K wa)) (hb : PE X b (tD X.K wb)) : PE X (.Compare a [.LtE] [b] pos) (tD X.K (wBin wLe wa wb)) := d_cmp op_leD le_rd ha hb (nomark _)
theorem c_gt (ha : PE X a (tD X.K wa)) (hb : PE X b (tD X.K wb)) : PE X (.Compare a [.Gt] [b] pos) (tD X.K (wBin wGt wa wb)) := d_cmp op_gtD gt_rd ha hb (nomark _)
theorem c_ge (ha : PE X a (tD X.K wa)) (hb : PE X b (tD X.K wb)) : PE X (.Compare a [.GtE] [b] pos) (tD X.K (wBin wGe wa wb)) := d_cmp op_geD ge_rd ha hb (nomark _)
theorem c_eq {k : Nat} (hr : Room k X.A) (ha : PE X a (tD X.K wa)) (hb : PE X b (tD X.K wb)) : PE X (.Compare a [.Eq] [b] pos) (tD X.K (wBin wEqL wa wb)) := d_cmp (op_eqA hr.units) eq_rd ha hb (nomark _)
theorem c_ne {k : Nat} (hr : Room k X.A) (ha : PE X a (tD X.K wa)) (hb : PE X b (tD X.K wb)) : PE X (.Compare a [.NotEq] [b] pos) (tD X.K (wBin wNeL wa wb)) := d_cmp (op_neA hr.units) ne_rd ha hb (nomark _)
theorem c_is (ha : PE X a (tD X.K wa)) (hb : PE X b (tD X.K wb)) : PE X (.Compare a [.Is] [b] pos) (tD X.K (wBin wIsN wa wb)) := d_cmp op_isN isN_rd ha hb (nomark _)
theorem c_isnot (ha : PE X a (tD X.K wa)) (hb : PE X b (tD X.K wb)) : PE X (.Compare a [.IsNot] [b] pos) (tD X.K (wBin wNotN wa wb)) := d_cmp op_notN notN_rd ha hb (nomark _)
theorem c_in {k : Nat} (hr : Room k X.A) (ha : PE X a (tD X.K wa)) (hb : PE X b (tD X.K wb)) (hm : behindInMarks .In b = false) : PE X (.Compare a [.In] [b] pos) (tD X.K (wBin wIn wa wb)) := d_cmp (op_inA (by have := hr.un; omega)) in_rd ha hb hm
theorem c_notin {k : Nat} (hr : Room k X.A) (ha : PE X a (tD X.K wa)) (hb : PE X b (tD X.K wb)) (hm : behindInMarks .NotIn b = false) : PE X (.Compare a [.NotIn] [b] pos) (tD X.K (wBin wNotIn wa wb)) := d_cmp (op_notInA (by have := hr.un; omega)) notIn_rd ha hb hm
theorem t_lt {k : Nat} (hr : Room k X.A) (ha : PE X a (tD X.K wa)) (hb : PE X b (tD X.K wb)) : PT X (.Compare a [.Lt] [b] pos) (tDT X.K (wTest (wBin wLtA wa wb))) := dt_cmp (op_ltA hr.units0) ltA_rd ha hb (nomark _)
theorem t_le (ha : PE X a (tD X.K wa)) (hb : PE X b (tD X.K wb)) : PT X (.Compare a [.LtE] [b] pos) (tDT X.K (wTest (wBin wLe wa wb))) := dt_cmp op_leD le_rd ha hb (nomark _)
theorem t_gt (ha : PE X a (tD X.K wa)) (hb : PE X b (tD X.K wb)) : PT X (.Compare a [.Gt] [b] pos) (tDT X.K (wTest (wBin wGt wa wb))) := dt_cmp op_gtD gt_rd ha hb (nomark _)
theorem t_ge (ha : PE X a (tD X.K wa)) (hb : PE X b (tD X.K wb)) : PT X (.Compare a [.GtE] [b] pos) (tDT X.K (wTest (wBin wGe wa wb))) := dt_cmp op_geD ge_rd ha hb (nomark _)
theorem t_eq {k : Nat} (hr : Room k X.A) (ha : PE X a (tD X.K wa)) (hb : PE X b (tD X.K wb)) : PT X (.Compare a [.Eq] [b] pos) (tDT X.K (wTest (wBin wEqL wa wb))) := dt_cmp (op_eqA hr.units) eq_rd ha hb (nomark _)
theorem t_ne {k : Nat} (hr : Room k X.A) (ha : PE X a (tD X.K wa)) (hb : PE X b (tD X.K wb)) : PT X (.Compare a [.NotEq] [b] pos) (tDT X.K (wTest (wBin wNeL wa wb))) := dt_cmp (op_neA hr.units) ne_rd ha hb (nomark _)
theorem t_is (ha : PE X a (tD X.K wa)) (hb : PE X b (tD X.K wb)) : PT X (.Compare a [.Is] [b] pos) (tDT X.K (wTest (wBin wIsN wa wb))) := dt_cmp op_isN isN_rd ha hb (nomark _)
theorem t_isnot (ha : PE X a (tD X.K wa)) (hb : PE X b (tD X.K wb)) : PT X (.Compare a [.IsNot] [b] pos) (tDT X.K (wTest (wBin wNotN wa wb))) := dt_cmp op_notN notN_rd ha hb (nomark _)
theorem t_in {k : Nat} (hr : Room k X.A) (ha : PE X a (tD X.K wa)) (hb : PE X b (tD X.K wb)) (hm : behindInMarks .In b = false) : PT X (.Compare a [.In] [b] pos) (tDT X.K (wTest (wBin wIn wa wb))) := dt_cmp (op_inA (by have := hr.un; omega)) in_rd ha hb hm
theorem t_notin {k : Nat} (hr : Room k X.A) (ha : PE X a (tD X.K wa)) (hb : PE X b (tD X.K wb)) (hm : behindInMarks .NotIn b = false) : PT X (.Compare a [.NotIn] [b] pos) (tDT X.K (wTest (wBin wNotIn wa wb))) := dt_cmp (op_notInA (by have := hr.un; omega)) notIn_rd ha hb hm
end
end Dz

set_option Elab.async false
set_option linter.all false
set_option maxRecDepth 100000
set_option maxHeartbeats 4000000
/-! Dz7: lists and dicts that change. -/
namespace Dz
open PySem L2
section
variable {K : PySem.W.Frag} {R : Hp} {μ : Mh} {H : Hp} {p : Addr} {o : HO} {m0 m : MO}
/-- an object changes -/
theorem Ok.setM (k : Ok K R μ H) (h : μ p = some m0) (n0 : m0 ≠ .inner) (hok : MOk K (hid R μ H) (upd H p o) (updM μ p m) p m) : Ok K R (updM μ p m) (upd H p o) ∧ hid R (updM μ p m) (upd H p o) = hid R μ H := by
  have rn : R p = none := by
    cases e : R p with
    | none => rfl
    | some u => have := k.dj p u e; rw [h] at this; cases this
  have eh : hid R (updM μ p m) (upd H p o) = hid R μ H := by
    funext b
    by_cases z : b = p
    · subst z
      have h1 : ∀ (m : MO) (G : Hp) (μ : Mh), μ b = some m → hid R μ G b = none := fun m G μ e => by
        unfold hid
        rw [if_neg fun q => by rw [e] at q; exact Bool.false_ne_true q.2]
      rw [h1 m _ _ updM_same, h1 m0 _ _ h]
    · unfold hid
      rw [updM_ne z, upd_ne z]
  refine ⟨⟨fun a u e => ?_, fun a u e => ?_, fun a u e => ?_⟩, eh⟩
  · rw [upd_ne (fun z => by subst z; rw [rn] at e; cases e)]
    exact k.fr a u e
  · rw [updM_ne (fun z => by subst z; rw [rn] at e; cases e)]
    exact k.dj a u e
  · rw [eh]
    by_cases z : a = p
    · subst z
      rw [updM_same] at e
      cases e
      exact hok
    · rw [updM_ne z] at e
      refine (k.ob a u e).mono (Same.refl _) (upd_ne z) (fun b hb => ?_) e (fun b q => ?_)
      · rw [e] at hb
        cases u with
        | ext near φ =>
          obtain ⟨_, _, hn, _⟩ := k.ob a _ e
          refine upd_ne fun y => ?_
          subst y
          have := hn _ hb
          rw [h] at this
          cases this
          exact n0 rfl
        | _ => cases hb
      · rw [updM_ne fun y => ?_]
        · exact q
        · subst y
          rw [h] at q
          cases q
          exact n0 rfl
end
def valD (kvs : List (Key × DV)) (k : Key) : Option DV := (kvs.find? fun kv => decide (kv.1 = k)).map (·.2)
def putD (kvs : List (Key × DV)) (k : Key) (d : DV) : List (Key × DV) := if (kvs.any fun kv => decide (kv.1 = k)) = true then kvs.map (fun kv => if kv.1 = k then (kv.1, d) else kv) else kvs ++ [(k, d)]
def keyD : DV → Option Key
  | .int i => some (.inl i)
  | .str x => some (.inr x)
  | _ => none
theorem keyD_of {K : PySem.W.Frag} {H : Hp} {v : V} {d : DV} {k : Key} (i : Is K H v d) (h : keyD d = some k) : v = kV k := by
  cases i <;> first | (cases h; rfl) | cases h
section
variable {K : PySem.W.Frag} {H : Hp}
theorem Iss.val : ∀ {kvs : List (Key × V)} {ds : List (Key × DV)} {k : Key} {d : DV}, kvs.map (·.1) = ds.map (·.1) → Iss K H (kvs.map (·.2)) (ds.map (·.2)) → valD ds k = some d → ∃ v, valV kvs k = some v ∧ Is K H v d
  | [], [], _, _, _, _, h => by cases h
  | [], _ :: _, _, _, e, _, _ => by cases e
  | _ :: _, [], _, _, e, _, _ => by cases e
  | (a, v) :: kvs, (b, x) :: ds, k, d, e, r, h => by
    simp only [List.map_cons, List.cons.injEq] at e
    obtain ⟨rfl, e⟩ := e
    simp only [List.map_cons] at r
    cases r with
    | cons r1 r2 =>
      unfold valD at h
      unfold valV
      by_cases c : a = k
      · rw [List.find?_cons_of_pos (by simpa using c)] at h ⊢
        cases h
        exact ⟨v, rfl, r1⟩
      · rw [List.find?_cons_of_neg (by simpa using c)] at h ⊢
        exact Iss.val e r2 h
theorem Iss.put : ∀ {kvs : List (Key × V)} {ds : List (Key × DV)} {k : Key} {v : V} {d : DV}, kvs.map (·.1) = ds.map (·.1) → Iss K H (kvs.map (·.2)) (ds.map (·.2)) → Is K H v d → (putK kvs k v).map (·.1) = (putD ds k d).map (·.1) ∧ Iss K H ((putK kvs k v).map (·.2)) ((putD ds k d).map (·.2)) := by
  intro kvs ds k v d e r i
  have ha : (kvs.any fun kv => decide (kv.1 = k)) = (ds.any fun kv => decide (kv.1 = k)) := by
    have h1 : (kvs.any fun kv => decide (kv.1 = k)) = (kvs.map (·.1)).any fun a => decide (a = k) := by rw [List.any_map]; rfl
    have h2 : (ds.any fun kv => decide (kv.1 = k)) = (ds.map (·.1)).any fun a => decide (a = k) := by rw [List.any_map]; rfl
    rw [h1, h2, e]
  unfold putK putD
  rw [ha]
  by_cases c : (ds.any fun kv => decide (kv.1 = k)) = true
  · rw [if_pos c, if_pos c]
    clear ha c
    induction kvs generalizing ds with
    | nil => cases ds with
      | nil => exact ⟨rfl, .nil⟩
      | cons _ _ => cases e
    | cons a kvs ih => cases ds with
      | nil => cases e
      | cons b ds =>
        simp only [List.map_cons, List.cons.injEq] at e
        simp only [List.map_cons] at r
        cases r with
        | cons r1 r2 =>
          obtain ⟨h1, h2⟩ := ih e.2 r2
          simp only [List.map_cons]
          refine ⟨by rw [h1]; congr 1; rw [e.1]; split <;> first | rfl | exact e.1, .cons ?_ h2⟩
          rw [e.1]
          split
          · exact i
          · exact r1
  · rw [if_neg c, if_neg c]
    simp only [List.map_append, List.map_cons, List.map_nil]
    exact ⟨by rw [e], r.append (.cons i .nil)⟩
end
/-- d[k]: there -/
def wDGet : W2 := fun x y μ P => match x with
  | .obj a => match μ a with
    | some (.dct kvs) => atW (keyD y) fun k => atW (valD kvs k) fun d => P d μ
    | _ => False
  | .dct kvs => atW (keyD y) fun k => atW (valD kvs k) fun d => P d μ
  | _ => False
def wDPut (wd wk wv : WE) : WS := fun E ρ μ => wv ρ μ fun v μ1 => wd ρ μ1 fun x μ2 => wk ρ μ2 fun y μ3 => match x with
  | .obj a => match μ3 a with
    | some (.dct kvs) => atW (keyD y) fun k => kvs.length < sizeLine ∧ E.nx ρ (updM μ3 a (.dct (putD kvs k v)))
    | _ => False
  | _ => False
def wPop : W1 := fun x μ P => match x with
  | .obj a => match μ a with
    | some (.lst ds) => atW ds[ds.length - 1]? fun y => P y (updM μ a (.lst ds.dropLast))
    | _ => False
  | _ => False
/-- a list, as it stands when the receiver is asked -/
def isLstM (x : DV) (μ : Mh) : Prop := match x with
  | .obj a => match μ a with | some (.lst _) => True | _ => False
  | _ => False
def wApp (wo we : WE) : WE := fun ρ μ P => wo ρ μ fun x μ1 => isLstM x μ1 ∧ we ρ μ1 fun y μ2 => match x with
  | .obj a => match μ2 a with
    | some (.lst ds) => ds.length < sizeLine ∧ P .none (updM μ2 a (.lst (ds ++ [y])))
    | _ => False
  | _ => False
def extW (ds : List DV) (y : DV) (Q : List DV → Prop) : Prop := match y with
  | .lst es => ds.length + es.length ≤ sizeLine ∧ Q (ds ++ es)
  | _ => False
def wExt (wo we : WE) : WE := fun ρ μ P => wo ρ μ fun x μ1 => isLstM x μ1 ∧ we ρ μ1 fun y μ2 => match x with
  | .obj a => match μ2 a with
    | some (.lst ds) => extW ds y fun zs => P .none (updM μ2 a (.lst zs))
    | _ => False
  | _ => False
section
variable {X : Cx} {e ke ve oe : Expr} {pos apos : Pos} {w wd wk wv wo we : WE}
theorem dget_core {K : PySem.W.Frag} {R : Hp} {μ : Mh} {H : Hp} {v u : V} {x y : DV} {P : DV → Mh → Prop} (o : Ok K R μ H) (i : Is K (hid R μ H) v x) (j : Is K (hid R μ H) u y) (w : wDGet x y μ P) : ∃ a z d, v = .ref a ∧ DGet H a u (some z) ∧ Is K (hid R μ H) z d ∧ P d μ := by
  cases i with
  | obj a =>
    have w' : (match μ a with | some (.dct kvs) => atW (keyD y) fun k => atW (valD kvs k) fun d => P d μ | _ => False) := w
    split at w'
    · rename_i kvs e
      obtain ⟨k, h1, w2⟩ := atW_of w'
      obtain ⟨d, h2, w3⟩ := atW_of w2
      obtain ⟨ks, h3, h4, h5⟩ := o.ob a _ e
      obtain ⟨z, h6, h7⟩ := Iss.val h4 h5 h2
      exact ⟨a, z, d, rfl, by rw [keyD_of j h1, ← h6]; exact DGet.k h3, h7, w3⟩
    · exact w'.elim
  | dct h4 h5 h6 =>
    obtain ⟨k, h1, w2⟩ := atW_of (show atW (keyD y) _ from w)
    obtain ⟨d, h2, w3⟩ := atW_of w2
    obtain ⟨z, h7, h8⟩ := Iss.val h5 h6 h2
    exact ⟨_, z, d, rfl, by rw [keyD_of j h1, ← h7]; exact DGet.k (hid_le _ _ h4), h8, w3⟩
  | _ => exact (show False from w).elim
theorem d_dget {k : Nat} (hr : Room k X.A) (ho : PE X oe (tD X.K wo)) (hi : PE X ke (tD X.K wk)) (hs : NoSl ke := by exact fun _ _ => rfl) : PE X (.Subscript oe ke pos) (tD X.K (wBin wDGet wo wk)) :=
  PE.imp (pe_dget (by have := hr.un; omega) ho hi hs) fun σ H Q ⟨R, ρ, μ, P, a, w, k⟩ => ⟨R, ρ, μ, _, a, w, fun x μ1 v H1 p1 o1 s1 i1 => ⟨R, ρ, μ1, _, a.step o1 s1, p1, fun y μ2 u H2 p2 o2 s2 i2 => by
    obtain ⟨b, z, d, e, g, i3, p3⟩ := dget_core o2 (i1.mono s2) i2 p2
    exact ⟨b, z, e, g, (k.step (s1.trans s2)).val o2 p3 i3⟩⟩⟩
theorem ds_dput {k : Nat} {pos' : Pos} (hr : Room k X.A) (ho : PE X oe (tD X.K wd)) (hi : PE X ke (tD X.K wk)) (hv : PE X ve (tD X.K wv)) (hs : swapsWith ve (some (.Subscript oe ke pos')) pos.line X.env = pure false := by rfl) : PS X (.Assign [.Subscript oe ke pos'] ve pos) (tDS X.K (wDPut wd wk wv)) :=
  PS.imp (ps_dput (by have := hr.un; omega) ho hi hv hs) fun D σ H ⟨R, ρ, μ, E, a, w, k⟩ => ⟨R, ρ, μ, _, a, w, fun v μ1 vv H1 p1 o1 s1 i1 => ⟨R, ρ, μ1, _, a.step o1 s1, p1, fun x μ2 xv H2 p2 o2 s2 i2 => ⟨R, ρ, μ2, _, a.step o2 (s1.trans s2), p2, fun y μ3 yv H3 p3 o3 s3 i3 => by
    cases i2 with
    | obj b =>
      have p3' : (match μ3 b with | some (.dct kvs) => atW (keyD y) fun k => kvs.length < sizeLine ∧ E.nx ρ (updM μ3 b (.dct (putD kvs k v))) | _ => False) := p3
      split at p3'
      · rename_i kvs e
        obtain ⟨key, h1, hl, w3⟩ := atW_of p3'
        obtain ⟨ks, h3, h4, h5⟩ := o3.ob b _ e
        obtain ⟨h6, h7⟩ := Iss.put (k := key) h4 h5 (i1.mono (s2.trans s3))
        obtain ⟨o4, e4⟩ := o3.setM (o := .dK (putK ks key vv)) (m := .dct (putD kvs key v)) e (by intro z; cases z) ⟨_, upd_same, h6, h7⟩
        have hlen : ks.length = kvs.length := by have := congrArg List.length h4; simpa using this
        refine ⟨b, _, rfl, by rw [keyD_of i3 h1]; exact DPut.k h3 (by rw [hlen]; exact hl), k.nx ρ _ σ _ w3 ⟨o4, ?_⟩ ?_⟩
        · rw [e4]
          exact a.sl.mono ((s1.trans s2).trans s3)
        · rw [e4]
          exact (s1.trans s2).trans s3
      · exact p3'.elim
    | _ => exact (show False from p3).elim⟩⟩⟩
theorem d_pop (ho : PE X oe (tD X.K wo)) (hbase : attributeBase oe "pop" X.env (eval oe X.env) = eval oe X.env := by rfl) (hline : (apos.endLine == pos.line) = true := by rfl) : PE X (.Call (.Attribute oe "pop" apos) [] [] pos) (tD X.K (wUn wPop wo)) :=
  PE.imp (pe_bm0 PySem.F.plainAttrs_list PySem.F.slot_list_pop PySem.F.type_list_pop mt_pop ho hbase hline) fun σ H Q ⟨R, ρ, μ, P, a, w, k⟩ => ⟨R, ρ, μ, _, a, w, fun x μ1 v H1 p1 o1 s1 i1 => by
    cases i1 with
    | obj b =>
      have p1' : (match μ1 b with | some (.lst ds) => atW ds[ds.length - 1]? fun y => P y (updM μ1 b (.lst ds.dropLast)) | _ => False) := p1
      split at p1'
      · rename_i ds e
        obtain ⟨y, hy, w2⟩ := atW_of p1'
        obtain ⟨xs, h3, h4⟩ := o1.ob b _ e
        have hl := h4.length
        obtain ⟨z, h5, h6⟩ := h4.get hy
        have hd : Iss X.K (hid R μ1 H1) xs.dropLast ds.dropLast := by
          rw [List.dropLast_eq_take, List.dropLast_eq_take, hl]
          exact h4.take _
        obtain ⟨o4, e4⟩ := o1.setM (o := .lst xs.dropLast) (m := .lst ds.dropLast) e (by intro z; cases z) ⟨_, upd_same, hd⟩
        refine ⟨.inl ⟨rfl, _, SqL.of h3⟩, b, xs, z, rfl, rfl, h3, by rw [hl]; exact h5, k _ _ _ _ w2 o4 ?_ ?_⟩
        · rw [e4]; exact s1
        · rw [e4]; exact h6
      · exact p1'.elim
    | _ => exact (show False from p1).elim⟩
theorem isLstM_of {K : PySem.W.Frag} {R : Hp} {μ : Mh} {H : Hp} {v : V} {x : DV} (o : Ok K R μ H) (i : Is K (hid R μ H) v x) (h : isLstM x μ) : ∃ b, x = .obj b ∧ v = .ref b ∧ tyV K "list" v H := by
  cases i with
  | obj b =>
    have h' : (match μ b with | some (.lst _) => True | _ => False) := h
    split at h'
    · rename_i ds e
      obtain ⟨xs, h3, h4⟩ := o.ob b _ e
      exact ⟨b, rfl, rfl, .inl ⟨rfl, _, SqL.of h3⟩⟩
    · exact h'.elim
  | _ => exact (show False from h).elim
theorem d_append (ho : PE X oe (tD X.K wo)) (he : PE X e (tD X.K we)) (hs : starEach [e] X.env = [(false, eval e X.env)] := by rfl) (hbase : attributeBase oe "append" X.env (eval oe X.env) = eval oe X.env := by rfl)
    (hfew : ((backTo pos (starEach [e] X.env)).all (fun x => !x.1) && (backToKw pos (keywordEach [] X.env)).all (fun x => x.1.isSome) && decide (([e] : List Expr).length + ([] : List Keyword).length + (if ([] : List Keyword).isEmpty then 0 else 1) < 30)) = true := by rfl) (hline : (apos.endLine == pos.line) = true := by rfl) : PE X (.Call (.Attribute oe "append" apos) [e] [] pos) (tD X.K (wApp wo we)) :=
  PE.imp (pe_bm PySem.F.plainAttrs_list PySem.F.slot_list_append PySem.F.type_list_append mt_append ho (pa_cons he pa_nil hs) hbase hfew hline hs) fun σ H Q ⟨R, ρ, μ, P, a, w, k⟩ => ⟨R, ρ, μ, _, a, w, fun x μ1 v H1 p1 o1 s1 i1 => by
    obtain ⟨b, rfl, rfl, ht⟩ := isLstM_of o1 i1 p1.1
    refine ⟨ht, R, ρ, μ1, _, a.step o1 s1, p1.2, fun y μ2 u H2 p2 o2 s2 i2 => ?_⟩
    have p2' : (match μ2 b with | some (.lst ds) => ds.length < sizeLine ∧ P .none (updM μ2 b (.lst (ds ++ [y]))) | _ => False) := p2
    split at p2'
    · rename_i ds e
      obtain ⟨xs, h3, h4⟩ := o2.ob b _ e
      obtain ⟨o4, e4⟩ := o2.setM (o := .lst (xs ++ [u])) (m := .lst (ds ++ [y])) e (by intro z; cases z) ⟨_, upd_same, h4.append (.cons i2 .nil)⟩
      refine ⟨b, xs, u, rfl, rfl, h3, by rw [h4.length]; exact p2'.1, k _ _ _ _ p2'.2 o4 ?_ .none⟩
      rw [e4]
      exact s1.trans s2
    · exact p2'.elim⟩
theorem d_extend (ho : PE X oe (tD X.K wo)) (he : PE X e (tD X.K we)) (hs : starEach [e] X.env = [(false, eval e X.env)] := by rfl) (hbase : attributeBase oe "extend" X.env (eval oe X.env) = eval oe X.env := by rfl)
    (hfew : ((backTo pos (starEach [e] X.env)).all (fun x => !x.1) && (backToKw pos (keywordEach [] X.env)).all (fun x => x.1.isSome) && decide (([e] : List Expr).length + ([] : List Keyword).length + (if ([] : List Keyword).isEmpty then 0 else 1) < 30)) = true := by rfl) (hline : (apos.endLine == pos.line) = true := by rfl) : PE X (.Call (.Attribute oe "extend" apos) [e] [] pos) (tD X.K (wExt wo we)) :=
  PE.imp (pe_bm PySem.F.plainAttrs_list PySem.F.slot_list_extend PySem.F.type_list_extend mt_extend ho (pa_cons he pa_nil hs) hbase hfew hline hs) fun σ H Q ⟨R, ρ, μ, P, a, w, k⟩ => ⟨R, ρ, μ, _, a, w, fun x μ1 v H1 p1 o1 s1 i1 => by
    obtain ⟨b, rfl, rfl, ht⟩ := isLstM_of o1 i1 p1.1
    refine ⟨ht, R, ρ, μ1, _, a.step o1 s1, p1.2, fun y μ2 u H2 p2 o2 s2 i2 => ?_⟩
    have p2' : (match μ2 b with | some (.lst ds) => extW ds y fun zs => P .none (updM μ2 b (.lst zs)) | _ => False) := p2
    split at p2'
    · rename_i ds e
      obtain ⟨xs, h3, h4⟩ := o2.ob b _ e
      cases i2 with
      | lst h5 h6 =>
        obtain ⟨o4, e4⟩ := o2.setM (o := .lst (xs ++ _)) (m := .lst (ds ++ _)) e (by intro z; cases z) ⟨_, upd_same, h4.append h6⟩
        refine ⟨b, _, xs, _, rfl, rfl, h3, hid_le _ _ h5, by rw [h4.length, h6.length]; exact p2'.1, k _ _ _ _ p2'.2 o4 ?_ .none⟩
        rw [e4]
        exact s1.trans s2
      | _ => exact (show False from p2').elim
    · exact p2'.elim⟩
end
end Dz

set_option Elab.async false
set_option linter.all false
set_option maxRecDepth 100000
set_option maxHeartbeats 4000000
/-! Dz8: defs of the text by name: where they stand, and what they promise. -/
namespace Dz
open PySem L2

/-- a def of the text stands under its name -/
def At1 (K : PySem.W.Frag) (mg : Str → Option Value) (x : Str) (st : Stmt) : Prop := ∃ f fd, mg x = some (.ref f) ∧ Fun K x x st f fd
/-- .. and keeps a promise over data, by at most level k -/
def Def (P : Program) (w : World) (K : PySem.W.Frag) (mg : Str → Option Value) (base : Heap) (k : Nat) (x : Str) (st : Stmt) (ps : List Str) (wf : WF) : Prop :=
  ∃ f fd, mg x = some (.ref f) ∧ Fun K x x st f fd ∧ FnG P w K mg base k f fd ps (spD K ps.length wf)
theorem Def.mono {P : Program} {w : World} {K : PySem.W.Frag} {mg : Str → Option Value} {base : Heap} {j k : Nat} {x : Str} {st : Stmt} {ps : List Str} {wf : WF} (h : Def P w K mg base j x st ps wf) (l : j ≤ k) : Def P w K mg base k x st ps wf :=
  let ⟨f, fd, a, b, c⟩ := h; ⟨f, fd, a, b, c.mono l⟩
/-- never called -/
def wfNo : WF := fun _ _ _ => False
theorem Def.no {P : Program} {w : World} {K : PySem.W.Frag} {mg : Str → Option Value} {base : Heap} {k : Nat} {x : Str} {st : Stmt} {ps : List Str} (h : At1 K mg x st) : Def P w K mg base k x st ps wfNo := by
  obtain ⟨f, fd, a, b⟩ := h
  exact ⟨f, fd, a, b, fun vs H Q E ⟨_, _, _, _, _, _, _, z, _⟩ => z.elim, fun A fr s H ar us vs Q E _ _ _ _ _ ⟨_, _, _, _, _, _, _, z, _⟩ => z.elim⟩
theorem Def.imp {P : Program} {w : World} {K : PySem.W.Frag} {mg : Str → Option Value} {base : Heap} {k : Nat} {x : Str} {st : Stmt} {ps : List Str} {wf wf' : WF} (h : Def P w K mg base k x st ps wf) (i : ∀ ds μ Q, wf' ds μ Q → wf ds μ Q) : Def P w K mg base k x st ps wf' := by
  obtain ⟨f, fd, a, b, c⟩ := h
  refine ⟨f, fd, a, b, fun vs H Q E ⟨R, ds, μ, P', h1, h2, h3, h4, h5⟩ => c.len vs H Q E ⟨R, ds, μ, P', h1, h2, h3, i _ _ _ h4, h5⟩, fun A fr s H ar us vs Q E g r e bb v ⟨R, ds, μ, P', h1, h2, h3, h4, h5⟩ => c.run A fr s H ar us vs Q E g r e bb v ⟨R, ds, μ, P', h1, h2, h3, i _ _ _ h4, h5⟩⟩
/-- the rule for a def: its body's reading, and that the promise gives it -/
theorem def_of {P : Program} {w0 : World} {K : PySem.W.Frag} {mg : Str → Option Value} {base : Heap} {x : Str} {st : Stmt} {N ps : List Str} {k : Nat} {w : WS} {wf : WF} (h : At1 K mg x st) (S : FnScope N ps (defScope st))
    (hb : ∀ (f : Addr) (cdv : Value) (A : Around) (outer : List Env) (s : Shared) (H : Hp) (E : XK), A.guards = some [] → Room k (A.deeper (PyProof.Rows.envOfC x (defScope st) s.heap.objs.size f cdv)) →
      PSs (cxOf CX0 P w0 K mg base N x (defScope st) f cdv A outer s H E).nox (defBody st) (tDS K w))
    (hw : ∀ ds μ Q, ds.length = ps.length → wf ds μ Q → w { nx := fun _ μ' => Q .none μ', rt := Q } (ds.map some ++ List.replicate (N.length - ps.length) none) μ) : Def P w0 K mg base (k + 1) x st ps wf := by
  obtain ⟨f, fd, a, F⟩ := h
  exact ⟨f, fd, a, F, fn_dat F S rfl (hb f) hw⟩
section
variable {X : Cx} {k j n : Nat} {st : Stmt} {ps : List Str} {wf : WF} {x : Str} {p pos : Pos} {e : Expr} {es : List Expr} {wa wk : WA}
/-- f(e, ..): hb is «fun _ _ _ _ _ _ us hl => match us, hl with | [_, _], _ => rfl» -/
theorem d_f (D : Def X.prog X.w X.K X.mg X.base k x st ps wf) (hgd : X.A.guards = some []) (hr : Room j X.A) (hk : k ≤ j) (hg : Gl X x)
    (hb : ∀ (kV doc pm : Value) (an : Option Addr) (cdv ct : Value) (us : List Value), us.length = ps.length → bindArgs (PySem.W.fnOf x x (defArgs st) (defBody st) (defScope st) .none kV doc pm an cdv ct) ⟨us, []⟩ = pure (ps.zip us))
    (ha : PA X (e :: es) (tDA X.K wa)) (hd : (x == ("__debug__" : Str)) = false := by decide) (he : starEach (e :: es) X.env = (false, eval e X.env) :: starEach es X.env := by rfl) (hpl : (backTo pos (starEach es X.env)).any (·.1) = false := by rfl) (hn : ps.length = n := by rfl) :
    PE X (.Call (.Name x p) (e :: es) [] pos) (tD X.K (wCall n wf wa)) := by
  subst hn
  obtain ⟨f, fd, hm, F, G⟩ := D
  exact d_call G hgd (hr.mono hk) hg hm F.kp (F.binds hb) ha hd he hpl
theorem d_f0 (D : Def X.prog X.w X.K X.mg X.base k x st ps wf) (hgd : X.A.guards = some []) (hr : Room j X.A) (hk : k ≤ j) (hg : Gl X x)
    (hb : ∀ (kV doc pm : Value) (an : Option Addr) (cdv ct : Value) (us : List Value), us.length = ps.length → bindArgs (PySem.W.fnOf x x (defArgs st) (defBody st) (defScope st) .none kV doc pm an cdv ct) ⟨us, []⟩ = pure (ps.zip us)) (hd : (x == ("__debug__" : Str)) = false := by decide) (hn : ps.length = n := by rfl) :
    PE X (.Call (.Name x p) [] [] pos) (tD X.K (wCall n wf wNil)) := by
  subst hn
  obtain ⟨f, fd, hm, F, G⟩ := D
  exact d_call0 G hgd (hr.mono hk) hg hm F.kp (F.binds hb) hd
/-- keywords in another order -/
def perm {α : Type} (ix : List Nat) (l : List α) : List α := ix.filterMap fun i => l[i]?
theorem perm_vals {vs : List V} {us : List Value} (r : Vals vs us) : ∀ ix : List Nat, Vals (perm ix vs) (perm ix us)
  | [] => .nil
  | i :: ix => by
    have h := perm_vals r ix
    unfold perm at h ⊢
    rw [List.filterMap_cons, List.filterMap_cons]
    cases e : vs[i]? with
    | none =>
      rw [r.none_of e]
      exact h
    | some v =>
      obtain ⟨u, e2, ru⟩ := r.get e
      rw [e2]
      exact .cons ru h
theorem perm_iss {K : PySem.W.Frag} {H : Hp} {vs : List V} {ds : List DV} (r : Iss K H vs ds) : ∀ ix : List Nat, Iss K H (perm ix vs) (perm ix ds)
  | [] => .nil
  | i :: ix => by
    have h := perm_iss r ix
    unfold perm at h ⊢
    rw [List.filterMap_cons, List.filterMap_cons]
    cases e : ds[i]? with
    | none =>
      have : vs[i]? = none := by
        rw [List.getElem?_eq_none_iff] at e ⊢
        rw [r.length]
        exact e
      rw [this]
      exact h
    | some d =>
      obtain ⟨v, e2, rv⟩ := r.get e
      rw [e2]
      exact .cons rv h
def wCallP (n : Nat) (wf : WF) (ix : List Nat) (wk : WA) : WE := fun ρ μ P => wk ρ μ fun ds μ1 => (perm ix ds).length = n ∧ wf (perm ix ds) μ1 P
/-- f(k = e, ..), keywords alone; ix: which keyword stands at each parameter -/
theorem d_fK {ks : List Str} {kws : List Keyword} (ix : List Nat) (D : Def X.prog X.w X.K X.mg X.base k x st ps wf) (hgd : X.A.guards = some []) (hr : Room j X.A) (hk : k ≤ j) (hg : Gl X x)
    (hb : ∀ (kV doc pm : Value) (an : Option Addr) (cdv ct : Value) (ws : List Value), (perm ix ws).length = ps.length → bindArgs (PySem.W.fnOf x x (defArgs st) (defBody st) (defScope st) .none kV doc pm an cdv ct) ⟨[], ks.zip ws⟩ = pure (ps.zip (perm ix ws)))
    (hkw : PK X kws (tDA X.K wk)) (hall : (backToKw pos (keywordEach kws X.env)).all (·.1.isSome) = true := by rfl) (hks : (backToKw pos (keywordEach kws X.env)).filterMap (·.1) = ks := by rfl) (hdb : (x == ("__debug__" : Str)) = false := by decide)
    (hpl : ((backTo pos (starEach [] X.env)).any (·.1) || (backToKw pos (keywordEach kws X.env)).any (·.1.isNone)) = false := by rfl) (hn : ps.length = n := by rfl) : PE X (.Call (.Name x p) [] kws pos) (tD X.K (wCallP n wf ix wk)) := by
  subst hn
  obtain ⟨f, fd, hm, F, G⟩ := D
  obtain ⟨oc, od, kV, doc, pm, an, cdv, ct, osl, efd, lk, hcd⟩ := F.ex
  refine ⟨fun pins s σ H Q I h => ?_⟩
  obtain ⟨R, ρ, μ, P, a, w, kk⟩ := h
  refine wpAny_Call_Name_kw (ld_glob I hg hm (PySem.W.callWith_KW0 (h₀ := X.base) I.ok.mod.kin F.kp hall (thn (hkw.run pos pins s σ H (fun vs H' => spD X.K ps.length wf (perm ix vs) H' Q E0) I ⟨R, ρ, μ, _, a, w, fun ds μ1 vs H1 p1 o1 s1 i1 =>
    ⟨R, perm ix ds, μ1, P, o1, perm_iss i1 ix, p1.1, p1.2, kk.step s1⟩⟩) fun us s2 ⟨zs, H2, I2, rz, q2⟩ => ⟨I2.kIn, ?_⟩) hpl) hdb)
  rw [hks]
  have rr : Vals (perm ix zs) (perm ix us) := perm_vals rz ix
  refine runG (ar := ⟨[], ks.zip us⟩) G hgd (hr.mono hk) I2 ?_ rr q2
  rw [efd]
  exact .of_eq (hb kV doc pm an cdv ct us (by rw [← rr.length]; exact G.len _ _ _ _ q2))
end
end Dz

set_option Elab.async false
set_option linter.all false
set_option maxRecDepth 100000
set_option maxHeartbeats 4000000
/-! Dz9: xs[::-1]; dicts written with many pairs; new objects out of things set aside. -/
namespace Dz
open PySem L2
section
variable {K : PySem.W.Frag} {R : Hp} {μ : Mh} {H : Hp} {p : Addr} {o o' : HO} {m : MO}
/-- what was set aside becomes an object that may change -/
theorem Ok.promote (k : Ok K (upd R p o) μ H) (rn : R p = none) (hm : MOk K (hid (upd R p o) μ H) (upd H p o') (updM μ p m) p m) : Ok K R (updM μ p m) (upd H p o') ∧ hid R (updM μ p m) (upd H p o') = hid (upd R p o) μ H := by
  have mn : μ p = none := k.dj p o upd_same
  have eh : hid R (updM μ p m) (upd H p o') = hid (upd R p o) μ H := by
    funext b
    by_cases z : b = p
    · subst z
      have h1 : hid R (updM μ b m) (upd H b o') b = none := by
        unfold hid
        rw [if_neg fun q => by rw [updM_same] at q; exact Bool.false_ne_true q.2]
      have h2 : hid (upd R b o) μ H b = none := by
        unfold hid
        rw [if_neg fun q => by rw [upd_same] at q; exact Bool.false_ne_true q.1]
      rw [h1, h2]
    · unfold hid
      rw [updM_ne z, upd_ne z, upd_ne z]
  refine ⟨⟨fun a u e => ?_, fun a u e => ?_, fun a u e => ?_⟩, eh⟩
  · have z : a ≠ p := fun z => by subst z; rw [rn] at e; cases e
    rw [upd_ne z]
    exact k.fr a u (by rw [upd_ne z]; exact e)
  · have z : a ≠ p := fun z => by subst z; rw [rn] at e; cases e
    rw [updM_ne z]
    exact k.dj a u (by rw [upd_ne z]; exact e)
  · rw [eh]
    by_cases z : a = p
    · subst z
      rw [updM_same] at e
      cases e
      exact hm
    · rw [updM_ne z] at e
      refine (k.ob a u e).mono (Same.refl _) (upd_ne z) (fun b hb => ?_) e (fun b q => ?_)
      · rw [e] at hb
        cases u with
        | ext near φ =>
          obtain ⟨_, _, hn, _⟩ := k.ob a _ e
          refine upd_ne fun y => ?_
          subst y
          have := hn _ hb
          rw [mn] at this
          cases this
        | _ => cases hb
      · rw [updM_ne fun y => by subst y; rw [mn] at q; cases q]
        exact q
end
/-! ### pairs -/
abbrev trsD (K : PySem.W.Frag) (ws : List (Key × WE)) : List (TE × TE) := ws.map fun kw => (tC (kV kw.1), tD K kw.2)
theorem pairs_imp {K : PySem.W.Frag} {R : Hp} {σ : St} {ρ : Rho} : ∀ (ws : List (Key × WE)) {μ : Mh} {H : Hp} {P : List (Key × DV) → Mh → Prop} {Q : List (V × V) → Hp → Prop}, At K R σ ρ μ H → wPairs ws ρ μ P →
    (∀ (ds : List (Key × DV)) μ' (kvs : List (Key × V)) H', P ds μ' → Ok K R μ' H' → Same (hid R μ H) (hid R μ' H') → kvs.map (·.1) = ws.map (·.1) → kvs.map (·.1) = ds.map (·.1) → Iss K (hid R μ' H') (kvs.map (·.2)) (ds.map (·.2)) → Q (kvs.map fun kv => (kV kv.1, kv.2)) H') → tPairs (trsD K ws) σ H Q
  | [], μ, H, P, Q, a, w, k => k [] μ [] H w a.ok (Same.refl _) rfl rfl .nil
  | (key, w1) :: ws, μ, H, P, Q, a, w, k => by
    show tD K w1 σ H _
    exact ⟨R, ρ, μ, _, a, w, fun d μ1 v H1 p1 o1 s1 i1 => pairs_imp ws (a.step o1 s1) p1 fun ds μ2 kvs H2 p2 o2 s2 e1 e2 i2 =>
      k ((key, d) :: ds) μ2 ((key, v) :: kvs) H2 p2 o2 (s1.trans s2) (by rw [List.map_cons, List.map_cons, e1]) (by rw [List.map_cons, List.map_cons, e2]) (.cons (i1.mono s2) i2)⟩
theorem putK_new {kvs : List (Key × V)} {k : Key} {v : V} (h : k ∉ kvs.map (·.1)) : putK kvs k v = kvs ++ [(k, v)] := by
  unfold putK
  rw [if_neg]
  intro z
  rw [List.any_eq_true] at z
  obtain ⟨x, hx, e⟩ := z
  exact h (List.mem_map.mpr ⟨x, hx, of_decide_eq_true e⟩)
theorem mergeK_new : ∀ (more acc : List (Key × V)), ((acc ++ more).map (·.1)).Nodup → mergeK acc more = acc ++ more
  | [], acc, _ => by rw [List.append_nil]; rfl
  | p :: r, acc, h => by
    show mergeK (putK acc p.1 p.2) r = _
    have h' := h
    rw [List.map_append, List.map_cons, List.nodup_append] at h'
    rw [putK_new (fun z => h'.2.2 _ z _ List.mem_cons_self rfl)]
    have e : acc ++ [(p.1, p.2)] ++ r = acc ++ p :: r := by simp
    rw [mergeK_new r _ (by rw [e]; exact h), e]
section
variable {X : Cx} {pos : Pos} {keys : List (Option Expr)} {values : List Expr}
/-- {k: v, ..}, read alone -/
theorem d_dctN (ws : List (Key × WE)) (h : PPs X pos keys values (trsD X.K ws)) (hall : keys.all (·.isSome) = true := by rfl) (hl : keys.length = values.length := by rfl) (h0 : keys ≠ [] := by intro z; cases z)
    (h15 : keys.length ≤ 15 := by decide) (hw : ws.length ≤ 15 := by decide) (hn : (ws.map (·.1)).Nodup := by decide) : PE X (.Dict keys values pos) (tD X.K (wDct ws)) :=
  PE.imp (pe_disp h hall hl h0 h15) fun σ H Q ⟨R, ρ, μ, P, a, w, k⟩ => fun p n => by
    obtain ⟨o1, e1⟩ := a.ok.frame (o := .dK []) n
    refine pairs_imp ws ⟨o1, by rw [e1]; exact a.sl⟩ w fun ds μ1 kvs H1 p1 o2 s2 e2 e3 i2 => ⟨o2.fr p _ upd_same, kvs, rfl, ?_, ?_⟩
    · have := congrArg List.length e2
      rw [List.length_map, List.length_map] at this
      omega
    have rn := a.ok.freeR n
    rw [e1] at s2
    rw [mergeK_new _ _ (by rw [List.nil_append, e2]; exact hn), List.nil_append]
    obtain ⟨o3, e4⟩ := o2.reframe (o' := .dK kvs)
    obtain ⟨o4, s4, h4⟩ := o3.unframe rn
    rw [e4] at s4
    exact k _ μ1 _ _ p1 o4 (s2.trans s4) (.dct h4 e3 (i2.mono s4))
/-- {k: v, ..} that will change -/
def wDctM (ws : List (Key × WE)) : WE := fun ρ μ P => wPairs ws ρ μ fun ds μ1 => ∀ p, μ1 p = none → P (.obj p) (updM μ1 p (.dct ds))
theorem d_dctM (ws : List (Key × WE)) (h : PPs X pos keys values (trsD X.K ws)) (hall : keys.all (·.isSome) = true := by rfl) (hl : keys.length = values.length := by rfl) (h0 : keys ≠ [] := by intro z; cases z)
    (h15 : keys.length ≤ 15 := by decide) (hw : ws.length ≤ 15 := by decide) (hn : (ws.map (·.1)).Nodup := by decide) : PE X (.Dict keys values pos) (tD X.K (wDctM ws)) :=
  PE.imp (pe_disp h hall hl h0 h15) fun σ H Q ⟨R, ρ, μ, P, a, w, k⟩ => fun p n => by
    obtain ⟨o1, e1⟩ := a.ok.frame (o := .dK []) n
    refine pairs_imp ws ⟨o1, by rw [e1]; exact a.sl⟩ w fun ds μ1 kvs H1 p1 o2 s2 e2 e3 i2 => ⟨o2.fr p _ upd_same, kvs, rfl, ?_, ?_⟩
    · have := congrArg List.length e2
      rw [List.length_map, List.length_map] at this
      omega
    have rn := a.ok.freeR n
    rw [e1] at s2
    rw [mergeK_new _ _ (by rw [List.nil_append, e2]; exact hn), List.nil_append]
    obtain ⟨o3, e4⟩ := o2.promote (o' := .dK kvs) (m := .dct ds) rn ⟨kvs, upd_same, e3, i2⟩
    refine k _ _ _ _ (p1 p (o2.dj p _ upd_same)) o3 ?_ (.obj p)
    rw [e4]
    exact s2
/-! ### xs[::-1] -/
def wRev (w : WE) : WE := fun ρ μ P => w ρ μ fun d μ1 => match d with
  | .lst ds => P (.lst ds.reverse) μ1
  | .fix ds => P (.lst ds.reverse) μ1
  | _ => False
def wRevM (w : WE) : WE := fun ρ μ P => w ρ μ fun d μ1 => match d with
  | .lst ds => ∀ p, μ1 p = none → P (.obj p) (updM μ1 p (.lst ds.reverse))
  | .fix ds => ∀ p, μ1 p = none → P (.obj p) (updM μ1 p (.lst ds.reverse))
  | _ => False
variable {e : Expr} {w : WE} {k1 : Nat} {p1 p2 p3 : Pos}
theorem d_rev (he : PE X e (tD X.K w)) : PE X (.Subscript e (.Slice none none (some (.UnaryOp .USub (.Constant (.int 1) k1 p1) p2)) p3) pos) (tD X.K (wRev w)) :=
  PE.imp (pe_revL he) fun σ H Q ⟨R, ρ, μ, P, a, w, k⟩ => ⟨R, ρ, μ, _, a, w, fun d μ1 v H1 p1 o1 s1 i1 => by
    cases i1 with
    | lst hx rx => exact ⟨_, _, rfl, SqL.of (hid_le _ _ hx), fun p n => (k.step s1).lst o1 p1 rx.reverse n⟩
    | fix hx rx => exact ⟨_, _, rfl, hid_le.seq hx, fun p n => (k.step s1).lst o1 p1 rx.reverse n⟩
    | _ => exact (show False from p1).elim⟩
theorem d_revM (he : PE X e (tD X.K w)) : PE X (.Subscript e (.Slice none none (some (.UnaryOp .USub (.Constant (.int 1) k1 p1) p2)) p3) pos) (tD X.K (wRevM w)) :=
  PE.imp (pe_revL he) fun σ H Q ⟨R, ρ, μ, P, a, w, k⟩ => ⟨R, ρ, μ, _, a, w, fun d μ1 v H1 p1 o1 s1 i1 => by
    have go : ∀ (b : Addr) (xs : List V) (ds : List DV), SqL X.K H1 b xs → Iss X.K (hid R μ1 H1) xs ds → (∀ p, μ1 p = none → P (.obj p) (updM μ1 p (.lst ds.reverse))) → ∃ a xs, V.ref b = .ref a ∧ SqL X.K H1 a xs ∧ ∀ p, H1 p = none → Q (.ref p) (upd H1 p (.lst xs.reverse)) := fun b xs ds hx rx q =>
      ⟨b, xs, rfl, hx, fun p n => by
        have fm := o1.freeM n
        have hs : Same (hid R μ1 H1) (hid R (updM μ1 p (.lst ds.reverse)) (upd H1 p (.lst xs.reverse))) := fun b u e => by
          obtain ⟨e1, e2, e3⟩ := hid_some e
          have ne := ne_of_none e3 n
          rw [hid_at e1 (by rw [updM_ne ne]; exact e2), upd_ne ne]
          exact e3
        obtain ⟨o2, s2⟩ := o1.newM (o := .lst xs.reverse) (m := .lst ds.reverse) n ⟨_, upd_same, rx.reverse.mono hs⟩ (by intro z; cases z)
        exact (k.step s1) _ _ _ _ (q p fm) o2 s2 (.obj p)⟩
    cases i1 with
    | lst hx rx => exact go _ _ _ (SqL.of (hid_le _ _ hx)) rx p1
    | fix hx rx => exact go _ _ _ (hid_le.seq hx) rx p1
    | _ => exact (show False from p1).elim⟩
end
end Dz

set_option Elab.async false
set_option linter.all false
set_option maxRecDepth 100000
set_option maxHeartbeats 2000000
/-! DzD: the deck that the laws draw from: each draw is some number below what is asked. -/
namespace Dz
open PySem L2

/-- a deck that stands at a, its cells at c, good for m draws -/
structure HasDeck (nm : Str) (μ : Mh) (a c : Addr) (m : Nat) : Prop where
  ne : c ≠ a
  ex : ∃ (t n : Int) (cells : List Int), μ a = some (.dct [(.inr "cells", .obj c), (.inr nm, .int t), (.inr "draws", .int n)]) ∧ μ c = some (.lst (cells.map .int)) ∧ 0 ≤ t ∧ t < 2 ^ 32 ∧ 0 ≤ n ∧ n + m ≤ 2 ^ 40 ∧ cells.length ≤ 63
theorem HasDeck.le {nm : Str} {μ : Mh} {a c : Addr} {m m' : Nat} (h : HasDeck nm μ a c m) (l : m' ≤ m) : HasDeck nm μ a c m' := by
  obtain ⟨ne, t, n, cs, h1, h2, h3, h4, h5, h6, h7⟩ := h
  exact ⟨ne, t, n, cs, h1, h2, h3, h4, h5, by omega, h7⟩
theorem HasDeck.keep {nm : Str} {μ μ' : Mh} {a c : Addr} {m : Nat} (h : HasDeck nm μ a c m) (h1 : μ' a = μ a) (h2 : μ' c = μ c) : HasDeck nm μ' a c m := by
  obtain ⟨ne, t, n, cs, e1, e2, r⟩ := h
  exact ⟨ne, t, n, cs, h1.trans e1, h2.trans e2, r⟩
theorem HasDeck.isSome {nm : Str} {μ : Mh} {a c : Addr} {m : Nat} (h : HasDeck nm μ a c m) : (∃ o, μ a = some o) ∧ ∃ o, μ c = some o := by
  obtain ⟨ne, t, n, cs, e1, e2, r⟩ := h
  exact ⟨⟨_, e1⟩, ⟨_, e2⟩⟩
def OnlyDeck (μ μ' : Mh) (a c : Addr) : Prop := ∀ b, b ≠ a → b ≠ c → μ' b = μ b
theorem OnlyDeck.refl {μ : Mh} {a c : Addr} : OnlyDeck μ μ a c := fun _ _ _ => rfl
theorem OnlyDeck.trans {μ μ' μ'' : Mh} {a c : Addr} (h : OnlyDeck μ μ' a c) (h' : OnlyDeck μ' μ'' a c) : OnlyDeck μ μ'' a c := fun b x y => (h' b x y).trans (h b x y)
/-- a draw below many -/
def wfDraw (nm : Str) : WF := fun ds μ Q => ∃ a c m many, ds = [.obj a, .int many] ∧ 0 < many ∧ many < 2 ^ 64 ∧ HasDeck nm μ a c (m + 1) ∧ ∀ r μ', 0 ≤ r → r < many → HasDeck nm μ' a c m → OnlyDeck μ μ' a c → Q (.int r) μ'

abbrev sm (x : Int) : Prop := 0 < x ∧ x < 2 ^ 32
theorem cm_r {i j : Int} (h : sm j) : CMul i j := by unfold sm at h; right; omega
theorem cm_l {i j : Int} (h : sm i) : CMul i j := by unfold sm at h; left; omega
theorem cpow_ten {j : Int} (h : 0 ≤ j) (h' : j ≤ 1000) : CPow 10 j := ⟨h, by omega, by decide⟩

section
variable {μ : Mh} {a : Addr} {kvs : List (Key × DV)} {y d v : DV} {k : Key} {P : DV → Mh → Prop}
theorem dget_o (h : μ a = some (.dct kvs)) (hk : keyD y = some k) (hv : valD kvs k = some d) (q : P d μ) : wDGet (.obj a) y μ P := by
  unfold wDGet
  simp only [h, hk, hv, atW]
  exact q
theorem dput_o {E : DEnds} {ρ : Rho} {i j : Nat} (h : μ a = some (.dct kvs)) (hk : keyD y = some k) (l : kvs.length < sizeLine) (h1 : ρ[i]? = some (some (.obj a))) (h2 : ρ[j]? = some (some v)) (q : E.nx ρ (updM μ a (.dct (putD kvs k v)))) : wDPut (wVar i) (wC y) (wVar j) E ρ μ := by
  unfold wDPut wVar wC
  simp only [h, h1, h2, hk, atW]
  exact ⟨l, q⟩
theorem neL_o {ds : List DV} {es : List DV} (h : μ a = some (.lst ds)) (h1 : shapedD (.lst ds) = true) (h2 : shapedD (.lst es) = true) (q : P (.bool (!deepEq (.lst ds) (.lst es))) μ) : wNeL (.obj a) (.lst es) μ P := by
  show notB wEqL _ _ _ _
  unfold notB wEqL look lookO
  simp only [h]
  exact ⟨h1, h2, q⟩
theorem pop_o {ds : List DV} (h : μ a = some (.lst ds)) (hy : ds[ds.length - 1]? = some y) (q : P y (updM μ a (.lst ds.dropLast))) : wPop (.obj a) μ P := by
  unfold wPop
  simp only [h, hy, atW]
  exact q
end
def wDraw (A B C D E F G I J L M : Int) : WS :=
  (wSeq (wPar 2 3 (wCons (wBin wAdd (wBin wDGet (wVar 0) (wC (.str "draws"))) (wC (.int 1))) (wCons (wBin wDGet (wVar 0) (wC (.str "total"))) wNil)))
    (wSeq (wDPut (wVar 0) (wC (.str "draws")) (wVar 2))
    (wSeq (wIfS (wTest (wBin wNeL (wBin wDGet (wVar 0) (wC (.str "cells"))) (wLst wNil))) (wSeq (wAsg (wUn wPop (wBin wDGet (wVar 0) (wC (.str "cells")))) (wgName 3))
    (wSeq (wIfS (wTest (wBin wGe (wVar 3) (wBin wPow (wC (.int 10)) (wC (.int 18))))) (wSeq (wDrop (wApp (wBin wDGet (wVar 0) (wC (.str "cells"))) (wBin wDiv (wVar 3) (wVar 1))))
    (wRet (wBin wMod (wVar 3) (wVar 1)))) wNext)
    (wAsg (wBin wAdd (wVar 3) (wBin wDGet (wVar 0) (wC (.str "total")))) (wgName 3)))) wNext)
    (wSeq (wAsg (wBin wMod (wBin wMul (wBin wAdd (wBin wAdd (wBin wMod (wVar 3) (wC (.int A))) (wBin wMul (wBin wMul (wC (.int B)) (wVar 2)) (wVar 2))) (wC (.int C))) (wC (.int D))) (wC (.int E))) (wgName 4))
    (wSeq (wAsg (wBin wMod (wBin wAdd (wBin wAdd (wBin wMul (wVar 4) (wVar 4)) (wBin wMul (wC (.int F)) (wVar 2))) (wC (.int G))) (wC (.int I))) (wgName 4))
    (wRet (wBin wMod (wBin wDiv (wBin wMod (wBin wMul (wVar 4) (wC (.int J))) (wC (.int L))) (wC (.int M))) (wVar 1))))))))

theorem canLay_ints : ∀ ns : List Int, PyData.canLayAll0 (toPys (ns.map DV.int)) = true
  | [] => rfl
  | n :: ns => canLay_ints ns
theorem depth_ints : ∀ ns : List Int, PyData.depthAll (toPys (ns.map DV.int)) = 0
  | [] => rfl
  | n :: ns => by
    show max 0 _ = 0
    rw [depth_ints ns]
    rfl
theorem noObjs_ints : ∀ ns : List Int, noObjs (ns.map DV.int) = true
  | [] => rfl
  | n :: ns => noObjs_ints ns
theorem shaped_ints (ns : List Int) : shapedD (.lst (ns.map .int)) = true := by
  have h1 := canLay_ints ns
  have h2 := depth_ints ns
  have h3 := noObjs_ints ns
  show (noObjs (ns.map .int) && (PyData.canLayAll0 (toPys (ns.map .int)) && decide (PyData.depthAll (toPys (ns.map .int)) + 1 ≤ 64))) = true
  rw [h1, h2, h3]
  rfl
/-- the last three rows -/
theorem draw_tail {A B C D E F G I J L M many turn cell : Int} {dk : DV} {μ : Mh} {EE : DEnds} {z : Option DV} (hA : sm A) (hB : sm B) (hD : sm D) (hE : sm E) (hF : sm F) (hI : sm I) (hJ : sm J) (hL : sm L) (hM : sm M) (h1 : 0 ≤ turn) (h2 : turn < 2 ^ 41) (hm : 0 < many)
    (q : ∀ r, 0 ≤ r → r < many → EE.rt (.int r) μ) :
    (wSeq (wAsg (wBin wMod (wBin wMul (wBin wAdd (wBin wAdd (wBin wMod (wVar 3) (wC (.int A))) (wBin wMul (wBin wMul (wC (.int B)) (wVar 2)) (wVar 2))) (wC (.int C))) (wC (.int D))) (wC (.int E))) (wgName 4))
    (wSeq (wAsg (wBin wMod (wBin wAdd (wBin wAdd (wBin wMul (wVar 4) (wVar 4)) (wBin wMul (wC (.int F)) (wVar 2))) (wC (.int G))) (wC (.int I))) (wgName 4))
    (wRet (wBin wMod (wBin wDiv (wBin wMod (wBin wMul (wVar 4) (wC (.int J))) (wC (.int L))) (wC (.int M))) (wVar 1))))) EE [some dk, some (.int many), some (.int turn), some (.int cell), z] μ := by
  have b1 : ∀ x : Int, CMul x turn := fun x => by right; omega
  have bE : ∀ x : Int, CMul (x % E) (x % E) := fun x => by
    left
    have p1 := Int.emod_nonneg x (show E ≠ 0 by omega)
    have p2 := Int.emod_lt_of_pos x hE.1
    omega
  have dM : ∀ x : Int, CDivW x M := fun x => ⟨hM.1, by
    have : M.natAbs < 2 ^ 32 := by omega
    have := (Nat.log2_lt (n := M.natAbs) (k := 9000) (by omega)).mpr (Nat.lt_of_lt_of_le this (Nat.pow_le_pow_right (by decide) (by decide)))
    exact this⟩
  refine ⟨hA.1, cm_l hB, b1 _, cm_r hD, hE.1, bE _, cm_l hF, hI.1, cm_r hJ, hL.1, dM _, hm, q _ (Int.emod_nonneg _ (by omega)) (Int.emod_lt_of_pos _ hm)⟩
theorem draw_ok {A B C D E F G I J L M : Int} (hA : sm A) (hB : sm B) (hD : sm D) (hE : sm E) (hF : sm F) (hI : sm I) (hJ : sm J) (hL : sm L) (hM : sm M) (ds : List DV) (μ : Mh) (Q : DV → Mh → Prop) (hl : ds.length = 2) (h : wfDraw "total" ds μ Q) :
    wDraw A B C D E F G I J L M { nx := fun _ μ' => Q .none μ', rt := Q } (ds.map some ++ List.replicate 3 none) μ := by
  obtain ⟨a, c, m, many, rfl, h0, h64, ⟨ne, t, n, cells, ha, hc, t0, t1, n0, n1, cl⟩, q⟩ := h
  have na : a ≠ c := fun z => ne z.symm
  let μ1 : Mh := updM μ a (.dct [(.inr "cells", .obj c), (.inr "total", .int t), (.inr "draws", .int (n + 1))])
  have ha1 : μ1 a = some (.dct [(.inr "cells", .obj c), (.inr "total", .int t), (.inr "draws", .int (n + 1))]) := updM_same
  have hc1 : μ1 c = some (.lst (cells.map .int)) := (updM_ne ne).trans hc
  have hm1 : CDivW 0 many → True := fun _ => trivial
  have dm : ∀ x : Int, CDivW x many := fun x => ⟨h0, by
    have : many.natAbs < 2 ^ 64 := by omega
    exact (Nat.log2_lt (n := many.natAbs) (k := 9000) (by omega)).mpr (Nat.lt_of_lt_of_le this (Nat.pow_le_pow_right (by decide) (by decide)))⟩
  have fin : ∀ (μ2 : Mh) (cs : List Int), μ2 a = μ1 a → μ2 c = some (.lst (cs.map .int)) → cs.length ≤ 63 → (∀ b, b ≠ a → b ≠ c → μ2 b = μ b) → ∀ r, 0 ≤ r → r < many → Q (.int r) μ2 := fun μ2 cs e1 e2 e3 e4 r r0 r1 =>
    q r μ2 r0 r1 ⟨ne, t, n + 1, cs, e1.trans ha1, e2, t0, t1, by omega, by omega, e3⟩ e4
  have v1 : ∀ x : Int, valD [(.inr "cells", .obj c), (.inr "total", .int t), (.inr "draws", .int x)] (.inr "cells") = some (.obj c) := fun _ => rfl
  have v2 : ∀ x : Int, valD [(.inr "cells", .obj c), (.inr "total", .int t), (.inr "draws", .int x)] (.inr "total") = some (.int t) := fun _ => rfl
  have v3 : ∀ x : Int, valD [(.inr "cells", .obj c), (.inr "total", .int t), (.inr "draws", .int x)] (.inr "draws") = some (.int x) := fun _ => rfl
  have v4 : putD [(.inr "cells", .obj c), (.inr "total", .int t), (.inr "draws", .int n)] (.inr "draws") (.int (n + 1)) = [(.inr "cells", .obj c), (.inr "total", .int t), (.inr "draws", .int (n + 1))] := rfl
  unfold wDraw
  have G1 := @dget_o
  have G2 := @dput_o
  have G3 := @neL_o
  have G4 := @pop_o
  generalize wDGet = g1 at G1 ⊢
  generalize wDPut = g2 at G2 ⊢
  generalize wNeL = g3 at G3 ⊢
  generalize wPop = g4 at G4 ⊢
  refine G1 (y := .str "draws") ha rfl (v3 n) ?_
  refine G1 (y := .str "total") ha rfl (v2 n) ?_
  refine G2 (v := .int (n + 1)) (kvs := [(.inr "cells", .obj c), (.inr "total", .int t), (.inr "draws", .int n)]) ha rfl (Nat.le_of_ble_eq_true rfl) rfl rfl ?_
  rw [v4]
  refine G1 (y := .str "cells") ha1 rfl (v1 _) ?_
  refine ⟨Nat.zero_le _, ?_⟩
  cases cells with
  | nil =>
    refine G3 (es := []) hc1 rfl rfl ?_
    exact draw_tail hA hB hD hE hF hI hJ hL hM (by omega) (by omega) h0 (fin μ1 [] rfl hc1 (Nat.zero_le _) fun b x y => updM_ne x)
  | cons y ys =>
    refine G3 (es := []) hc1 (shaped_ints _) rfl ?_
    refine G1 (y := .str "cells") ha1 rfl (v1 _) ?_
    have hlast : ∃ z, ((y :: ys).map DV.int)[((y :: ys).map DV.int).length - 1]? = some (.int z) := by
      refine ⟨(y :: ys).getLast (by intro z; cases z), ?_⟩
      rw [List.length_map, List.getElem?_map, List.getLast_eq_getElem, List.getElem?_eq_getElem (by simp)]
      rfl
    obtain ⟨z, hz⟩ := hlast
    refine G4 hc1 hz ?_
    have hdl : ((y :: ys).map DV.int).dropLast = (y :: ys).dropLast.map DV.int := by rw [List.map_dropLast]
    have ldl : (y :: ys).dropLast.length ≤ 62 := by rw [List.length_dropLast]; omega
    generalize (y :: ys).dropLast = cs at hdl ldl
    rw [hdl]
    let μ2 : Mh := updM μ1 c (.lst (cs.map .int))
    have ha2 : μ2 a = some (.dct [(.inr "cells", .obj c), (.inr "total", .int t), (.inr "draws", .int (n + 1))]) := (updM_ne na).trans ha1
    have hc2 : μ2 c = some (.lst (cs.map .int)) := updM_same
    refine ⟨cpow_ten (by decide) (by decide), ?_⟩
    cases hge : decide ((10 : Int) ^ 18 ≤ z) with
    | true =>
      have e : decide ((10 : Int) ^ (18 : Int).toNat ≤ z) = true := hge
      show (match decide ((10 : Int) ^ (18 : Int).toNat ≤ z) with | true => _ | false => _)
      rw [e]
      refine G1 (y := .str "cells") ha2 rfl (v1 _) ?_
      refine ⟨?_, dm z, ?_⟩
      · show isLstM (.obj c) μ2
        unfold isLstM
        simp only [hc2]
      · show (match μ2 c with | some (.lst ds) => _ | _ => False)
        rw [hc2]
        refine ⟨by rw [List.length_map, sizeLine_eq]; omega, h0, ?_⟩
        refine fin _ (cs ++ [z / many]) ((updM_ne na).trans ((updM_ne na).trans rfl)) ?_ (by simp; omega) (fun b x y => (updM_ne y).trans ((updM_ne y).trans (updM_ne x))) _ (Int.emod_nonneg _ (by omega)) (Int.emod_lt_of_pos _ h0)
        rw [updM_same, List.map_append]
        rfl
    | false =>
      have e : decide ((10 : Int) ^ (18 : Int).toNat ≤ z) = false := hge
      show (match decide ((10 : Int) ^ (18 : Int).toNat ≤ z) with | true => _ | false => _)
      rw [e]
      refine G1 (y := .str "total") ha2 rfl (v2 _) ?_
      exact draw_tail hA hB hD hE hF hI hJ hL hM (by omega) (by omega) h0 (fin μ2 cs (updM_ne na) hc2 (by omega) fun b x y => (updM_ne y).trans (updM_ne x))

/-! ### the deck made -/
def wDeck (S B A C M : Int) : WS :=
  (wSeq (wPar 1 2 (wCons (wB wList (wCons (wSl (wVar 0) wNoPart (wPart (wC (.int 63)))) wNil)) (wCons (wC (.int S)) wNil)))
    (wSeq (wFor (sLst (wVar 1)) (wgName 3) (wAsg (wBin wMod (wBin wAdd (wBin wAdd (wBin wMul (wVar 2) (wC (.int B))) (wBin wMod (wVar 3) (wC (.int A)))) (wC (.int C))) (wC (.int M))) (wgName 2)))
    (wRet (wDctM [((.inr "cells"), (wRevM (wVar 1))), ((.inr "total"), (wVar 2)), ((.inr "draws"), (wC (.int 0)))]))))
def wfDeck (nm : Str) : WF := fun ds μ Q => ∃ ns : List Int, ds = [.fix (ns.map .int)] ∧ ∀ a c μ', μ a = none → μ c = none → HasDeck nm μ' a c (2 ^ 40) → OnlyDeck μ μ' a c → Q (.obj a) μ'
theorem deck_ok {S B A C M : Int} (hS : 0 ≤ S) (hS2 : S < 2 ^ 32) (hB : sm B) (hA : sm A) (hM : sm M) (ds : List DV) (μ : Mh) (Q : DV → Mh → Prop) (hl : ds.length = 1) (h : wfDeck "total" ds μ Q) :
    wDeck S B A C M { nx := fun _ μ' => Q .none μ', rt := Q } (ds.map some ++ List.replicate 3 none) μ := by
  obtain ⟨ns, rfl, q⟩ := h
  have hcut : cutD (ns.map DV.int) none (some 63) = (ns.take 63).map DV.int := by
    have e0 : HT.sIx (ns.map DV.int).length 0 none = 0 := rfl
    have e1 : min (HT.sIx (ns.map DV.int).length (ns.map DV.int).length (some 63)) (ns.map DV.int).length = min 63 (ns.map DV.int).length := by
      show min (min (63 : Nat) _) _ = _
      omega
    unfold cutD
    rw [e0, List.drop_zero, Nat.sub_zero, List.take_eq_take_min, e1, ← List.take_eq_take_min, List.map_take]
  have hlen : (ns.take 63).length ≤ 63 := by rw [List.length_take]; omega
  have key : ∀ xs : List Int, xs.length ≤ 63 → ∀ t : Int, 0 ≤ t → t < 2 ^ 32 → ∀ z, wRet (wDctM [((.inr "cells"), (wRevM (wVar 1))), ((.inr "total"), (wVar 2)), ((.inr "draws"), (wC (.int 0)))]) { nx := fun _ μ' => Q .none μ', rt := Q } [some (.fix (ns.map .int)), some (.lst (xs.map .int)), some (.int t), z] μ := fun xs hx t t0 t1 z => by
    intro c hc a ha
    have nac : a ≠ c := fun e => by
      subst e
      have : updM μ a _ a = none := ha
      rw [updM_same] at this
      cases this
    have ha' : μ a = none := by
      have h1 : updM μ c _ a = none := ha
      rw [updM_ne nac] at h1
      exact h1
    refine q a c _ ha' hc ⟨fun e => nac e.symm, t, 0, xs.reverse, updM_same, ?_, t0, t1, by omega, by omega, by simp; omega⟩ fun b x y => (updM_ne x).trans (updM_ne y)
    rw [updM_ne fun e => nac e.symm, updM_same, List.map_reverse]
  have loop : ∀ (ys : List Int) (t : Int) (z : Option DV), 0 ≤ t → t < 2 ^ 32 → forW (wgName 3) (wAsg (wBin wMod (wBin wAdd (wBin wAdd (wBin wMul (wVar 2) (wC (.int B))) (wBin wMod (wVar 3) (wC (.int A)))) (wC (.int C))) (wC (.int M))) (wgName 2))
      { nx := wRet (wDctM [((.inr "cells"), (wRevM (wVar 1))), ((.inr "total"), (wVar 2)), ((.inr "draws"), (wC (.int 0)))]) { nx := fun _ μ' => Q .none μ', rt := Q }, rt := Q } (ys.map .int) [some (.fix (ns.map .int)), some (.lst ((ns.take 63).map .int)), some (.int t), z] μ := by
    intro ys
    induction ys with
    | nil => exact fun t z t0 t1 => key _ hlen t t0 t1 z
    | cons y ys ih =>
      intro t z t0 t1
      refine ⟨cm_r hB, hA.1, hM.1, ih _ _ (Int.emod_nonneg _ (by have := hM.1; omega)) (Int.lt_trans (Int.emod_lt_of_pos _ hM.1) hM.2)⟩
  show forW _ _ _ (cutD (ns.map DV.int) none (some 63)) [some (.fix (ns.map .int)), some (.lst (cutD (ns.map DV.int) none (some 63))), some (.int S), none] μ
  rw [hcut]
  exact loop _ S none hS hS2

/-! ### one of some -/
def wPick (f_draw : WF) : WS :=
  (wRet (wBin wIx (wVar 1) (wCall 2 f_draw (wCons (wVar 0) (wCons (wB wLen (wCons (wVar 1) wNil)) wNil)))))
def itemsD : DV → List DV
  | .lst ds => ds
  | .tup ds => ds
  | .str z => signs z
  | _ => []
def wfPick (nm : Str) : WF := fun ds μ Q => ∃ a c m y, ds = [.obj a, y] ∧ 0 < (itemsD y).length ∧ (itemsD y).length ≤ sizeLine ∧ HasDeck nm μ a c (m + 1) ∧ ∀ x μ', x ∈ itemsD y → HasDeck nm μ' a c m → OnlyDeck μ μ' a c → Q x μ'
theorem atI_nat {α : Type} {xs : List α} {r : Int} (h0 : 0 ≤ r) (h1 : r < xs.length) : ∃ x, x ∈ xs ∧ atI xs r = some x := by
  obtain ⟨n, rfl⟩ := Int.eq_ofNat_of_zero_le h0
  have hn : n < xs.length := by omega
  refine ⟨xs[n], List.getElem_mem hn, ?_⟩
  unfold atI ixN
  rw [if_pos h0, if_pos h1]
  show xs[(n : Int).toNat]? = _
  rw [Int.toNat_natCast, List.getElem?_eq_getElem hn]
theorem pick_ok {nm : Str} (ds : List DV) (μ : Mh) (Q : DV → Mh → Prop) (hl : ds.length = 2) (h : wfPick nm ds μ Q) :
    wPick (wfDraw nm) { nx := fun _ μ' => Q .none μ', rt := Q } (ds.map some ++ List.replicate 0 none) μ := by
  obtain ⟨a, c, m, y, rfl, l0, l1, hd, q⟩ := h
  have h64 : sizeLine < 2 ^ 64 := by rw [sizeLine_eq]; decide
  have go : ∀ xs : List DV, 0 < xs.length → xs.length ≤ sizeLine → (∀ r μ', 0 ≤ r → r < (xs.length : Int) → HasDeck nm μ' a c m → OnlyDeck μ μ' a c → wIx y (.int r) μ' Q) → wfDraw nm [.obj a, .int xs.length] μ fun d μ1 => wIx y d μ1 Q :=
    fun xs x0 x1 k => ⟨a, c, m, xs.length, rfl, by omega, by omega, hd, fun r μ' r0 r1 h1 o1 => k r μ' r0 r1 h1 o1⟩
  cases y with
  | lst xs =>
    refine ⟨rfl, go xs l0 l1 fun r μ' r0 r1 h1 o1 => ?_⟩
    obtain ⟨x, hx, e⟩ := atI_nat r0 r1
    show atW (atI xs r) _
    rw [e]
    exact q x μ' hx h1 o1
  | tup xs =>
    refine ⟨rfl, go xs l0 l1 fun r μ' r0 r1 h1 o1 => ?_⟩
    obtain ⟨x, hx, e⟩ := atI_nat r0 r1
    show atW (atI xs r) _
    rw [e]
    exact q x μ' hx h1 o1
  | str z =>
    have el : (signs z).length = z.length := by
      unfold signs
      rw [List.length_map, Array.length_toList]
      rfl
    have l1' : z.length ≤ sizeLine := by
      have : (signs z).length ≤ sizeLine := l1
      omega
    refine ⟨l1', rfl, ?_⟩
    rw [← el]
    refine go (signs z) l0 l1 fun r μ' r0 r1 h1 o1 => ⟨l1', ?_⟩
    have r1' : r < (z.cps.toList.length : Int) := by
      rw [Array.length_toList]
      have : (signs z).length = z.cps.size := el
      omega
    obtain ⟨x, hx, e⟩ := atI_nat r0 r1'
    rw [e]
    exact q _ μ' (List.mem_map.mpr ⟨x, hx, rfl⟩) h1 o1
  | _ => exact absurd l0 (Nat.lt_irrefl 0)
end Dz

set_option Elab.async false
set_option linter.all false
set_option maxRecDepth 100000
set_option maxHeartbeats 2000000
/-! DzS: how great data is, so that repr may show it. -/
namespace Dz
open PySem L2

/-- signs that chr knows -/
def plainS (x : Str) : Bool := x.cps.toList.all fun c => decide (c < 0x110000)
mutual
/-- texts of such signs -/
def plD : DV → Bool
  | .str x => plainS x
  | .tup ds => plDs ds
  | .lst ds => plDs ds
  | .dct kvs => plDk kvs
  | _ => true
def plDs : List DV → Bool
  | [] => true
  | d :: ds => plD d && plDs ds
def plDk : List (Key × DV) → Bool
  | [] => true
  | (.inr x, d) :: r => plainS x && plD d && plDk r
  | (.inl _, d) :: r => plD d && plDk r
end
/-- at most N in bulk, p deep -/
structure Siz (N p : Nat) (d : DV) : Prop where
  no : noObj d = true
  sh : (toPy d).showable = true
  lv : (toPy d).leavesShort 64 = true
  bk : (toPy d).bulk ≤ N
  dp : (toPy d).depth ≤ p
  pl : plD d = true
structure Sizs (N p : Nat) (ds : List DV) : Prop where
  no : noObjs ds = true
  sh : PyData.showableAll (toPys ds) = true
  lv : PyData.leavesShortAll 64 (toPys ds) = true
  bk : PyData.bulkAll (toPys ds) ≤ N
  dp : PyData.depthAll (toPys ds) ≤ p
  pl : plDs ds = true
theorem Siz.le {N N' p p' : Nat} {d : DV} (h : Siz N p d) (hN : N ≤ N') (hp : p ≤ p') : Siz N' p' d := ⟨h.no, h.sh, h.lv, Nat.le_trans h.bk hN, Nat.le_trans h.dp hp, h.pl⟩
theorem Siz.shows {N p : Nat} {d : DV} (h : Siz N p d) (hN : N ≤ 2 ^ 17) (hp : p ≤ 60) : Shows d := by
  refine ⟨h.no, h.sh, ?_, Nat.le_trans h.dp hp⟩
  have h1 := PyData.shown_le_bulk 64 (by decide) (toPy d) h.lv
  have h2 := h.bk
  rw [sizeLine_eq]
  omega
theorem Siz.none : Siz 0 0 .none := ⟨rfl, rfl, rfl, Nat.le_refl _, Nat.le_refl _, rfl⟩
theorem Siz.bool (b : Bool) : Siz 0 0 (.bool b) := ⟨rfl, rfl, rfl, Nat.le_refl _, Nat.le_refl _, rfl⟩
theorem Siz.int {i : Int} (h : i.natAbs < 10 ^ 60) : Siz 0 0 (.int i) := by
  refine ⟨rfl, ?_, ?_, Nat.le_refl _, Nat.le_refl _, rfl⟩
  · show decide (i.natAbs.log2 < 1920) = true
    rw [decide_eq_true_eq]
    by_cases z : i.natAbs = 0
    · rw [z]; decide
    · exact (Nat.log2_lt z).mpr (Nat.lt_of_lt_of_le (Nat.lt_trans h (show 10 ^ 60 < 2 ^ 240 by decide)) (Nat.pow_le_pow_right (by decide) (by decide)))
  · show decide ((PyData.shown (.int i)).length ≤ 64) = true
    rw [decide_eq_true_eq]
    have e := int_text_length_le10 (k := 60) (by decide) h
    show (Str.ofString (toString i)).length ≤ 64
    rw [ofString_length]
    omega
theorem Siz.str {x : Str} (h : plainS x = true) : Siz x.length 0 (.str x) := by
  refine ⟨rfl, rfl, ?_, Nat.le_refl _, Nat.le_refl _, h⟩
  show (x.cps.toList.all fun c => decide (c < 16 ^ 8)) = true
  unfold plainS at h
  rw [List.all_eq_true] at h ⊢
  intro c hc
  have := of_decide_eq_true (h c hc)
  exact decide_eq_true (Nat.lt_trans this (by decide))
theorem Sizs.nil : Sizs 0 0 [] := ⟨rfl, rfl, rfl, Nat.le_refl _, Nat.le_refl _, rfl⟩
theorem Sizs.cons {N M p : Nat} {d : DV} {ds : List DV} (h : Siz N p d) (r : Sizs M p ds) : Sizs (N + 1 + M) p (d :: ds) := by
  refine ⟨?_, ?_, ?_, ?_, ?_, by show (plD d && plDs ds) = true; rw [h.pl, r.pl]; rfl⟩
  · show (noObj d && noObjs ds) = true
    rw [h.no, r.no]; rfl
  · show ((toPy d).showable && _) = true
    rw [h.sh, r.sh]; rfl
  · show ((toPy d).leavesShort 64 && _) = true
    rw [h.lv, r.lv]; rfl
  · show (toPy d).bulk + 1 + _ ≤ _
    have := h.bk; have := r.bk; omega
  · show max _ _ ≤ p
    exact Nat.max_le.mpr ⟨h.dp, r.dp⟩
theorem Sizs.le {N N' p p' : Nat} {ds : List DV} (h : Sizs N p ds) (hN : N ≤ N') (hp : p ≤ p') : Sizs N' p' ds := ⟨h.no, h.sh, h.lv, Nat.le_trans h.bk hN, Nat.le_trans h.dp hp, h.pl⟩
theorem Sizs.all {N p : Nat} : ∀ {ds : List DV}, (∀ d ∈ ds, Siz N p d) → Sizs (ds.length * (N + 1)) p ds
  | [], _ => Sizs.nil.le (by omega) (by omega)
  | d :: ds, h => by
    have r := Sizs.cons (h d List.mem_cons_self) (Sizs.all (N := N) (p := p) fun e he => h e (List.mem_cons_of_mem _ he))
    refine r.le ?_ (Nat.le_refl _)
    rw [List.length_cons, Nat.succ_mul]
    omega
theorem Siz.tup {N p : Nat} {ds : List DV} (h : Sizs N p ds) : Siz N (p + 1) (.tup ds) := ⟨h.no, h.sh, h.lv, h.bk, Nat.succ_le_succ h.dp, h.pl⟩
theorem Siz.lst {N p : Nat} {ds : List DV} (h : Sizs N p ds) : Siz N (p + 1) (.lst ds) := ⟨h.no, h.sh, h.lv, h.bk, Nat.succ_le_succ h.dp, h.pl⟩
theorem Siz.dct0 : Siz 0 1 (.dct []) := ⟨rfl, rfl, rfl, Nat.le_refl _, Nat.le_refl _, rfl⟩
theorem Siz.dct1 {N p : Nat} {k : Str} {d : DV} (hk : plainS k = true) (h : Siz N p d) : Siz (k.length + N + 2) (p + 1) (.dct [(.inr k, d)]) := by
  have hs := Siz.str hk
  refine ⟨?_, ?_, ?_, ?_, ?_, by show (plainS k && plD d && true) = true; rw [hk, h.pl]; rfl⟩
  · show (noObj d && true) = true
    rw [h.no]; rfl
  · show (true && (toPy d).showable && true) = true
    rw [h.sh]; rfl
  · show ((PyData.str k).leavesShort 64 && (toPy d).leavesShort 64 && true) = true
    rw [show (PyData.str k).leavesShort 64 = true from hs.lv, h.lv]; rfl
  · show k.cps.size + (toPy d).bulk + 2 + 0 ≤ _
    have := h.bk
    have e : k.cps.size = k.length := rfl
    omega
  · show max (max 0 (toPy d).depth) 0 + 1 ≤ _
    have := h.dp
    omega
/-- flat things, by computing -/
def sizB (d : DV) : Bool := match d with
  | .none => true
  | .bool _ => true
  | .int i => decide (i.natAbs < 10 ^ 60)
  | .str x => plainS x
  | _ => false
mutual
/-- no dicts -/
def noDct : DV → Bool
  | .tup ds => noDcts ds
  | .lst ds => noDcts ds
  | .dct _ => false
  | _ => true
def noDcts : List DV → Bool
  | [] => true
  | d :: ds => noDct d && noDcts ds
end
theorem strOk_plain {x : Str} (h : plainS x = true) : PyData.strOk x = true := by
  unfold plainS at h
  show x.cps.all _ = true
  rw [← Array.all_toList]
  exact h
mutual
theorem canLay_of : ∀ {d : DV}, plD d = true → noDct d = true → (toPy d).canLay0 = true
  | .none, _, _ => rfl
  | .bool _, _, _ => rfl
  | .int _, _, _ => rfl
  | .str x, h, _ => strOk_plain h
  | .tup ds, h, n => canLays_of (ds := ds) h n
  | .lst ds, h, n => canLays_of (ds := ds) h n
  | .dct _, _, n => absurd n Bool.false_ne_true
  | .obj _, _, _ => rfl
  | .fix _, _, _ => rfl
theorem canLays_of : ∀ {ds : List DV}, plDs ds = true → noDcts ds = true → PyData.canLayAll0 (toPys ds) = true
  | [], _, _ => rfl
  | d :: ds, h, n => by
    have h' := Bool.and_eq_true_iff.mp (show (plD d && plDs ds) = true from h)
    have n' := Bool.and_eq_true_iff.mp (show (noDct d && noDcts ds) = true from n)
    show ((toPy d).canLay0 && _) = true
    rw [canLay_of h'.1 n'.1, canLays_of h'.2 n'.2]
    rfl
end
theorem Siz.shaped {N p : Nat} {d : DV} (h : Siz N p d) (hp : p ≤ 64) (n : noDct d = true) : shapedD d = true := by
  show (noObj d && ((toPy d).canLay0 && decide ((toPy d).depth ≤ 64))) = true
  rw [h.no, canLay_of h.pl n, decide_eq_true (Nat.le_trans h.dp hp)]
  rfl
end Dz

set_option Elab.async false
set_option linter.all false
set_option maxRecDepth 100000
set_option maxHeartbeats 2000000
/-! DzL: loops and comprehensions by an invariant. -/
namespace Dz
open PySem L2

theorem comp_rule {g : WG} {t : WT} {e : WE} {ρ : Rho} {G : DV → Prop} {I : Nat → Mh → Prop} {n : Nat} : ∀ (xs acc : List DV) (μ : Mh) (P : List DV → Mh → Prop),
    (∀ x ∈ xs, ∀ (μ : Mh) (k : Nat) (acc : List DV) (P : List DV → Mh → Prop), I (k + 1) μ → acc.length < sizeLine → (∀ y μ', G y → I k μ' → P (acc ++ [y]) μ') → (∀ μ', I k μ' → P acc μ') →
      g x ρ fun ρ1 => t ρ1 μ fun b μ1 => match b with
        | true => e ρ1 μ1 fun y μ2 => acc.length < sizeLine ∧ P (acc ++ [y]) μ2
        | false => P acc μ1) →
    acc.length + xs.length ≤ sizeLine → (∀ y ∈ acc, G y) → I (n + xs.length) μ → (∀ zs μ', (∀ y ∈ zs, G y) → zs.length ≤ acc.length + xs.length → I n μ' → P zs μ') → compW g t e ρ xs acc μ P
  | [], acc, μ, P, _, _, hg, hi, q => q acc μ hg (by simp) hi
  | x :: xs, acc, μ, P, hx, hl, hg, hi, q => by
    rw [List.length_cons] at hl
    refine hx x List.mem_cons_self μ (n + xs.length) acc (fun ac μ' => compW g t e ρ xs ac μ' P) hi (by omega) (fun y μ' gy i' => ?_) (fun μ' i' => ?_)
    · refine comp_rule xs (acc ++ [y]) μ' P (fun z hz => hx z (List.mem_cons_of_mem _ hz)) (by simp; omega) (fun z hz => ?_) i' (fun zs μ2 h1 h2 h3 => q zs μ2 h1 (by simp at h2 ⊢; omega) h3)
      rcases List.mem_append.mp hz with hz | hz
      · exact hg z hz
      · rw [List.mem_singleton] at hz; rw [hz]; exact gy
    · exact comp_rule xs acc μ' P (fun z hz => hx z (List.mem_cons_of_mem _ hz)) (by omega) hg i' (fun zs μ2 h1 h2 h3 => q zs μ2 h1 (by simp at h2 ⊢; omega) h3)
/-- the same, each thing kept -/
theorem comp_all {g : WG} {e : WE} {ρ : Rho} {G : DV → Prop} {I : Nat → Mh → Prop} {n : Nat} : ∀ (xs acc : List DV) (μ : Mh) (P : List DV → Mh → Prop),
    (∀ x ∈ xs, ∀ (μ : Mh) (k : Nat) (P : DV → Mh → Prop), I (k + 1) μ → (∀ y μ', G y → I k μ' → P y μ') → g x ρ fun ρ1 => e ρ1 μ P) →
    acc.length + xs.length ≤ sizeLine → (∀ y ∈ acc, G y) → I (n + xs.length) μ → (∀ zs μ', (∀ y ∈ zs, G y) → zs.length = acc.length + xs.length → I n μ' → P zs μ') → compW g wYes e ρ xs acc μ P
  | [], acc, μ, P, _, _, hg, hi, q => q acc μ hg (by simp) hi
  | x :: xs, acc, μ, P, hx, hl, hg, hi, q => by
    rw [List.length_cons] at hl
    refine hx x List.mem_cons_self μ (n + xs.length) _ hi (fun y μ' gy i' => ⟨by omega, ?_⟩)
    refine comp_all xs (acc ++ [y]) μ' P (fun z hz => hx z (List.mem_cons_of_mem _ hz)) (by simp; omega) (fun z hz => ?_) i' (fun zs μ2 h1 h2 h3 => q zs μ2 h1 (by simp at h2 ⊢; omega) h3)
    rcases List.mem_append.mp hz with hz | hz
    · exact hg z hz
    · rw [List.mem_singleton] at hz; rw [hz]; exact gy
/-- for x in xs, with an invariant that counts down -/
theorem for_rule {g : WG} {b : WS} {E : DEnds} {I : Nat → Rho → Mh → Prop} {n : Nat} : ∀ (xs : List DV) (ρ : Rho) (μ : Mh),
    (∀ x ∈ xs, ∀ (k : Nat) (ρ : Rho) (μ : Mh) (F : DEnds), I (k + 1) ρ μ → F.rt = E.rt → F.bk = E.nx → (∀ ρ' μ', I k ρ' μ' → F.nx ρ' μ') → (∀ ρ' μ', I k ρ' μ' → F.ct ρ' μ') → g x ρ fun ρ1 => b F ρ1 μ) →
    I (n + xs.length) ρ μ → (∀ ρ' μ', I n ρ' μ' → E.nx ρ' μ') → forW g b E xs ρ μ
  | [], ρ, μ, _, hi, q => q ρ μ hi
  | x :: xs, ρ, μ, hx, hi, q => by
    refine hx x List.mem_cons_self (n + xs.length) ρ μ { nx := forW g b E xs, rt := E.rt, bk := E.nx, ct := forW g b E xs } hi rfl rfl (fun ρ' μ' i' => ?_) (fun ρ' μ' i' => ?_)
    · exact for_rule xs ρ' μ' (fun z hz => hx z (List.mem_cons_of_mem _ hz)) i' q
    · exact for_rule xs ρ' μ' (fun z hz => hx z (List.mem_cons_of_mem _ hz)) i' q
theorem rngD_mem {lo : Int} {n : Nat} {d : DV} (h : d ∈ rngD lo n) : ∃ i : Int, d = .int i ∧ lo ≤ i ∧ i < lo + n := by
  unfold rngD at h
  rw [List.mem_map] at h
  obtain ⟨i, hi, rfl⟩ := h
  rw [List.mem_range] at hi
  exact ⟨_, rfl, by omega, by omega⟩
theorem rngD_len {lo : Int} {n : Nat} : (rngD lo n).length = n := by
  unfold rngD
  rw [List.length_map, List.length_range]
/-- a filter and a map without a step of the world -/
theorem comp_pure {g : WG} {t : WT} {e : WE} {ρ : Rho} {μ : Mh} (b : DV → Bool) (f : DV → DV) : ∀ (xs acc : List DV) (P : List DV → Mh → Prop),
    (∀ x ∈ xs, ∀ (acc : List DV) (P : List DV → Mh → Prop), acc.length < sizeLine → (if b x = true then P (acc ++ [f x]) μ else P acc μ) →
      g x ρ fun ρ1 => t ρ1 μ fun b μ1 => match b with
        | true => e ρ1 μ1 fun y μ2 => acc.length < sizeLine ∧ P (acc ++ [y]) μ2
        | false => P acc μ1) →
    acc.length + xs.length ≤ sizeLine → P (acc ++ (xs.filter b).map f) μ → compW g t e ρ xs acc μ P
  | [], acc, P, _, _, q => by
    have q' : P (acc ++ []) μ := q
    rw [List.append_nil] at q'
    exact q'
  | x :: xs, acc, P, hx, hl, q => by
    rw [List.length_cons] at hl
    refine hx x List.mem_cons_self acc (fun ac μ' => compW g t e ρ xs ac μ' P) (by omega) ?_
    by_cases hb : b x = true
    · rw [if_pos hb]
      rw [List.filter_cons_of_pos hb, List.map_cons] at q
      refine comp_pure b f xs (acc ++ [f x]) P (fun z hz => hx z (List.mem_cons_of_mem _ hz)) (by simp; omega) ?_
      rw [List.append_assoc]
      exact q
    · rw [if_neg hb]
      rw [List.filter_cons_of_neg hb] at q
      exact comp_pure b f xs acc P (fun z hz => hx z (List.mem_cons_of_mem _ hz)) (by omega) q
/-- data has a type -/
theorem ty_of_noObj : ∀ {d : DV} {μ : Mh}, noObj d = true → ∃ t, tyD d μ = some t
  | .none, _, _ => ⟨_, rfl⟩
  | .bool _, _, _ => ⟨_, rfl⟩
  | .int _, _, _ => ⟨_, rfl⟩
  | .str _, _, _ => ⟨_, rfl⟩
  | .tup _, _, _ => ⟨_, rfl⟩
  | .lst _, _, _ => ⟨_, rfl⟩
  | .dct _, _, _ => ⟨_, rfl⟩
  | .obj _, _, h => by cases h
  | .fix _, _, h => by cases h
end Dz

set_option Elab.async false
set_option linter.all false
set_option maxRecDepth 100000
set_option maxHeartbeats 1000000
/-! DzT: texts put together. -/
namespace Dz
open PySem L2 TL

abbrev sg (x : Str) : List Nat := x.cps.toList
theorem sg_len (x : Str) : (sg x).length = x.length := Array.length_toList
theorem plain_iff {x : Str} : plainS x = true ↔ ∀ c ∈ sg x, c < 0x110000 := by
  unfold plainS
  rw [List.all_eq_true]
  exact ⟨fun h c hc => of_decide_eq_true (h c hc), fun h c hc => decide_eq_true (h c hc)⟩
theorem sg_append (x y : Str) : sg (x ++ y) = sg x ++ sg y := by
  show (x.cps ++ y.cps).toList = _
  rw [Array.toList_append]
theorem len_append (x y : Str) : (x ++ y).length = x.length + y.length := by
  rw [← sg_len, sg_append, List.length_append, sg_len, sg_len]
theorem plain_append {x y : Str} (h : plainS x = true) (h' : plainS y = true) : plainS (x ++ y) = true := by
  rw [plain_iff] at *
  intro c hc
  rw [sg_append, List.mem_append] at hc
  exact hc.elim (h c) (h' c)
theorem plain_one {c : Nat} (h : c < 0x110000) : plainS ⟨#[c]⟩ = true := by
  rw [plain_iff]
  intro d hd
  have : d = c := by simpa [sg] using hd
  omega
theorem plain_cut {x : Str} (lo hi : Option Int) (h : plainS x = true) : plainS (cutS x lo hi) = true := by
  rw [plain_iff] at *
  intro c hc
  unfold cutS sg at hc
  have hc' : c ∈ (x.cps.toList.drop (HT.sIx x.length 0 lo)).take (HT.sIx x.length x.length hi - HT.sIx x.length 0 lo) := hc
  exact h c (List.mem_of_mem_drop (List.mem_of_mem_take hc'))
theorem len_cut (x : Str) (lo hi : Option Int) : (cutS x lo hi).length ≤ x.length := by
  rw [← sg_len, ← sg_len]
  show ((x.cps.toList.drop _).take _).length ≤ _
  rw [List.length_take, List.length_drop]
  show _ ≤ x.cps.toList.length
  omega
theorem len_cut_to (x : Str) (k : Int) (h : 0 ≤ k) : (cutS x none (some k)).length ≤ k.toNat := by
  rw [← sg_len]
  show ((x.cps.toList.drop _).take _).length ≤ _
  rw [List.length_take]
  have e : HT.sIx x.length x.length (some k) = min k.toNat x.length := by
    show (if k < 0 then _ else min k.toNat x.length) = _
    rw [if_neg (by omega)]
  rw [e]
  omega
theorem pos_cut_to {x : Str} {k : Int} (h : 0 < k) (hx : 0 < x.length) : 0 < (cutS x none (some k)).length := by
  rw [← sg_len]
  show 0 < ((x.cps.toList.drop _).take _).length
  rw [List.length_take, List.length_drop]
  have e : HT.sIx x.length x.length (some k) = min k.toNat x.length := by
    show (if k < 0 then _ else min k.toNat x.length) = _
    rw [if_neg (by omega)]
  have e0 : HT.sIx x.length 0 none = 0 := rfl
  rw [e, e0]
  have : x.cps.toList.length = x.length := sg_len x
  omega
theorem mem_joinL {S : List Nat} {c : Nat} : ∀ {ls : List (List Nat)}, c ∈ joinL S ls → c ∈ S ∨ ∃ l ∈ ls, c ∈ l
  | [], h => by cases h
  | [p], h => .inr ⟨p, List.mem_singleton.mpr rfl, h⟩
  | p :: q :: r, h => by
    have h' : c ∈ p ++ (S ++ joinL S (q :: r)) := h
    rw [List.mem_append, List.mem_append] at h'
    rcases h' with h | h | h
    · exact .inr ⟨p, List.mem_cons_self, h⟩
    · exact .inl h
    · rcases mem_joinL h with h | ⟨l, hl, h⟩
      · exact .inl h
      · exact .inr ⟨l, List.mem_cons_of_mem _ hl, h⟩
theorem plain_join {y : Str} {xs : List Str} (hy : plainS y = true) (h : ∀ x ∈ xs, plainS x = true) : plainS (Txt.join y xs) = true := by
  rw [plain_iff] at *
  intro c hc
  rw [join_eq] at hc
  have hc' : c ∈ joinL (tl y) (xs.map tl) := by rw [← tl_join]; exact hc
  rcases mem_joinL hc' with h' | ⟨l, hl, h'⟩
  · exact hy c h'
  · rw [List.mem_map] at hl
    obtain ⟨x, hx, rfl⟩ := hl
    exact plain_iff.mp (h x hx) c h'
theorem len_joinL (S : List Nat) : ∀ ls : List (List Nat), (joinL S ls).length ≤ (ls.map (·.length)).sum + ls.length * S.length
  | [] => Nat.zero_le _
  | [p] => by
    show p.length ≤ p.length + 0 + 1 * S.length
    omega
  | p :: q :: r => by
    have ih := len_joinL S (q :: r)
    show (p ++ (S ++ joinL S (q :: r))).length ≤ p.length + ((q :: r).map (·.length)).sum + ((q :: r).length + 1) * S.length
    rw [List.length_append, List.length_append, Nat.succ_mul]
    omega
theorem len_join (y : Str) (xs : List Str) : (Txt.join y xs).length ≤ (xs.map (·.length)).sum + xs.length * y.length := by
  have h := len_joinL (tl y) (xs.map tl)
  have e : (Txt.join y xs).length = (tl (Str.join y xs)).length := by rw [join_eq]; exact (sg_len _).symm
  rw [e, tl_join]
  have e2 : ((xs.map tl).map (·.length)) = xs.map (·.length) := by
    rw [List.map_map]
    exact List.map_congr_left fun x _ => sg_len x
  rw [e2, List.length_map] at h
  exact Nat.le_trans h (Nat.add_le_add_left (Nat.mul_le_mul_left _ (Nat.le_of_eq (sg_len y))) _)
theorem sum_ones {xs : List Str} (h : ∀ x ∈ xs, x.length ≤ 1) : (xs.map (·.length)).sum ≤ xs.length := by
  induction xs with
  | nil => exact Nat.le_refl _
  | cons x xs ih =>
    have := h x List.mem_cons_self
    have := ih fun z hz => h z (List.mem_cons_of_mem _ hz)
    rw [List.map_cons, List.sum_cons, List.length_cons]
    omega
theorem sum_ge {xs : List Str} (h : ∀ x ∈ xs, 1 ≤ x.length) : xs.length ≤ (xs.map (·.length)).sum := by
  induction xs with
  | nil => exact Nat.le_refl _
  | cons x xs ih =>
    have := h x List.mem_cons_self
    have := ih fun z hz => h z (List.mem_cons_of_mem _ hz)
    rw [List.map_cons, List.sum_cons, List.length_cons]
    omega
theorem foldl_sg (x : Array Nat) : ∀ (n : Nat) (acc : Array Nat), ((List.replicate n x).foldl (· ++ ·) acc).toList = acc.toList ++ (List.replicate n x.toList).flatten
  | 0, acc => by simp
  | n + 1, acc => by
    rw [List.replicate_succ, List.foldl_cons, foldl_sg x n, Array.toList_append, List.replicate_succ, List.flatten_cons, List.append_assoc]
theorem sg_rep (x : Str) (n : Nat) : sg (strRep x n) = (List.replicate n (sg x)).flatten := by
  unfold strRep
  show ((List.replicate n x.cps).foldl (· ++ ·) #[]).toList = _
  rw [foldl_sg]
  rfl
theorem len_rep (x : Str) (n : Nat) : (strRep x n).length = n * x.length := by
  rw [← sg_len, sg_rep, ← sg_len x, List.length_flatten, List.map_replicate, List.sum_replicate_nat]
theorem plain_rep {x : Str} (n : Nat) (h : plainS x = true) : plainS (strRep x n) = true := by
  rw [plain_iff] at *
  intro c hc
  rw [sg_rep, List.mem_flatten] at hc
  obtain ⟨l, hl, hc⟩ := hc
  rw [List.mem_replicate] at hl
  rw [hl.2] at hc
  exact h c hc
/-- things that are texts of one sign -/
def One (d : DV) : Prop := ∃ c, d = .str ⟨#[c]⟩ ∧ c < 0x110000
theorem ones_of {zs : List DV} (h : ∀ z ∈ zs, One z) : ∃ ys : List Str, zs = ys.map .str ∧ (∀ y ∈ ys, plainS y = true ∧ y.length = 1) := by
  induction zs with
  | nil => exact ⟨[], rfl, fun _ h => by cases h⟩
  | cons z zs ih =>
    obtain ⟨c, rfl, hc⟩ := h z List.mem_cons_self
    obtain ⟨ys, rfl, hy⟩ := ih fun z hz => h z (List.mem_cons_of_mem _ hz)
    refine ⟨⟨#[c]⟩ :: ys, rfl, fun y h => ?_⟩
    rcases List.mem_cons.mp h with rfl | h
    · exact ⟨plain_one hc, rfl⟩
    · exact hy y h
theorem one_signs {x : Str} (h : plainS x = true) : ∀ z ∈ signs x, One z := by
  intro z hz
  unfold signs at hz
  rw [List.mem_map] at hz
  obtain ⟨c, hc, rfl⟩ := hz
  exact ⟨c, rfl, plain_iff.mp h c hc⟩
theorem len_signs (x : Str) : (signs x).length = x.length := by
  unfold signs
  rw [List.length_map, Array.length_toList]
  rfl
theorem len_join_ge (y : Str) (xs : List Str) : (xs.map (·.length)).sum ≤ (Txt.join y xs).length := PyProof.Rows.len_join_ge_sum y xs
end Dz

set_option Elab.async false
set_option linter.all false
set_option maxRecDepth 100000
set_option maxHeartbeats 1000000
/-! DzE: a law's start and end. -/
namespace Dz
open PySem L2

theorem at1_of {K : PySem.W.Frag} {h : Heap} {mg : Str → Option Value} {x : Str} {st : Stmt} {f : Addr} {oc kV dc pm cd ct : Value} {od an : Option Addr} {sl : Array (Option Value)} (X : K.In h) (G : h.Ns mainGlobals mg) (a : PySem.W.nsIn K mainGlobals x = some (some (.ref f)))
    (l : K.lookup f = some ⟨oc, od, .func (PySem.W.fnOf x x (defArgs st) (defBody st) (defScope st) .none kV dc pm an cd ct), sl⟩) (c : PySem.W.codeIn K cd x = true) (k : PySem.W.keepIn K (.ref f) = true) : At1 K mg x st :=
  ⟨f, _, PySem.W.mg_of X G a, fun_mk l c k⟩
/-- a law over a script: its promise at the start -/
theorem law_start {wf : WF} {K : PySem.W.Frag} {H : Hp} {a : Addr} {ns : List Int} (h : ∀ μ P, (∀ μ', P (.bool true) μ') → wf [.fix (ns.map .int)] μ P) (hS : SqL K H a (ns.map V.int)) : spD K 1 wf [.ref a] H (fun v _ => v = .bl true) fun _ _ _ => False := by
  refine ⟨fun _ => none, [.fix (ns.map .int)], fun _ => none, fun d _ => d = .bool true, ⟨fun a o z => (by cases z), fun a o z => (by cases z), fun a o z => (by cases z)⟩, ?_, rfl, h _ _ fun _ => rfl, fun d μ' v H' p o s i => ?_⟩
  · have e : hid (fun _ => none) (fun _ => none) H = H := by
      funext b
      unfold hid
      rw [if_pos ⟨rfl, rfl⟩]
    rw [e]
    refine .cons (.fix hS ?_) .nil
    induction ns with
    | nil => exact .nil
    | cons n ns ih =>
      refine .cons (.int n) ?_
      clear ih h hS
      induction ns with
      | nil => exact .nil
      | cons m ns ih => exact .cons (.int m) ih
  · subst p
    cases i
    rfl
end Dz

set_option Elab.async false
set_option linter.all false
set_option maxRecDepth 100000
set_option maxHeartbeats 2000000
/-! DzA: split, sorted, *xs in a display, list(xs) that changes, enumerate. -/
namespace Dz
open PySem L2

section
variable {K : PySem.W.Frag} {R : Hp} {μ : Mh} {H : Hp} {P : DV → Mh → Prop} {Q : VK}
/-- a new list that will change -/
theorem Nxt.lstM {xs : List V} {ds : List DV} {p : Addr} (k : Nxt K R μ H P Q) (o : Ok K R μ H) (q : ∀ p, μ p = none → P (.obj p) (updM μ p (.lst ds))) (r : Iss K (hid R μ H) xs ds) (n : H p = none) : Q (.ref p) (upd H p (.lst xs)) := by
  have fm := o.freeM n
  have hs : Same (hid R μ H) (hid R (updM μ p (.lst ds)) (upd H p (.lst xs))) := fun b u e => by
    obtain ⟨e1, e2, e3⟩ := hid_some e
    have ne := ne_of_none e3 n
    rw [hid_at e1 (by rw [updM_ne ne]; exact e2), upd_ne ne]
    exact e3
  obtain ⟨o2, s2⟩ := o.newM (o := .lst xs) (m := .lst ds) n ⟨_, upd_same, r.mono hs⟩ (by intro z; cases z)
  exact k _ _ _ _ (q p fm) o2 s2 (.obj p)
theorem Nxt.dctM0 {p : Addr} (k : Nxt K R μ H P Q) (o : Ok K R μ H) (q : ∀ p, μ p = none → P (.obj p) (updM μ p (.dct []))) (n : H p = none) : Q (.ref p) (upd H p (.dK [])) := by
  have fm := o.freeM n
  have hs : Same (hid R μ H) (hid R (updM μ p (.dct [])) (upd H p (.dK []))) := fun b u e => by
    obtain ⟨e1, e2, e3⟩ := hid_some e
    have ne := ne_of_none e3 n
    rw [hid_at e1 (by rw [updM_ne ne]; exact e2), upd_ne ne]
    exact e3
  obtain ⟨o2, s2⟩ := o.newM (o := .dK []) (m := .dct []) n ⟨[], upd_same, rfl, .nil⟩ (by intro z; cases z)
  exact k _ _ _ _ (q p fm) o2 s2 (.obj p)
end
/-! ### {} and list(xs) that will change -/
def wDct0M : WE := fun _ μ P => ∀ p, μ p = none → P (.obj p) (updM μ p (.dct []))
section
variable {X : Cx} {pos p : Pos} {e : Expr} {w : WE}
theorem d_dct0M : PE X (.Dict [] [] pos) (tD X.K wDct0M) :=
  PE.imp pe_dnewK fun σ H Q ⟨R, ρ, μ, P, a, w, k⟩ => fun p n => k.dctM0 a.ok w n
def newL (ds : List DV) (μ : Mh) (P : DV → Mh → Prop) : Prop := ∀ p, μ p = none → P (.obj p) (updM μ p (.lst ds))
def wListM : WB
  | [.lst ds], μ, P => newL ds μ P
  | [.tup ds], μ, P => newL ds μ P
  | [.obj a], μ, P => match μ a with | some (.lst ds) => newL ds μ P | _ => False
  | _, _, _ => False
theorem listM_rd {K : PySem.W.Frag} : RAD K (fun xs H Q => ∃ p ys, xs = [.ref p] ∧ (SqL K H p ys ∨ SqT K H p ys) ∧ ∀ l, H l = none → Q (.ref l) (upd H l (.lst ys))) wListM := by
  intro R μ H vs ds P Q o i w k
  match ds, w with
  | [.lst ds], w =>
    obtain ⟨v, rfl, i1⟩ := i.one
    cases i1 with | lst hx rx => exact ⟨_, _, rfl, .inl (SqL.of (hid_le _ _ hx)), fun l n => k.lstM o w rx n⟩
  | [.tup ds], w =>
    obtain ⟨v, rfl, i1⟩ := i.one
    cases i1 with | tup hx rx => exact ⟨_, _, rfl, .inr (Same.seqT hid_le hx), fun l n => k.lstM o w rx n⟩
  | [.obj a], w =>
    obtain ⟨v, rfl, i1⟩ := i.one
    have w' : (match μ a with | some (.lst ds) => newL ds μ P | _ => False) := w
    split at w'
    · rename_i ds e
      obtain ⟨xs, h1, r⟩ := o.ob a _ e
      cases i1
      exact ⟨_, _, rfl, .inl (SqL.of h1), fun l n => k.lstM o w' r n⟩
    · exact w'.elim
theorem d_listM (hg : Gl X "list") (hm : X.mg "list" = none) (ha : PE X e (tD X.K w)) (hs : starEach [e] X.env = [(false, eval e X.env)] := by rfl) : PE X (.Call (.Name "list" p) [e] [] pos) (tD X.K (wB wListM (wCons w wNil))) :=
  d_callTy call_list_of listM_rd hg hm (by decide +kernel) (da_cons ha da_nil hs) (by decide) (by decide) hs rfl
/-! ### a.split(b) -/
theorem strs_is {K : PySem.W.Frag} {H : Hp} : ∀ ys : List Str, Iss K H (ys.map V.str) (ys.map DV.str)
  | [] => .nil
  | y :: ys => .cons (.str y) (strs_is ys)
def wSplit (wa wb : WE) : WE := fun ρ μ P => wa ρ μ fun x μ1 => match x with
  | .str a => wb ρ μ1 fun y μ2 => match y with
    | .str b => (b.length == 0) = false ∧ a.length + 2 ≤ sizeLine ∧ P (.lst ((Txt.split a b).map .str)) μ2
    | _ => False
  | _ => False
variable {o : Expr} {wo : WE} {apos : Pos}
theorem d_split (ho : PE X o (tD X.K wo)) (he : PE X e (tD X.K w)) (hs : starEach [e] X.env = [(false, eval e X.env)] := by rfl) (hbase : attributeBase o "split" X.env (eval o X.env) = eval o X.env := by rfl) (hline : (apos.endLine == pos.line) = true := by rfl) :
    PE X (.Call (.Attribute o "split" apos) [e] [] pos) (tD X.K (wSplit wo w)) :=
  PE.imp (pe_split ho he hs hbase hline) fun σ H Q ⟨R, ρ, μ, P, a, w, k⟩ => ⟨R, ρ, μ, _, a, w, fun x μ1 v H1 p1 o1 s1 i1 => by
    cases i1 with
    | str z => exact ⟨⟨z, rfl⟩, R, ρ, μ1, _, a.step o1 s1, p1, fun y μ2 u H2 p2 o2 s2 i2 => by
        cases i2 with
        | str b => exact ⟨z, b, rfl, rfl, p2.1, p2.2.1, fun p n => (k.step (s1.trans s2)).lst o2 p2.2.2 (strs_is _) n⟩
        | _ => exact (show False from p2).elim⟩
    | _ => exact (show False from p1).elim⟩
/-! ### *e in a display -/
def wStar (we : WE) (wr : WA) : WA := fun ρ μ P => we ρ μ fun x μ1 => match x with
  | .tup ds => wr ρ μ1 fun es μ2 => P (ds ++ es) μ2
  | .lst ds => wr ρ μ1 fun es μ2 => P (ds ++ es) μ2
  | _ => False
variable {es : List Expr} {wr : WA}
theorem da_star (he : PE X e (tD X.K w)) (hr : PA X es (tDA X.K wr)) (hs : starEach (.Starred e p :: es) X.env = (true, eval e X.env) :: starEach es X.env := by rfl) : PA X (.Starred e p :: es) (tDA X.K (wStar w wr)) :=
  PA.imp (StX.pa_star he hr hs) fun σ H Q ⟨R, ρ, μ, P, a, w, k⟩ => ⟨R, ρ, μ, _, a, w, fun x μ1 v H1 p1 o1 s1 i1 => by
    cases i1 with
    | tup hx rx => exact ⟨_, _, rfl, .inl (Same.seqT hid_le hx), R, ρ, μ1, _, a.step o1 s1, p1, fun ds μ2 vs H2 p2 o2 s2 i2 => k _ μ2 _ H2 p2 o2 (s1.trans s2) ((rx.mono s2).append i2)⟩
    | lst hx rx => exact ⟨_, _, rfl, .inr (SqL.of (hid_le _ _ hx)), R, ρ, μ1, _, a.step o1 s1, p1, fun ds μ2 vs H2 p2 o2 s2 i2 => k _ μ2 _ H2 p2 o2 (s1.trans s2) ((rx.mono s2).append i2)⟩
    | _ => exact (show False from p1).elim⟩
end

/-! ### sorted(xs) of data that can be compared place by place -/
def allAlike (ds : List DV) : Bool := ds.all fun d => ds.all fun e => PySem.W.alike (toPy d) (toPy e)
def sortable (ds : List DV) : Bool := (ds.all fun d => match d with | .tup (_ :: _) => true | _ => false) || ds.all fun d => match d with | .int _ => true | .str _ => true | _ => false
def leD (a b : DV) : Bool := !PySem.W.dataLt (toPy b) (toPy a)
def sortW (ds : List DV) (μ : Mh) (P : DV → Mh → Prop) : Prop := noObjs ds = true ∧ allAlike ds = true ∧ sortable ds = true ∧ (∀ d ∈ ds, (toPy d).depth ≤ 60) ∧ ds.length ≤ sizeLine ∧ ∀ es : List DV, es.Perm ds → es.Pairwise (fun a b => leD a b = true) → P (.lst es) μ
def wSorted : WB
  | [.lst ds], μ, P => sortW ds μ P
  | [.obj a], μ, P => match μ a with | some (.lst ds) => sortW ds μ P | _ => False
  | _, _, _ => False
def rSortedD (K : PySem.W.Frag) : List V → Hp → VK → Prop := fun vs H Q => ∃ (a : Addr) (xs : List V) (ds : List DV), vs = [V.ref a] ∧ SqL K H a xs ∧ Iss K H xs ds ∧ noObjs ds = true ∧ allAlike ds = true ∧ sortable ds = true ∧ (∀ d ∈ ds, (toPy d).depth ≤ 60) ∧ ds.length ≤ sizeLine ∧
  ∀ (ps : List (V × DV)) (p : Addr), ps.Perm (xs.zip ds) → (ps.map (·.2)).Pairwise (fun a b => leD a b = true) → H p = none → Q (.ref p) (upd H p (.lst (ps.map (·.1))))
theorem Iss.zipAll {K : PySem.W.Frag} {H : Hp} : ∀ {xs : List V} {ds : List DV}, Iss K H xs ds → ∀ p ∈ xs.zip ds, Is K H p.1 p.2
  | _, _, .nil, p, h => by cases h
  | _, _, .cons h r, p, hp => by
    rcases List.mem_cons.mp hp with rfl | hp
    · exact h
    · exact Iss.zipAll r p hp
theorem Iss.ofAll {K : PySem.W.Frag} {H : Hp} : ∀ {ps : List (V × DV)}, (∀ p ∈ ps, Is K H p.1 p.2) → Iss K H (ps.map (·.1)) (ps.map (·.2))
  | [], _ => .nil
  | p :: ps, h => .cons (h p List.mem_cons_self) (Iss.ofAll fun q hq => h q (List.mem_cons_of_mem _ hq))
theorem zip_snd {α β : Type} : ∀ {xs : List α} {ys : List β}, xs.length = ys.length → (xs.zip ys).map (·.2) = ys
  | [], [], _ => rfl
  | _ :: xs, _ :: ys, h => by
    rw [List.zip_cons_cons, List.map_cons, zip_snd (by simpa using h)]
  | [], _ :: _, h => by cases h
  | _ :: _, [], h => by cases h
section
variable {X : Cx}
theorem each_of {H : Hp} {pins : List (Addr × Obj)} {σ : L2.St} {s : Shared} (I : Inv X pins σ H s) (hs : ∃ o, X.base.get? sysModules = some o) : ∀ {xs : List V} {ds : List DV} {us : List Value}, Iss X.K H xs ds → noObjs ds = true → Vals xs us →
    PySem.W.EachIs (fun (u : Value) (b : V × DV) => RelV b.1 u) us (xs.zip ds) ∧ PySem.W.EachIs (fun (u : Value) (b : V × DV) => ∃ as, Reads s.heap u (toPy b.2) as) us (xs.zip ds)
  | _, _, _, .nil, _, r => by cases r; exact ⟨.nil, .nil⟩
  | _, _, _, .cons h rr, n, r => by
    cases r with
    | cons r1 r2 =>
      have n' := Bool.and_eq_true_iff.mp n
      obtain ⟨e1, e2⟩ := each_of I hs rr n'.2 r2
      obtain ⟨as, q, _⟩ := Is.reads I hs h n'.1 r1
      exact ⟨.cons r1 e1, .cons ⟨as, q⟩ e2⟩
theorem vals_of_each : ∀ {us : List Value} {ps : List (V × DV)}, PySem.W.EachIs (fun (u : Value) (b : V × DV) => RelV b.1 u) us ps → Vals (ps.map (·.1)) us
  | _, _, .nil => .nil
  | _, _, .cons h r => .cons h (vals_of_each r)
theorem call_sortedD {k : Nat} (hr : Room k X.A) (hs : ∃ o, X.base.get? sysModules = some o) : CallR X (.builtin "sorted") (rSortedD X.K) := by
  intro pins s σ H vs us Q I r h
  obtain ⟨a, xs, ds, rfl, hl, ri, no, al, so, dp, sz, q⟩ := h
  obtain ⟨its, rv, hl2, _⟩ := I.list hl
  rw [Vals.ref1 r]
  obtain ⟨e1, e2⟩ := each_of I hs ri no rv
  have hlen : (xs.zip ds).length = ds.length := by rw [List.length_zip, ri.length, Nat.min_self]
  have hsnd : (xs.zip ds).map (fun b => toPy b.2) = ds.map toPy := by
    have := congrArg (List.map toPy) (zip_snd ri.length)
    rw [List.map_map] at this
    exact this
  have hmem : ∀ b ∈ xs.zip ds, b.2 ∈ ds := fun b hb => by
    have := List.mem_map_of_mem (f := (·.2)) hb
    rw [zip_snd ri.length] at this
    exact this
  refine PySem.W.sorted_data (enc := fun b : V × DV => toPy b.2) hl2.isList e1 e2 ?_ ?_ (by rw [hlen]; exact sz) (fun b hb => ?_) fun out h1 h2 => ?_
  · rw [hsnd]
    intro d hd d' hd'
    rw [List.mem_map] at hd hd'
    obtain ⟨x, hx, rfl⟩ := hd
    obtain ⟨y, hy, rfl⟩ := hd'
    unfold allAlike at al
    rw [List.all_eq_true] at al
    have := al x hx
    rw [List.all_eq_true] at this
    exact this y hy
  · rw [hsnd]
    unfold sortable at so
    rw [Bool.or_eq_true, List.all_eq_true, List.all_eq_true] at so
    rcases so with so | so
    · refine .inl fun d hd => ?_
      rw [List.mem_map] at hd
      obtain ⟨x, hx, rfl⟩ := hd
      have := so x hx
      match x, this with
      | .tup (y :: ys), _ => exact ⟨toPy y, toPys ys, rfl⟩
    · refine .inr fun d hd => ?_
      rw [List.mem_map] at hd
      obtain ⟨x, hx, rfl⟩ := hd
      have := so x hx
      match x, this with
      | .int i, _ => exact ⟨fun z => (by cases z), fun xs z => (by cases z)⟩
      | .str i, _ => exact ⟨fun z => (by cases z), fun xs z => (by cases z)⟩
  · have h1 := dp b.2 (hmem b hb)
    have := hr.un
    show X.A.units + 2 + (toPy b.2).depth < cLine
    omega
  · obtain ⟨ep, he'⟩ := PyProof.Rows.sortedAll_at s.heap its out.toArray
    have rv2 := vals_of_each h2
    have pw := List.pairwise_mergeSort (le := PySem.W.dataLe false fun b : V × DV => toPy b.2) (PySem.W.sortLe_total _ false _).trans (fun a b => by
      rw [Bool.or_eq_true]
      exact (PySem.W.sortLe_total (PyProof.Rows.listOrd PyProof.Rows.itemOrd) false fun b : V × DV => PySem.W.keyToks (toPy b.2)).total a b) (xs.zip ds)
    have pm := List.mergeSort_perm (xs.zip ds) (PySem.W.dataLe false fun b : V × DV => toPy b.2)
    generalize hms : (xs.zip ds).mergeSort (PySem.W.dataLe false fun b : V × DV => toPy b.2) = ps at rv2 pm pw
    have hz : (ps.map (·.1)).length ≤ sizeLine := by
      rw [List.length_map, pm.length_eq, hlen]
      exact sz
    refine ⟨.ref _, upd H (s.heap.objs.size + 1) (.lst (ps.map (·.1))), I.laid (t' := s.toks) (fun _ _ => PyProof.Rows.sortedAll_old) (Nat.le_succ _) ⟨hz, out, ep, rv2, he'⟩, rfl, q ps _ pm ?_ (I.hok.fresh (Nat.le_succ _))⟩
    rw [List.pairwise_map]
    exact pw.imp fun {a b} h => h
end
section
variable {X : Cx} {p pos : Pos} {e : Expr} {w : WE}
theorem Iss.noLen {K : PySem.W.Frag} {H : Hp} {ps : List (V × DV)} (h : ∀ q ∈ ps, Is K H q.1 q.2) : Iss K H (ps.map (·.1)) (ps.map (·.2)) := Iss.ofAll h
theorem sorted_rd {K : PySem.W.Frag} : RAD K (rSortedD K) wSorted := by
  intro R μ H vs ds P Q o i w k
  have go : ∀ (a : Addr) (xs : List V) (ds : List DV), SqL K H a xs → Iss K (hid R μ H) xs ds → sortW ds μ P → rSortedD K [.ref a] H Q := by
    rintro a xs ds hx rx ⟨no, al, so, dp, sz, w⟩
    refine ⟨a, xs, ds, rfl, hx, rx.mono hid_le, no, al, so, dp, sz, fun ps p pm pw n => ?_⟩
    have hall : ∀ q ∈ ps, Is K (hid R μ H) q.1 q.2 := fun q hq => Iss.zipAll rx q (pm.mem_iff.mp hq)
    have hp2 : (ps.map (·.2)).Perm ds := by
      have := pm.map (·.2)
      rw [zip_snd rx.length] at this
      exact this
    exact k.lst o (w _ hp2 pw) (Iss.ofAll hall) n
  match ds, w with
  | [.lst ds], w =>
    obtain ⟨v, rfl, i1⟩ := i.one
    cases i1 with
    | @lst a xs _ hx rx => exact go a xs ds (SqL.of (hid_le _ _ hx)) rx w
  | [.obj a], w =>
    obtain ⟨v, rfl, i1⟩ := i.one
    have w' : (match μ a with | some (.lst ds) => sortW ds μ P | _ => False) := w
    split at w'
    · rename_i ds e
      obtain ⟨xs, h1, r⟩ := o.ob a _ e
      cases i1
      exact go a xs ds (SqL.of h1) r w'
    · exact w'.elim
theorem d_sorted {k : Nat} (hr : Room k X.A) (hsm : ∃ o, X.base.get? sysModules = some o) (hg : Gl X "sorted") (hm : X.mg "sorted" = none) (ha : PE X e (tD X.K w)) (hs : starEach [e] X.env = [(false, eval e X.env)] := by rfl) :
    PE X (.Call (.Name "sorted" p) [e] [] pos) (tD X.K (wB wSorted (wCons w wNil))) :=
  d_callB (call_sortedD hr hsm) sorted_rd hg hm (by decide +kernel) (da_cons ha da_nil hs) (by decide) (by decide) hs rfl
end

end Dz

set_option Elab.async false
set_option linter.all false
set_option maxRecDepth 100000
set_option maxHeartbeats 4000000
namespace Dz
open PySem L2 PyProof.Rows

/-! ### enumerate of a tuple or a list -/
def enumD : Nat → List DV → List DV
  | _, [] => []
  | i, d :: ds => .tup [.int (i : Nat), d] :: enumD (i + 1) ds
theorem enumD_len : ∀ (k : Nat) (ds : List DV), (enumD k ds).length = ds.length
  | _, [] => rfl
  | k, _ :: ds => congrArg (· + 1) (enumD_len (k + 1) ds)
theorem enumD_get : ∀ (k : Nat) (ds : List DV) (i : Nat) {d : DV}, ds[i]? = some d → (enumD k ds)[i]? = some (.tup [.int ((k + i : Nat)), d])
  | _, [], _, _, h => by simp at h
  | k, e :: ds, 0, d, h => by
    have : e = d := by simpa using h
    subst this
    rfl
  | k, _ :: ds, i + 1, d, h => by
    have := enumD_get (k + 1) ds i (by simpa using h)
    have e : k + 1 + i = k + (i + 1) := by omega
    rw [e] at this
    simpa [enumD] using this
set_option maxHeartbeats 4000000 in
theorem newEnumB {v : Value} {ob : Obj} {HH : Heap → Prop} (B : Begins v ob HH) :
    Meets (Builtin.«enumerate.__new__» ⟨[.type "enumerate", v], []⟩) (fun _ R s => HH s.heap ∧
      R (.ok (.ret (.ref (s.heap.push ob).objs.size))) { s with heap := (s.heap.push ob).push { cls := .type "enumerate", data := .fields #[.none, .bool false, .ref s.heap.objs.size, rawInt 0, .none, .none] } }) :=
  .of_wp fun prog w A R s h => by
    obtain ⟨hp, g, d, tk, os⟩ := s
    obtain ⟨hb, h⟩ := h
    have hsub := sub_enumerate
    have begin_ : ∀ {A' : Around} {E : Value → Shared → Prop} {Q : Value → Shared → Prop}, Q (.ref hp.objs.size) ⟨hp.push ob, g, d, tk, os⟩ → wpAny (model prog w) A' (pyIter v) Q E ⟨hp, g, d, tk, os⟩ :=
      fun q => B.iter prog w _ _ ⟨hp, g, d, tk, os⟩ _ hb q
    wp_walk using begin_
    refine wpAny_stack_any fun st => wpAny_pure ?_
    split
    · rename_i cl _ _ _ _ _
      cases (cl == Value.type "enumerate")
      all_goals
        wp_walk using begin_
        exact ⟨_, rfl, h⟩
    · wp_walk using begin_
      exact ⟨_, rfl, h⟩
theorem call_enumB {prog : Program} {w : World} {A : Around} {E : Value → Shared → Prop} {s : Shared} {v : Value} {ob : Obj} {HH : Heap → Prop} {Q : Value → Shared → Prop} (B : Begins v ob HH) (hb : HH s.heap)
    (h : ∀ h', IsEnum h' (s.heap.objs.size + 1) s.heap.objs.size 0 .none → h'.get? s.heap.objs.size = some ob → h'.objs.size = s.heap.objs.size + 2 →
      (∀ b o, s.heap.get? b = some o → h'.get? b = some o) → Q (.ref (s.heap.objs.size + 1)) { s with heap := h' }) : wpAny (model prog w) A (call (.type "enumerate") [v]) Q E s := by
  refine callType_new F.called_enumerate (by decide) (F.typeCall_enumerate_1 _) (F.newCall_enumerate_1 _) (fun obj => F.args_object_init_2 obj _) F.entry_enumerate_new (newEnumB B) ⟨hb, ?_⟩
  have size1 : (s.heap.push ob).objs.size = s.heap.objs.size + 1 := Heap.size_push ..
  show _ ∧ _
  rw [size1]
  have made : IsEnum ((s.heap.push ob).push { cls := .type "enumerate", data := .fields #[.none, .bool false, .ref s.heap.objs.size, rawInt 0, .none, .none] }) (s.heap.objs.size + 1) s.heap.objs.size 0 .none := by
    have z := Heap.get?_push_size (s.heap.push ob) (o := { cls := .type "enumerate", data := .fields #[.none, .bool false, .ref s.heap.objs.size, rawInt 0, .none, .none] }) rfl
    rw [size1] at z
    exact z
  refine ⟨⟨_, made, rfl⟩, h _ made (Heap.get?_push_of_some _ (Heap.get?_push_size _ B.free)) (by rw [Heap.size_push, size1]) fun b o x => Heap.get?_push_of_some _ (Heap.get?_push_of_some _ x)⟩

/-- a tuple walked with places -/
def IteT (K : PySem.W.Frag) (a : Addr) : It where
  go := fun i H => ∃ (xs : List V) (x : V), SqT K H a xs ∧ xs[i]? = some x
  yld := fun i H v H' => ∃ T x, v = .ref T ∧ H T = none ∧ H' = upd H T (.tup [.int (i : Nat), x]) ∧ ∀ xs, SqT K H a xs → xs[i]? = some x
  stop := fun i H => ∃ xs : List V, SqT K H a xs ∧ xs.length ≤ i
theorem turn_enumT {P : Program} {w : World} {K : PySem.W.Frag} {elts : List Expr} {kk : Nat} {tpos : Pos} (a e it : Addr) :
    Turn P w K (.Tuple elts kk tpos) (IteT K a) [e, it] e (fun i h => (∃ old, IsEnum h e it ((i : Nat) : Int) old) ∧ h.IsTupleIter it a i ∧ e ≠ it) where
  mem := by simp
  obj := fun i h st b hb => by
    obtain ⟨⟨old, he⟩, ⟨o, ho, hc, hd⟩, _⟩ := st
    rcases (show b = e ∨ b = it by simpa using hb) with rfl | rfl
    · exact ⟨_, he, fun v q => nomatch q⟩
    · exact ⟨o, ho, fun v q => by rw [hd] at q; cases q⟩
  keep := fun i h h' st k => by
    obtain ⟨⟨old, he⟩, hi, hne⟩ := st
    exact ⟨⟨old, k e (by simp) _ he⟩, hi.at fun o q => k it (by simp) o q, hne⟩
  item := by
    intro X hP hw hK hc i pins s σ H E I hf st hg
    subst hP hw hK
    obtain ⟨⟨old, he⟩, hit, hne⟩ := st
    obtain ⟨xs, x, hq, hx⟩ := hg
    obtain ⟨its, rv, p, hz⟩ := I.tuple hq
    obtain ⟨u, hu, ru⟩ := rv.get hx
    have hel : e < s.heap.objs.size := Heap.lt_size he
    have hil : it < s.heap.objs.size := by obtain ⟨_, q, _⟩ := hit; exact Heap.lt_size q
    have pT : s.heap.IsTuple a its.toArray := p
    have hai : a ≠ it := fun z => by
      obtain ⟨o1, g1, c1, _⟩ := hit
      obtain ⟨o2, g2, c2, _⟩ := pT
      rw [z, g1] at g2
      cases g2
      rw [c1] at c2
      injection c2 with q
      exact absurd q (by decide)
    have hae : e ≠ a := fun z => by
      obtain ⟨o2, g2, c2, _⟩ := pT
      rw [← z, he] at g2
      cases g2
      injection c2 with q
      exact absurd q (by decide)
    refine wpAny_pyNext_enum_itemD (Draws.tuple (prog := X.prog) (w := X.w) (A := X.A.in1) (I.ok.hd hc) it a hai its.toArray) he ⟨hit, pT⟩ ?_ hne ?_ fun x' h' tk hx' ho hst' hT hsz hk => ?_
    · obtain ⟨hi, _⟩ := List.getElem?_eq_some_iff.mp hu
      simpa using hi
    · intro hm
      rcases (show e = it ∨ e = a by simpa using hm) with z | z
      · exact hne z
      · exact hae z
    · have ex : x' = u := by
        have e1 : its.toArray[i]? = some x' := hx'
        have e2 : its.toArray[i]? = some u := by simpa using hu
        rw [e1] at e2
        exact Option.some.inj e2
      subst ex
      refine ⟨_, rfl, wpAny_letOwnedTupleGo_enum (s := { s with heap := h', toks := tk + 1 }) ho fun h'' he' sb => ?_⟩
      have hT2 : h''.get? s.heap.objs.size = some { cls := .type "tuple", data := .seq #[.int i tk, x'] } := (sb.2 _ (Nat.ne_of_gt hel)).trans hT
      have new : ObjOk X.prog X.w (upd H s.heap.objs.size (.tup [.int (i : Nat), x])) h'' s.heap.objs.size (.tup [.int (i : Nat), x]) :=
        ⟨by show 2 ≤ sizeLine; decide, [.int i tk, x'], .cons ⟨_, rfl⟩ (.cons ru .nil), ⟨_, hT2, rfl, _, rfl⟩⟩
      have I1 : Inv X pins σ (upd H s.heap.objs.size (.tup [.int (i : Nat), x])) { s with heap := h'', toks := tk + 1 } :=
        I.turnedNew (ch := [e, it]) (fun b ob hb q => (sb.2 b (fun z => hb (by simp [z]))).trans (hk b ob (fun z => hb (by simp [z])) (fun z => hb (by simp [z])) q)) hf (Nat.le_refl _) new
      refine ⟨.ref s.heap.objs.size, _, I1, rfl, ⟨_, x, rfl, I.hok.fresh (Nat.le_refl _), rfl, fun ys hy => by rw [I.tuple_inj hy hq]; exact hx⟩, ⟨⟨x', ?_⟩, hst'.1.at fun o q => (sb.2 it (Ne.symm hne)).trans q, hne⟩, fun b hb => ?_⟩
      · rw [show ((i + 1 : Nat) : Int) = (i : Int) + 1 by omega]
        exact he'
      · have hb' : b < s.heap.objs.size := by
          rcases (show b = e ∨ b = it by simpa using hb) with rfl | rfl
          · exact hel
          · exact hil
        rw [upd_ne (Nat.ne_of_lt hb')]
        exact (hf b hb).1
  done := by
    intro X hP hw hK hc i pins s σ H E I hf st hg
    subst hP hw hK
    obtain ⟨⟨old, he⟩, hit, hne⟩ := st
    obtain ⟨xs, hq, hx⟩ := hg
    obtain ⟨its, rv, p, hz⟩ := I.tuple hq
    obtain ⟨f0, f1, f2, f3, f4, f5⟩ := hf it (by simp)
    have pT : s.heap.IsTuple a its.toArray := p
    have hl := rv.length
    have D : Draws X.prog X.w X.A.in1 it [it, a] i (fun _ _ => False) (fun j h => j = i ∧ h.IsTupleIter it a j ∧ h.IsTuple a its.toArray) := {
      live := fun _ _ st => let ⟨o, ho, _⟩ := st.2.1; ⟨o, ho⟩
      frame := fun _ _ _ st hk => ⟨st.1, st.2.1.at fun o e => hk it (by simp) o e, st.2.2.at fun o e => hk a (by simp) o e⟩
      item := fun j s Q E hj st _ => absurd hj (by rw [st.1]; exact Nat.lt_irrefl _)
      done := fun s Q E st hE => wpAny_nextOf_tuple_end (A := X.A.in1) (I.ok.hd hc) st.2.1 st.2.2 (by simp; omega) hE }
    exact wpAny_pyNext_enum_endD D he ⟨rfl, hit, pT⟩ fun h' eb => ⟨rfl, I.turned (t' := s.toks) (fun b o hb q => eb b o hb q) f0 f1 f3 f4 f5⟩
  self := fun A i s Q E st h => let ⟨⟨_, he⟩, _⟩ := st; wpAny_pyIter_enum he h
def iEnumT (K : PySem.W.Frag) (ta : TA) : TI := fun σ H R => ta σ H fun vs H1 => ∃ a xs, vs = [V.ref a] ∧ SqT K H1 a xs ∧ R (IteT K a) H1
theorem pi_enumT {X : Cx} {e : Expr} {ta : TA} {p pos tpos : Pos} {elts : List Expr} {kk : Nat} (hg : Gl X "enumerate") (hm : X.mg "enumerate" = none) (ha : PA X [e] ta) (hs : starEach [e] X.env = [(false, eval e X.env)] := by rfl) :
    PI X (.Tuple elts kk tpos) (.Call (.Name "enumerate" p) [e] [] pos) (iEnumT X.K ta) := by
  refine ⟨fun pins s σ H R I h => Call_ (ld_blt I hg hm boot_enumerate (PyProof.Rows.callWith_type1 (thn (ha.run pos pins s σ H _ I h) fun us s1 ⟨vs, H1, I1, r1, q1⟩ => ?_) hs rfl))⟩
  obtain ⟨a, xs, ex, hq, q⟩ := q1
  subst ex
  cases r1 with
  | cons r rr =>
    cases rr
    cases r
    obtain ⟨its, rv, p', hz⟩ := I1.tuple hq
    have pT : s1.heap.IsTuple a its.toArray := p'
    refine call_enumB (begins_tuple a its.toArray) pT fun h' he hit hsz hk => wpAny_pyIter_enum he ?_
    have I2 : Inv X pins σ H1 { s1 with heap := h' } := I1.kept (t' := s1.toks) hk
    refine ⟨s1.heap.objs.size + 1, [s1.heap.objs.size + 1, s1.heap.objs.size], _, _, H1, rfl, I2, turn_enumT a (s1.heap.objs.size + 1) s1.heap.objs.size, ⟨⟨.none, he⟩, ⟨_, hit, rfl, rfl⟩, Nat.succ_ne_self _⟩, fun b hb => ?_, q⟩
    have hle : s1.heap.objs.size ≤ b := by
      rcases (show b = s1.heap.objs.size + 1 ∨ b = s1.heap.objs.size by simpa using hb) with z | z
      · rw [z]; exact Nat.le_add_right _ _
      · rw [z]; exact Nat.le_refl _
    exact I1.fpOk hle (I1.hok.fresh hle)
theorem ItD.enumT {K : PySem.W.Frag} {Hm : Hp} {a : Addr} {vs : List V} {xs : List DV} (h : SqT K Hm a vs) (r : Iss K Hm vs xs) : ItD K Hm (IteT K a) (enumD 0 xs) where
  go := fun R μ H i o s hi => by
    rw [enumD_len] at hi
    obtain ⟨v, e, _⟩ := r.get (List.getElem?_eq_getElem hi)
    exact ⟨vs, v, Same.seqT (s.trans hid_le) h, e⟩
  yld := fun R μ H i x H' o s y hi => by
    obtain ⟨T, u, rfl, n, rfl, y⟩ := y
    have e := y vs (Same.seqT (s.trans hid_le) h)
    obtain ⟨d, e2, k⟩ := r.getV e
    have e3 := enumD_get 0 xs i e2
    rw [Nat.zero_add] at e3
    exact ⟨_, e3, o.new n, o.sameNew n, isTup o n (.cons (.int _) (.cons (k.mono s) .nil))⟩
  stop := fun R μ H i o s hi => ⟨vs, Same.seqT (s.trans hid_le) h, by rw [r.length]; rw [enumD_len] at hi; exact hi⟩
theorem ItD.enumL {K : PySem.W.Frag} {Hm : Hp} {a : Addr} {vs : List V} {xs : List DV} (h : Hm a = some (.lst vs)) (r : Iss K Hm vs xs) : ItD K Hm (Ite K a) (enumD 0 xs) where
  go := fun R μ H i o s hi => by
    rw [enumD_len] at hi
    obtain ⟨v, e, _⟩ := r.get (List.getElem?_eq_getElem hi)
    exact ⟨vs, v, SqL.of (hid_le _ _ (s _ _ h)), e⟩
  yld := fun R μ H i x H' o s y hi => by
    obtain ⟨T, u, rfl, n, rfl, y⟩ := y
    have e := y vs (SqL.of (hid_le _ _ (s _ _ h)))
    obtain ⟨d, e2, k⟩ := r.getV e
    have e3 := enumD_get 0 xs i e2
    rw [Nat.zero_add] at e3
    exact ⟨_, e3, o.new n, o.sameNew n, isTup o n (.cons (.int _) (.cons (k.mono s) .nil))⟩
  stop := fun R μ H i o s hi => ⟨vs, SqL.of (hid_le _ _ (s _ _ h)), by rw [r.length]; rw [enumD_len] at hi; exact hi⟩
def sEnumT (w : WE) : WI := fun ρ μ P => w ρ μ fun d μ1 => match d with | .tup xs => P (enumD 0 xs) μ1 | _ => False
def sEnumL (w : WE) : WI := fun ρ μ P => w ρ μ fun d μ1 => match d with | .lst xs => P (enumD 0 xs) μ1 | _ => False
section
variable {X : Cx} {e : Expr} {w : WE} {p pos tpos : Pos} {elts : List Expr} {kk : Nat}
theorem di_enumT (hg : Gl X "enumerate") (hm : X.mg "enumerate" = none) (h : PE X e (tD X.K w)) (hs : starEach [e] X.env = [(false, eval e X.env)] := by rfl) : PI X (.Tuple elts kk tpos) (.Call (.Name "enumerate" p) [e] [] pos) (tDI X.K (sEnumT w)) :=
  PI.imp (pi_enumT hg hm (pa_cons h pa_nil hs) hs) fun σ H RR ⟨R, ρ, μ, P, a, w, k⟩ => ⟨R, ρ, μ, _, a, w, fun d μ1 v H1 p1 o1 s1 i1 => by
    cases i1 with
    | tup hx rx => exact ⟨_, _, rfl, Same.seqT hid_le hx, k _ μ1 H1 _ p1 o1 s1 (.enumT hx rx)⟩
    | _ => exact (show False from p1).elim⟩
theorem di_enumL (hg : Gl X "enumerate") (hm : X.mg "enumerate" = none) (h : PE X e (tD X.K w)) (hs : starEach [e] X.env = [(false, eval e X.env)] := by rfl) : PI X (.Tuple elts kk tpos) (.Call (.Name "enumerate" p) [e] [] pos) (tDI X.K (sEnumL w)) :=
  PI.imp (pi_enum hg hm (pa_cons h pa_nil hs) hs) fun σ H RR ⟨R, ρ, μ, P, a, w, k⟩ => ⟨R, ρ, μ, _, a, w, fun d μ1 v H1 p1 o1 s1 i1 => by
    cases i1 with
    | lst hx rx => exact ⟨_, _, rfl, SqL.of (hid_le _ _ hx), k _ μ1 H1 _ p1 o1 s1 (.enumL hx rx)⟩
    | _ => exact (show False from p1).elim⟩
end
end Dz

set_option Elab.async false
set_option linter.all false
set_option maxRecDepth 100000
set_option maxHeartbeats 2000000
/-! DzM: the deck of the other shape (field mixed). -/
namespace Dz
open PySem L2

def wDraw2 (A B C E F G I J L M : Int) : WS :=
  (wSeq (wDPut (wVar 0) (wC (.str "draws")) (wBin wAdd (wBin wDGet (wVar 0) (wC (.str "draws"))) (wC (.int 1))))
    (wSeq (wAsg (wC (.int 0)) (wgName 2))
    (wSeq (wIfS (wTest (wBin wNeL (wBin wDGet (wVar 0) (wC (.str "cells"))) (wLst wNil))) (wSeq (wAsg (wUn wPop (wBin wDGet (wVar 0) (wC (.str "cells")))) (wgName 2))
    (wIfS (wTest (wBin wGe (wVar 2) (wBin wPow (wC (.int 10)) (wC (.int 18))))) (wSeq (wDrop (wApp (wBin wDGet (wVar 0) (wC (.str "cells"))) (wBin wDiv (wVar 2) (wVar 1))))
    (wRet (wBin wMod (wVar 2) (wVar 1)))) wNext)) wNext)
    (wSeq (wAsg (wBin wDGet (wVar 0) (wC (.str "draws"))) (wgName 3))
    (wSeq (wAsg (wBin wAdd (wBin wAdd (wBin wDGet (wVar 0) (wC (.str "mixed"))) (wBin wMod (wVar 2) (wC (.int A)))) (wBin wMul (wBin wMul (wC (.int B)) (wVar 3)) (wVar 3))) (wgName 4))
    (wSeq (wAsg (wBin wMod (wBin wMul (wVar 4) (wC (.int C))) (wC (.int E))) (wgName 4))
    (wSeq (wAsg (wBin wMod (wBin wAdd (wBin wAdd (wBin wMul (wVar 4) (wVar 4)) (wBin wMul (wC (.int F)) (wVar 4))) (wVar 3)) (wC (.int G))) (wgName 4))
    (wRet (wBin wMod (wBin wDiv (wBin wMod (wBin wMul (wVar 4) (wBin wAdd (wBin wDiv (wVar 4) (wC (.int I))) (wC (.int J)))) (wC (.int L))) (wC (.int M))) (wVar 1))))))))))
theorem dput_e {E : DEnds} {ρ : Rho} {μ : Mh} {a : Addr} {kvs : List (Key × DV)} {y v : DV} {k : Key} {i : Nat} {wv : WE} (h : μ a = some (.dct kvs)) (hk : keyD y = some k) (l : kvs.length < sizeLine) (h1 : ρ[i]? = some (some (.obj a))) (hw : ∀ P : DV → Mh → Prop, P v μ → wv ρ μ P) (q : E.nx ρ (updM μ a (.dct (putD kvs k v)))) : wDPut (wVar i) (wC y) wv E ρ μ := by
  unfold wDPut
  refine hw _ ?_
  unfold wVar wC
  simp only [h, h1, hk, atW]
  exact ⟨l, q⟩
theorem draw2_ok {A B C E F G I J L M : Int} (hA : sm A) (hB : sm B) (hC : sm C) (hE : sm E) (hF : sm F) (hG : sm G) (hI : sm I) (hL : sm L) (hM : sm M) (ds : List DV) (μ : Mh) (Q : DV → Mh → Prop) (hl : ds.length = 2) (h : wfDraw "mixed" ds μ Q) :
    wDraw2 A B C E F G I J L M { nx := fun _ μ' => Q .none μ', rt := Q } (ds.map some ++ List.replicate 3 none) μ := by
  obtain ⟨a, c, m, many, rfl, h0, h64, ⟨ne, t, n, cells, ha, hc, t0, t1, n0, n1, cl⟩, q⟩ := h
  have na : a ≠ c := fun z => ne z.symm
  let kv1 : List (Key × DV) := [(.inr "cells", .obj c), (.inr "mixed", .int t), (.inr "draws", .int (n + 1))]
  let μ1 : Mh := updM μ a (.dct kv1)
  have ha1 : μ1 a = some (.dct kv1) := updM_same
  have hc1 : μ1 c = some (.lst (cells.map .int)) := (updM_ne ne).trans hc
  have lg : ∀ x : Int, 0 < x → x < 2 ^ 64 → x.natAbs.log2 < 9000 := fun x x0 x1 => by
    have : x.natAbs < 2 ^ 64 := by omega
    exact (Nat.log2_lt (n := x.natAbs) (k := 9000) (by omega)).mpr (Nat.lt_of_lt_of_le this (Nat.pow_le_pow_right (by decide) (by decide)))
  have dm : ∀ x : Int, CDivW x many := fun x => ⟨h0, lg many h0 h64⟩
  have dM : ∀ x : Int, CDivW x M := fun x => ⟨hM.1, lg M hM.1 (by have := hM.2; omega)⟩
  have dI : ∀ x : Int, CDivW x I := fun x => ⟨hI.1, lg I hI.1 (by have := hI.2; omega)⟩
  have fin : ∀ (μ2 : Mh) (cs : List Int), μ2 a = μ1 a → μ2 c = some (.lst (cs.map .int)) → cs.length ≤ 63 → (∀ b, b ≠ a → b ≠ c → μ2 b = μ b) → ∀ r, 0 ≤ r → r < many → Q (.int r) μ2 := fun μ2 cs e1 e2 e3 e4 r r0 r1 =>
    q r μ2 r0 r1 ⟨ne, t, n + 1, cs, e1.trans ha1, e2, t0, t1, by omega, by omega, e3⟩ e4
  have v4 : putD [(.inr "cells", .obj c), (.inr "mixed", .int t), (.inr "draws", .int n)] (.inr "draws") (.int (n + 1)) = kv1 := rfl
  have bE : ∀ x : Int, CMul (x % E) (x % E) := fun x => by
    left
    have p1 := Int.emod_nonneg x (show E ≠ 0 by have := hE.1; omega)
    have p2 := Int.emod_lt_of_pos x hE.1
    have := hE.2
    omega
  have bG : ∀ x y : Int, CMul (x % G) y := fun x y => by
    left
    have p1 := Int.emod_nonneg x (show G ≠ 0 by have := hG.1; omega)
    have p2 := Int.emod_lt_of_pos x hG.1
    have := hG.2
    omega
  have bn : ∀ x : Int, CMul x (n + 1) := fun x => by right; omega
  have G1 := @dget_o
  have G2 := @dput_e
  have G3 := @neL_o
  have G4 := @pop_o
  -- the last rows
  have tail : ∀ (cell : Int) (z3 z4 : Option DV) (μ2 : Mh), μ2 a = some (.dct kv1) → (∀ r, 0 ≤ r → r < many → Q (.int r) μ2) →
      (wSeq (wAsg (wBin wDGet (wVar 0) (wC (.str "draws"))) (wgName 3))
    (wSeq (wAsg (wBin wAdd (wBin wAdd (wBin wDGet (wVar 0) (wC (.str "mixed"))) (wBin wMod (wVar 2) (wC (.int A)))) (wBin wMul (wBin wMul (wC (.int B)) (wVar 3)) (wVar 3))) (wgName 4))
    (wSeq (wAsg (wBin wMod (wBin wMul (wVar 4) (wC (.int C))) (wC (.int E))) (wgName 4))
    (wSeq (wAsg (wBin wMod (wBin wAdd (wBin wAdd (wBin wMul (wVar 4) (wVar 4)) (wBin wMul (wC (.int F)) (wVar 4))) (wVar 3)) (wC (.int G))) (wgName 4))
    (wRet (wBin wMod (wBin wDiv (wBin wMod (wBin wMul (wVar 4) (wBin wAdd (wBin wDiv (wVar 4) (wC (.int I))) (wC (.int J)))) (wC (.int L))) (wC (.int M))) (wVar 1))))))) { nx := fun _ μ' => Q .none μ', rt := Q } [some (.obj a), some (.int many), some (.int cell), z3, z4] μ2 := by
    intro cell z3 z4 μ2 e2 k
    generalize wDGet = g1 at G1 ⊢
    refine G1 (y := .str "draws") e2 rfl (show valD kv1 _ = some (.int (n + 1)) from rfl) ?_
    refine G1 (y := .str "mixed") e2 rfl (show valD kv1 _ = some (.int t) from rfl) ?_
    exact ⟨hA.1, cm_l hB, bn _, cm_r hC, hE.1, bE _, cm_l hF, hG.1, dI _, bG _ _, hL.1, dM _, h0, k _ (Int.emod_nonneg _ (by omega)) (Int.emod_lt_of_pos _ h0)⟩
  unfold wDraw2
  generalize wDPut = g2 at G2 ⊢
  generalize wNeL = g3 at G3 ⊢
  generalize wPop = g4 at G4 ⊢
  refine G2 (v := .int (n + 1)) (kvs := [(.inr "cells", .obj c), (.inr "mixed", .int t), (.inr "draws", .int n)]) ha rfl (Nat.le_of_ble_eq_true rfl) rfl (fun P hP => ?_) ?_
  · have G1' := @dget_o
    generalize wDGet = g1 at G1' ⊢
    exact G1' (y := .str "draws") ha rfl (show valD _ _ = some (.int n) from rfl) hP
  · rw [v4]
    generalize hg1 : wDGet = g1 at G1 ⊢
    refine G1 (y := .str "cells") ha1 rfl (show valD kv1 _ = some (.obj c) from rfl) ?_
    refine ⟨Nat.zero_le _, ?_⟩
    cases cells with
    | nil =>
      refine G3 (es := []) hc1 rfl rfl ?_
      subst hg1
      exact tail 0 none none μ1 ha1 (fin μ1 [] rfl hc1 (Nat.zero_le _) fun b x y => updM_ne x)
    | cons y ys =>
      refine G3 (es := []) hc1 (shaped_ints _) rfl ?_
      refine G1 (y := .str "cells") ha1 rfl (show valD kv1 _ = some (.obj c) from rfl) ?_
      have hlast : ∃ z, ((y :: ys).map DV.int)[((y :: ys).map DV.int).length - 1]? = some (.int z) := by
        refine ⟨(y :: ys).getLast (by intro z; cases z), ?_⟩
        rw [List.length_map, List.getElem?_map, List.getLast_eq_getElem, List.getElem?_eq_getElem (by simp)]
        rfl
      obtain ⟨z, hz⟩ := hlast
      refine G4 hc1 hz ?_
      have hdl : ((y :: ys).map DV.int).dropLast = (y :: ys).dropLast.map DV.int := by rw [List.map_dropLast]
      have ldl : (y :: ys).dropLast.length ≤ 62 := by rw [List.length_dropLast]; omega
      generalize (y :: ys).dropLast = cs at hdl ldl
      rw [hdl]
      let μ2 : Mh := updM μ1 c (.lst (cs.map .int))
      have ha2 : μ2 a = some (.dct kv1) := (updM_ne na).trans ha1
      have hc2 : μ2 c = some (.lst (cs.map .int)) := updM_same
      refine ⟨cpow_ten (by decide) (by decide), ?_⟩
      cases hge : decide ((10 : Int) ^ 18 ≤ z) with
      | true =>
        have e : decide ((10 : Int) ^ (18 : Int).toNat ≤ z) = true := hge
        show (match decide ((10 : Int) ^ (18 : Int).toNat ≤ z) with | true => _ | false => _)
        rw [e]
        refine G1 (y := .str "cells") ha2 rfl (show valD kv1 _ = some (.obj c) from rfl) ?_
        refine ⟨?_, dm z, ?_⟩
        · show isLstM (.obj c) μ2
          unfold isLstM
          simp only [hc2]
        · show (match μ2 c with | some (.lst ds) => _ | _ => False)
          rw [hc2]
          refine ⟨by rw [List.length_map, sizeLine_eq]; omega, h0, ?_⟩
          refine fin _ (cs ++ [z / many]) ((updM_ne na).trans ((updM_ne na).trans rfl)) ?_ (by simp; omega) (fun b x y => (updM_ne y).trans ((updM_ne y).trans (updM_ne x))) _ (Int.emod_nonneg _ (by omega)) (Int.emod_lt_of_pos _ h0)
          rw [updM_same, List.map_append]
          rfl
      | false =>
        have e : decide ((10 : Int) ^ (18 : Int).toNat ≤ z) = false := hge
        show (match decide ((10 : Int) ^ (18 : Int).toNat ≤ z) with | true => _ | false => _)
        rw [e]
        subst hg1
        exact tail z none none μ2 ha2 (fin μ2 cs (updM_ne na) hc2 (by omega) fun b x y => (updM_ne y).trans (updM_ne x))

def wDeck2 (S B A C M : Int) : WS :=
  (wSeq (wAsg (wB wList (wCons (wSl (wVar 0) wNoPart (wPart (wC (.int 63)))) wNil)) (wgName 1))
    (wSeq (wAsg (wC (.int S)) (wgName 2))
    (wSeq (wFor (sLst (wVar 1)) (wgName 3) (wAsg (wBin wMod (wBin wAdd (wBin wAdd (wBin wMul (wVar 2) (wC (.int B))) (wBin wMod (wVar 3) (wC (.int A)))) (wC (.int C))) (wC (.int M))) (wgName 2)))
    (wRet (wDctM [((.inr "cells"), (wRevM (wVar 1))), ((.inr "mixed"), (wVar 2)), ((.inr "draws"), (wC (.int 0)))])))))
theorem deck2_ok {S B A C M : Int} (hS : 0 ≤ S) (hS2 : S < 2 ^ 32) (hB : sm B) (hA : sm A) (hM : sm M) (ds : List DV) (μ : Mh) (Q : DV → Mh → Prop) (hl : ds.length = 1) (h : wfDeck "mixed" ds μ Q) :
    wDeck2 S B A C M { nx := fun _ μ' => Q .none μ', rt := Q } (ds.map some ++ List.replicate 3 none) μ := by
  obtain ⟨ns, rfl, q⟩ := h
  have hcut : cutD (ns.map DV.int) none (some 63) = (ns.take 63).map DV.int := by
    have e0 : HT.sIx (ns.map DV.int).length 0 none = 0 := rfl
    have e1 : min (HT.sIx (ns.map DV.int).length (ns.map DV.int).length (some 63)) (ns.map DV.int).length = min 63 (ns.map DV.int).length := by
      show min (min (63 : Nat) _) _ = _
      omega
    unfold cutD
    rw [e0, List.drop_zero, Nat.sub_zero, List.take_eq_take_min, e1, ← List.take_eq_take_min, List.map_take]
  have hlen : (ns.take 63).length ≤ 63 := by rw [List.length_take]; omega
  have key : ∀ xs : List Int, xs.length ≤ 63 → ∀ t : Int, 0 ≤ t → t < 2 ^ 32 → ∀ z, wRet (wDctM [((.inr "cells"), (wRevM (wVar 1))), ((.inr "mixed"), (wVar 2)), ((.inr "draws"), (wC (.int 0)))]) { nx := fun _ μ' => Q .none μ', rt := Q } [some (.fix (ns.map .int)), some (.lst (xs.map .int)), some (.int t), z] μ := fun xs hx t t0 t1 z => by
    intro c hc a ha
    have nac : a ≠ c := fun e => by
      subst e
      have : updM μ a _ a = none := ha
      rw [updM_same] at this
      cases this
    have ha' : μ a = none := by
      have h1 : updM μ c _ a = none := ha
      rw [updM_ne nac] at h1
      exact h1
    refine q a c _ ha' hc ⟨fun e => nac e.symm, t, 0, xs.reverse, updM_same, ?_, t0, t1, by omega, by omega, by simp; omega⟩ fun b x y => (updM_ne x).trans (updM_ne y)
    rw [updM_ne fun e => nac e.symm, updM_same, List.map_reverse]
  have loop : ∀ (ys : List Int) (t : Int) (z : Option DV), 0 ≤ t → t < 2 ^ 32 → forW (wgName 3) (wAsg (wBin wMod (wBin wAdd (wBin wAdd (wBin wMul (wVar 2) (wC (.int B))) (wBin wMod (wVar 3) (wC (.int A)))) (wC (.int C))) (wC (.int M))) (wgName 2))
      { nx := wRet (wDctM [((.inr "cells"), (wRevM (wVar 1))), ((.inr "mixed"), (wVar 2)), ((.inr "draws"), (wC (.int 0)))]) { nx := fun _ μ' => Q .none μ', rt := Q }, rt := Q } (ys.map .int) [some (.fix (ns.map .int)), some (.lst ((ns.take 63).map .int)), some (.int t), z] μ := by
    intro ys
    induction ys with
    | nil => exact fun t z t0 t1 => key _ hlen t t0 t1 z
    | cons y ys ih =>
      intro t z t0 t1
      refine ⟨cm_r hB, hA.1, hM.1, ih _ _ (Int.emod_nonneg _ (by have := hM.1; omega)) (Int.lt_trans (Int.emod_lt_of_pos _ hM.1) hM.2)⟩
  show forW _ _ _ (cutD (ns.map DV.int) none (some 63)) [some (.fix (ns.map .int)), some (.lst (cutD (ns.map DV.int) none (some 63))), some (.int S), none] μ
  rw [hcut]
  exact loop _ S none hS hS2
end Dz

set_option Elab.async false
set_option linter.all false
set_option maxRecDepth 100000
set_option maxHeartbeats 2000000
/-! DzB: match of a text against written texts. -/
namespace Dz
open PySem L2

section
variable {X : Cx}
/-- the pattern takes exactly the texts cs, and binds nothing -/
def PatIs (X : Cx) (p : Pattern) (cs : List Str) : Prop := ∀ (pins : List (Addr × Obj)) (s : Shared) (σ : L2.St) (H : Hp) (z : Str) (t : Tok), Inv X pins σ H s →
  wpAny (model X.prog X.w) X.A (matchPattern p X.env (.str z t)) (fun r s' => Inv X pins σ H s' ∧ r = if cs.contains z = true then some [] else none) X.xe s
def FirstIs (X : Cx) (ps : List Pattern) (cs : List Str) : Prop := ∀ (pins : List (Addr × Obj)) (s : Shared) (σ : L2.St) (H : Hp) (z : Str) (t : Tok), Inv X pins σ H s →
  wpAny (model X.prog X.w) X.A (matchFirst ps X.env (.str z t)) (fun r s' => Inv X pins σ H s' ∧ r = if cs.contains z = true then some [] else none) X.xe s
theorem pat_val {c : Str} {k : Nat} {p pos : Pos} : PatIs X (.MatchValue (.Constant (.str c) k p) pos) [c] := by
  intro pins s σ H z t I
  refine wpAny_matchPattern_Value (thn ((pe_str (X := X) (x := c)).run pins s σ H (fun v H' => v = .str c ∧ H' = H) I ⟨rfl, rfl⟩) fun u s1 ⟨v, H1, I1, r1, e1, e2⟩ => ?_)
  subst e1 e2
  refine thn (op_eq (X := X) pins s1 σ H1 (.str z) (.str c) (.str z t) u (fun v H' => v = .bl (decide (z = c)) ∧ H' = H1) I1 ⟨t, rfl⟩ r1 ⟨rfl, ?_, rfl⟩) fun b s2 ⟨v, H2, I2, r2, e1, e2⟩ => ?_
  · congr 1
    exact decide_eq_decide.mpr ⟨fun h => V.str.inj h, fun h => by rw [h]⟩
  · subst e1 e2
    cases r2
    have hc : ([c] : List Str).contains z = decide (z = c) := by
      rw [List.contains_cons]
      show (z == c || false) = _
      rw [Bool.or_false]
      exact Bool.beq_eq_decide_eq z c
    rw [hc]
    refine wpAny_pure ?_
    cases h : decide (z = c) with
    | true => exact ⟨I2, rfl⟩
    | false => exact ⟨I2, rfl⟩
theorem first_nil : FirstIs X [] [] := fun pins s σ H z t I => wpAny_matchFirst_nil ⟨I, rfl⟩
theorem first_cons {p : Pattern} {ps : List Pattern} {cs ds : List Str} (h : PatIs X p cs) (hr : FirstIs X ps ds) : FirstIs X (p :: ps) (cs ++ ds) := by
  intro pins s σ H z t I
  refine wpAny_matchFirst_cons (thn (h pins s σ H z t I) fun r s1 ⟨I1, e⟩ => ?_)
  subst e
  have ec : (cs ++ ds).contains z = (cs.contains z || ds.contains z) := by simp
  rw [ec]
  cases h1 : cs.contains z with
  | true =>
    rw [if_pos rfl]
    exact ⟨I1, rfl⟩
  | false =>
    rw [if_neg Bool.false_ne_true, Bool.false_or]
    exact hr pins s1 σ H z t I1
theorem pat_or {ps : List Pattern} {cs : List Str} {pos : Pos} (h : FirstIs X ps cs) : PatIs X (.MatchOr ps pos) cs := by
  intro pins s σ H z t I
  refine wpAny_matchPattern_Or (thn (h pins s σ H z t I) fun r s1 ⟨I1, e⟩ => ?_)
  subst e
  cases h1 : cs.contains z with
  | true =>
    rw [if_pos rfl]
    refine ⟨I1, ?_⟩
    simp
  | false =>
    rw [if_neg Bool.false_ne_true]
    exact ⟨I1, rfl⟩
structure PMs (X : Cx) (cases_ : List MatchCase) (t : Str → TS) : Prop where
  run : ∀ (pins : List (Addr × Obj)) (s : Shared) (σ : L2.St) (H : Hp) (z : Str) (tk : Tok) (first : Bool) (D : Ends), Inv X pins σ H s → t z D σ H → wpAny (model X.prog X.w) X.A (matchCases cases_ X.env (.str z tk) first) (SP X pins D) X.xe s
theorem pm_nil : PMs X [] (fun _ => tNext) := ⟨fun pins s σ H z tk first D I h => wpAny_matchCases_nil ⟨σ, H, I, h⟩⟩
theorem pm_cons {p : Pattern} {cs : List Str} {body : List Stmt} {rest : List MatchCase} {tb : TS} {tr : Str → TS} (hp : PatIs X p cs) (hb : PSs X body tb) (hr : PMs X rest tr) : PMs X (⟨p, none, body⟩ :: rest) (fun z D σ H => if cs.contains z = true then tb D σ H else tr z D σ H) := by
  refine ⟨fun pins s σ H z tk first D I h => ?_⟩
  refine wpAny_matchCases_cons (thn (hp pins s σ H z tk I) fun r s1 ⟨I1, e⟩ => ?_)
  subst e
  cases h1 : cs.contains z with
  | true =>
    rw [if_pos rfl]
    rw [if_pos h1] at h
    exact wpAny_assignInOrder_none (hb.run pins s1 σ H D I1 h)
  | false =>
    rw [if_neg Bool.false_ne_true]
    rw [if_neg (by rw [h1]; exact Bool.false_ne_true)] at h
    exact hr.run pins s1 σ H z tk false D I1 h
/-! over data -/
def mW (z : Str) : List (List Str × WS) → WS
  | [] => wNext
  | (cs, b) :: r => fun E ρ μ => if cs.contains z = true then b E ρ μ else mW z r E ρ μ
def wMatch (w : WE) (cs : List (List Str × WS)) : WS := fun E ρ μ => w ρ μ fun d μ1 => match d with | .str z => mW z cs E ρ μ1 | _ => False
theorem dm_nil : PMs X [] (fun z => tDS X.K (mW z [])) := ⟨fun pins s σ H z tk first D I ⟨R, ρ, μ, E, a, w, k⟩ => pm_nil.run pins s σ H z tk first D I (k.nx ρ μ σ H w a (Same.refl _))⟩
theorem dm_cons {p : Pattern} {cs : List Str} {body : List Stmt} {rest : List MatchCase} {b : WS} {r : List (List Str × WS)} (hp : PatIs X p cs) (hb : PSs X body (tDS X.K b)) (hr : PMs X rest (fun z => tDS X.K (mW z r))) : PMs X (⟨p, none, body⟩ :: rest) (fun z => tDS X.K (mW z ((cs, b) :: r))) := by
  refine ⟨fun pins s σ H z tk first D I ⟨R, ρ, μ, E, a, w, k⟩ => (pm_cons hp hb hr).run pins s σ H z tk first D I ?_⟩
  have w' : if cs.contains z = true then b E ρ μ else mW z r E ρ μ := w
  show if cs.contains z = true then tDS X.K b D σ H else tDS X.K (mW z r) D σ H
  by_cases h1 : cs.contains z = true
  · rw [if_pos h1] at w' ⊢
    exact ⟨R, ρ, μ, E, a, w', k⟩
  · rw [if_neg h1] at w' ⊢
    exact ⟨R, ρ, μ, E, a, w', k⟩
theorem ds_match {e : Expr} {w : WE} {cases_ : List MatchCase} {cs : List (List Str × WS)} {pos : Pos} (he : PE X e (tD X.K w)) (hm : PMs X cases_ (fun z => tDS X.K (mW z cs))) : PS X (.Match e cases_ pos) (tDS X.K (wMatch w cs)) := by
  refine ⟨fun pins s σ H D I ⟨R, ρ, μ, E, a, w', k⟩ => ?_⟩
  refine wpAny_Match (thn (he.run pins s σ H (fun v H1 => ∃ z, v = .str z ∧ tDS X.K (mW z cs) D σ H1) I ⟨R, ρ, μ, _, a, w', fun d μ1 v H1 p1 o1 s1 i1 => ?_⟩) fun u s1 ⟨v, H1, I1, r1, z, ev, q⟩ => ?_)
  · cases i1 with
    | str z => exact ⟨z, rfl, R, ρ, μ1, E, a.step o1 s1, p1, k.step s1⟩
    | _ => exact (show False from p1).elim
  · subst ev
    obtain ⟨t, rfl⟩ := r1
    exact hm.run pins s1 σ H1 z t true D I1 q
end
end Dz

set_option Elab.async false
set_option linter.all false
set_option maxRecDepth 100000
set_option maxHeartbeats 2000000
/-! DzC: tuples written at the module's level. -/
namespace Dz
open PySem L2

/-- a value of the top that is data whatever the heap is -/
def CI (K : PySem.W.Frag) (u : Value) (d : DV) : Prop := ∃ v, RelV v u ∧ ∀ H, Is K H v d
inductive CIs (K : PySem.W.Frag) : List Value → List DV → Prop
  | nil : CIs K [] []
  | cons {u : Value} {us : List Value} {d : DV} {ds : List DV} : CI K u d → CIs K us ds → CIs K (u :: us) (d :: ds)
theorem CIs.vals {K : PySem.W.Frag} : ∀ {us : List Value} {ds : List DV}, CIs K us ds → ∃ xs, Vals xs us ∧ ∀ H, Iss K H xs ds
  | _, _, .nil => ⟨[], .nil, fun _ => .nil⟩
  | _, _, .cons ⟨v, r, i⟩ h => by
    obtain ⟨xs, r2, i2⟩ := CIs.vals h
    exact ⟨v :: xs, .cons r r2, fun H => .cons (i H) (i2 H)⟩
theorem ci_str {K : PySem.W.Frag} {x : Str} {t : Tok} : CI K (.str x t) (.str x) := ⟨.str x, ⟨t, rfl⟩, fun _ => .str x⟩
theorem ci_int {K : PySem.W.Frag} {i : Int} {t : Tok} : CI K (.int i t) (.int i) := ⟨.int i, ⟨t, rfl⟩, fun _ => .int i⟩
theorem ci_non {K : PySem.W.Frag} : CI K .none .none := ⟨.non, rfl, fun _ => .none⟩
theorem ci_tup {K : PySem.W.Frag} {a : Addr} {od : Option Addr} {its : Array Value} {n : Nat} {sl : Array (Option Value)} {ds : List DV} (l : K.lookup a = some ⟨.type "tuple", od, .seq its n, sl⟩) (hz : its.size ≤ sizeLine) (h : CIs K its.toList ds) : CI K (.ref a) (.tup ds) := by
  obtain ⟨xs, r, i⟩ := h.vals
  exact ⟨.ref a, rfl, fun H => .tup (.inr ⟨_, its, n, l, rfl, rfl, hz, r⟩) (i H)⟩
/-- a name of the top that is a constant -/
def GlobIs (K : PySem.W.Frag) (mg : Str → Option Value) (x : Str) (d : DV) : Prop := ∃ u, mg x = some u ∧ CI K u d
theorem glob_of {K : PySem.W.Frag} {h : Heap} {mg : Str → Option Value} {x : Str} {u : Value} {d : DV} (X : K.In h) (G : h.Ns mainGlobals mg) (a : PySem.W.nsIn K mainGlobals x = some (some u)) (c : CI K u d) : GlobIs K mg x d := ⟨u, PySem.W.mg_of X G a, c⟩
theorem d_globE {X : Cx} {x : Str} {d : DV} {pos : Pos} (hg : Gl X x) (h : GlobIs X.K X.mg x d) (hd : (x == ("__debug__" : Str)) = false := by decide) : PE X (.Name x pos) (tD X.K (wC d)) := by
  obtain ⟨u, hm, v, r, i⟩ := h
  exact d_glob hg ⟨u, hm, r⟩ i hd
end Dz

set_option Elab.async false
set_option linter.all false
set_option maxRecDepth 100000
set_option maxHeartbeats 2000000
/-! DzI: xs.index(y), d.get(k), d.get(k, x). -/
namespace Dz
open PySem L2

section
variable {X : Cx} {oe e f : Expr} {pos apos : Pos} {wo we wf : WE}
theorem toPys_get : ∀ {ds : List DV} {j : Nat}, (toPys ds)[j]? = ds[j]?.map toPy
  | ds, j => by rw [toPys_map, List.getElem?_map]
/-- the first place of an equal one -/
def wIndex (wo we : WE) : WE := fun ρ μ P => wo ρ μ fun x μ1 => match x with
  | .lst ds => we ρ μ1 fun y μ2 => shapedD (.lst ds) = true ∧ shapedD y = true ∧ ∃ j z, ds[j]? = some z ∧ deepEq z y = true ∧ (∀ m z', m < j → ds[m]? = some z' → deepEq z' y = false) ∧ P (.int (j : Nat)) μ2
  | _ => False
theorem d_index {k : Nat} (hr : Room k X.A) (ho : PE X oe (tD X.K wo)) (he : PE X e (tD X.K we)) (hs : starEach [e] X.env = [(false, eval e X.env)] := by rfl) (hbase : attributeBase oe "index" X.env (eval oe X.env) = eval oe X.env := by rfl)
    (hfew : ((backTo pos (starEach [e] X.env)).all (fun x => !x.1) && (backToKw pos (keywordEach [] X.env)).all (fun x => x.1.isSome) && decide (([e] : List Expr).length + ([] : List Keyword).length + (if ([] : List Keyword).isEmpty then 0 else 1) < 30)) = true := by rfl) (hline : (apos.endLine == pos.line) = true := by rfl) :
    PE X (.Call (.Attribute oe "index" apos) [e] [] pos) (tD X.K (wIndex wo we)) :=
  PE.imp (pe_bm PySem.F.plainAttrs_list PySem.F.slot_list_index PySem.F.type_list_index (mt_indexD (by have := hr.un; omega)) ho (pa_cons he pa_nil hs) hbase hfew hline hs) fun σ H Q ⟨R, ρ, μ, P, a, w, k⟩ => ⟨R, ρ, μ, _, a, w, fun x μ1 v H1 p1 o1 s1 i1 => by
    cases i1 with
    | @lst b xs ds hx rx =>
      refine ⟨.inl ⟨rfl, xs, SqL.of (hid_le _ _ hx)⟩, R, ρ, μ1, _, a.step o1 s1, p1, fun y μ2 u H2 p2 o2 s2 i2 => ?_⟩
      obtain ⟨sl1, sy, j, z, hj, hz, hno, q⟩ := p2
      have hl2 : Is X.K H2 (.ref b) (.lst ds) := (Is.mono s2 (Is.lst hx rx)).mono hid_le
      have hy2 := i2.mono hid_le
      have d1 := hl2.dpS sl1
      have d2 := hy2.dpS sy
      refine ⟨b, u, toPy y, toPys ds, j, toPy z, rfl, rfl, d1.1, d2.1, d1.2, d2.2, by rw [toPys_get, hj]; rfl, hz, fun m z' hm hz' => ?_, (k.step (s1.trans s2)).val o2 q (.int _)⟩
      rw [toPys_get] at hz'
      cases hd : ds[m]? with
      | none => rw [hd] at hz'; cases hz'
      | some d =>
        rw [hd] at hz'
        have : toPy d = z' := Option.some.inj hz'
        rw [← this]
        exact hno m d hm hd
    | _ => exact (show False from p1).elim⟩
/-! d.get -/
theorem valV_none {kvs : List (Key × V)} {ds : List (Key × DV)} {k : Key} (e : kvs.map (·.1) = ds.map (·.1)) (h : valD ds k = none) : valV kvs k = none := by
  have hd : ∀ d ∈ ds, ¬ d.1 = k := by
    unfold valD at h
    rw [Option.map_eq_none_iff, List.find?_eq_none] at h
    intro d hd
    simpa using h d hd
  unfold valV
  rw [Option.map_eq_none_iff, List.find?_eq_none]
  intro x hx
  have : x.1 ∈ ds.map (·.1) := by rw [← e]; exact List.mem_map_of_mem hx
  obtain ⟨d, h1, h2⟩ := List.mem_map.mp this
  have := hd d h1
  rw [h2] at this
  simpa using this
def isDct (x : DV) (μ : Mh) : Prop := match x with
  | .obj a => match μ a with | some (.dct _) => True | _ => False
  | .dct _ => True
  | _ => False
def getW (kvs : List (Key × DV)) (y z : DV) (μ : Mh) (P : DV → Mh → Prop) : Prop := atW (keyD y) fun k => match valD kvs k with | some d => P d μ | none => P z μ
def wGet2 (wd wk wx : WE) : WE := fun ρ μ P => wd ρ μ fun x μ1 => isDct x μ1 ∧ wk ρ μ1 fun y μ2 => wx ρ μ2 fun z μ3 => match x with
  | .obj a => match μ3 a with
    | some (.dct kvs) => getW kvs y z μ3 P
    | _ => False
  | .dct kvs => getW kvs y z μ3 P
  | _ => False
theorem isD_of {K : PySem.W.Frag} {R : Hp} {μ : Mh} {H : Hp} {v : V} {x : DV} (o : Ok K R μ H) (i : Is K (hid R μ H) v x) (h : isDct x μ) : ∃ a, v = .ref a ∧ IsD H a := by
  cases i with
  | obj a =>
    have h' : (match μ a with | some (.dct _) => True | _ => False) := h
    split at h'
    · rename_i kvs e
      obtain ⟨ks, h3, _⟩ := o.ob a _ e
      exact ⟨a, rfl, .inl ⟨ks, .inl h3⟩⟩
    · exact h'.elim
  | dct h4 h5 h6 => exact ⟨_, rfl, .inl ⟨_, .inl (hid_le _ _ h4)⟩⟩
  | _ => exact h.elim
theorem get_core {K : PySem.W.Frag} {R : Hp} {μ : Mh} {H Hm : Hp} {ks : List (Key × V)} {kvs : List (Key × DV)} {y z : DV} {u v : V} {P : DV → Mh → Prop} {Q : VK} {b : Addr} (o : Ok K R μ H) (k : Nxt K R μ H P Q) (j : Is K (hid R μ H) u y) (i : Is K (hid R μ H) v z) (h3 : H b = some (.dK ks)) (h4 : ks.map (·.1) = kvs.map (·.1)) (h5 : Iss K (hid R μ H) (ks.map (·.2)) (kvs.map (·.2))) (w : getW kvs y z μ P) : ∃ q, DGet H b u q ∧ Q (q.getD v) H := by
  obtain ⟨key, h1, w2⟩ := atW_of w
  rw [keyD_of j h1]
  refine ⟨valV ks key, DGet.k h3, ?_⟩
  cases hd : valD kvs key with
  | none =>
    rw [hd] at w2
    rw [valV_none h4 hd]
    exact k.val o w2 i
  | some d =>
    rw [hd] at w2
    obtain ⟨x, h6, h7⟩ := Iss.val h4 h5 hd
    rw [h6]
    exact k.val o w2 h7
theorem d_get2 {k : Nat} (hr : Room k X.A) (ho : PE X oe (tD X.K wo)) (he : PE X e (tD X.K we)) (hf : PE X f (tD X.K wf)) (m : M2 X oe "get" apos e f pos) : PE X (.Call (.Attribute oe "get" apos) [e, f] [] pos) (tD X.K (wGet2 wo we wf)) :=
  PE.imp (pe_dget2 (by have := hr.un; omega) ho he hf m) fun σ H Q ⟨R, ρ, μ, P, a, w, k⟩ => ⟨R, ρ, μ, _, a, w, fun x μ1 v H1 p1 o1 s1 i1 => by
    obtain ⟨b, rfl, hd⟩ := isD_of o1 i1 p1.1
    refine ⟨b, rfl, hd, R, ρ, μ1, _, a.step o1 s1, p1.2, fun y μ2 u H2 p2 o2 s2 i2 => ⟨R, ρ, μ2, _, a.step o2 (s1.trans s2), p2, fun z μ3 zv H3 p3 o3 s3 i3 => ?_⟩⟩
    have k3 := k.step ((s1.trans s2).trans s3)
    have i1' := i1.mono (s2.trans s3)
    cases i1' with
    | obj =>
      have p3' : (match μ3 b with | some (.dct kvs) => getW kvs y z μ3 P | _ => False) := p3
      split at p3'
      · rename_i kvs e
        obtain ⟨ks, h3, h4, h5⟩ := o3.ob b _ e
        exact get_core (Hm := H3) o3 k3 (i2.mono s3) i3 h3 h4 h5 p3'
      · exact p3'.elim
    | dct h4 h5 h6 => exact get_core (Hm := H3) o3 k3 (i2.mono s3) i3 (hid_le _ _ h4) h5 h6 p3
    | _ => exact (show False from p3).elim⟩
def wGet1 (wd wk : WE) : WE := fun ρ μ P => wd ρ μ fun x μ1 => isDct x μ1 ∧ wk ρ μ1 fun y μ2 => match x with
  | .obj a => match μ2 a with
    | some (.dct kvs) => getW kvs y .none μ2 P
    | _ => False
  | .dct kvs => getW kvs y .none μ2 P
  | _ => False
theorem d_get1 {k : Nat} (hr : Room k X.A) (ho : PE X oe (tD X.K wo)) (he : PE X e (tD X.K we)) (m : M1 X oe "get" apos e pos) : PE X (.Call (.Attribute oe "get" apos) [e] [] pos) (tD X.K (wGet1 wo we)) :=
  PE.imp (pe_dget1 (by have := hr.un; omega) ho he m) fun σ H Q ⟨R, ρ, μ, P, a, w, k⟩ => ⟨R, ρ, μ, _, a, w, fun x μ1 v H1 p1 o1 s1 i1 => by
    obtain ⟨b, rfl, hd⟩ := isD_of o1 i1 p1.1
    refine ⟨b, rfl, hd, R, ρ, μ1, _, a.step o1 s1, p1.2, fun y μ2 u H2 p2 o2 s2 i2 => ?_⟩
    have k2 := k.step (s1.trans s2)
    have i1' := i1.mono s2
    cases i1' with
    | obj =>
      have p2' : (match μ2 b with | some (.dct kvs) => getW kvs y .none μ2 P | _ => False) := p2
      split at p2'
      · rename_i kvs e
        obtain ⟨ks, h3, h4, h5⟩ := o2.ob b _ e
        exact get_core (Hm := H2) o2 k2 i2 .none h3 h4 h5 p2'
      · exact p2'.elim
    | dct h4 h5 h6 => exact get_core (Hm := H2) o2 k2 i2 .none (hid_le _ _ h4) h5 h6 p2
    | _ => exact (show False from p2).elim⟩
end
end Dz

set_option Elab.async false
set_option linter.all false
set_option maxRecDepth 100000
set_option maxHeartbeats 2000000
/-! DzJ: dicts written at the module's level, by text. -/
namespace Dz
open PySem L2

/-- a name of the top that is a written dict -/
def DctIs (K : PySem.W.Frag) (w : World) (mg : Str → Option Value) (x : Str) (f : List (Str × DV)) : Prop := ∃ p, mg x = some (.ref p) ∧ ∀ e ∈ f, ∃ v, KDct K w p e.1 v ∧ ∀ H, Is K H v e.2
def lookD (f : List (Str × DV)) (z : Str) : Option DV := (f.find? fun e => decide (e.1 = z)).map (·.2)
def wIxK (f : List (Str × DV)) (wb : WE) : WE := fun ρ μ P => wb ρ μ fun y μ1 => match y with
  | .str z => atW (lookD f z) fun d => P d μ1
  | _ => False
theorem d_ixK {X : Cx} {x : Str} {f : List (Str × DV)} {b : Expr} {wb : WE} {pos p2 : Pos} (hg : Gl X x) (h : DctIs X.K X.w X.mg x f) (hb : PE X b (tD X.K wb)) (hs : PlainIx b := by exact fun _ _ => rfl) (hd : (x == ("__debug__" : Str)) = false := by decide) :
    PE X (.Subscript (.Name x p2) b pos) (tD X.K (wIxK f wb)) := by
  obtain ⟨p, hm, hf⟩ := h
  refine PE.imp (pe_ix ix_kdict (pe_glob (v := .ref p) hg hm rfl hd) hb hs) fun σ H Q ⟨R, ρ, μ, P, a, w, k⟩ => ?_
  refine ⟨R, ρ, μ, _, a, w, fun y μ1 u H1 p1 o1 s1 i1 => ?_⟩
  cases i1 with
  | str z =>
    obtain ⟨d, hl, q⟩ := atW_of (show atW (lookD f z) _ from p1)
    unfold lookD at hl
    cases hfz : f.find? fun e => decide (e.1 = z) with
    | none => rw [hfz] at hl; cases hl
    | some e =>
      rw [hfz] at hl
      have ed : e.2 = d := Option.some.inj hl
      have ez : e.1 = z := of_decide_eq_true (List.find?_some (p := fun e : Str × DV => decide (e.1 = z)) hfz)
      obtain ⟨v, kd, iv⟩ := hf e (List.mem_of_find?_eq_some hfz)
      rw [ez] at kd
      rw [ed] at iv
      exact ⟨p, z, v, rfl, rfl, kd, (k.step s1).val o1 q (iv _)⟩
  | _ => exact (show False from p1).elim
theorem dct_of {K : PySem.W.Frag} {h : Heap} {w : World} {mg : Str → Option Value} {x : Str} {p : Addr} {es : Array DictEntry} {n : Nat} {f : List (Str × DV)} (X : K.In h) (G : h.Ns mainGlobals mg) (a : PySem.W.nsIn K mainGlobals x = some (some (.ref p)))
    (l : K.lookup p = some ⟨.type "dict", none, .dict es n, #[]⟩) (hk : PySem.W.KeysLit w.params es.toList) (hf : ∀ e ∈ f, ∃ u, PySem.W.nsIn K p e.1 = some (some u) ∧ CI K u e.2) : DctIs K w mg x f := by
  refine ⟨p, PySem.W.mg_of X G a, fun e he => ?_⟩
  obtain ⟨u, h1, v, h2, h3⟩ := hf e he
  exact ⟨v, ⟨es, n, u, l, hk, h1, h2⟩, h3⟩
end Dz

set_option Elab.async false
set_option linter.all false
set_option maxRecDepth 100000
set_option maxHeartbeats 2000000
/-! DzO: sets of texts, raw: add, made from a list, sorted. -/
namespace Dz
open PySem PySem.Spec L2 PySem.Froz PyProof.Rows

def keyT (e : Int × Value) : Str := match e.2 with | .str k _ => k | _ => ⟨#[]⟩

/-- the payload of a set that holds the texts l -/
structure TxSet (P : Program) (w : World) (D : SD) (l : List Str) : Prop where
  ok : TxOk P w D l
  str : ∀ e ∈ D.1.toList, ∃ k u, e.2 = Value.str k u
  pm : (D.1.toList.map keyT).Perm l
  nd : l.Nodup
  ris : Ris D.2.2.place.toList
  led : w.params.followText "set-order" = true ∨ D.2.2.led = true

section
variable {P : Program} {w : World} {A : Around} {E : Value → Shared → Prop} {s : Shared}

theorem tail_perm {ep : Nat} {es1 : Array (Int × Value)} {t2 : SetTable} {wd : Bool} : (tailTx ep es1 t2 wd).1.toList.Perm es1.toList := by
  unfold tailTx
  split
  · exact relayAll_perm t2 es1 _
  · exact List.Perm.refl _
theorem tail_ris {ep : Nat} {es1 : Array (Int × Value)} {t2 : SetTable} {wd : Bool} (r : Ris t2.place.toList) : Ris (tailTx ep es1 t2 wd).2.2.place.toList := by
  unfold tailTx
  split
  · exact relayAll_ris t2 es1 _
  · exact r
theorem tail_led {ep : Nat} {es1 : Array (Int × Value)} {t2 : SetTable} {wd : Bool} : (tailTx ep es1 t2 wd).2.2.led = t2.led := by
  unfold tailTx
  split
  · exact relayAll_led t2 es1 _
  · rfl

theorem TxSet.add {D : SD} {l : List Str} {k : Str} (u : Tok) (F : TxSet P w D l) (hk : k ∉ l) : TxSet P w (addTx (hashStr w k) (.str k u) D) (k :: l) := by
  obtain ⟨ok, st, pm, nd, r, ld⟩ := F
  have ok' := add_ok (k := k) u ok
  obtain ⟨es, ep, t⟩ := D
  have hp := layNew_perm t es (hashStr w k) (.str k u)
  rw [Array.toList_push] at hp
  have hr := layNew_ris t es (hashStr w k) (.str k u) r
  have hl := layNew_led t es (hashStr w k) (.str k u)
  have tp : (addTx (hashStr w k) (.str k u) (es, ep, t)).1.toList.Perm (es.toList ++ [(hashStr w k, .str k u)]) := List.Perm.trans tail_perm hp
  refine ⟨ok', fun e he => ?_, ?_, List.nodup_cons.mpr ⟨hk, nd⟩, ?_, ?_⟩
  · rcases List.mem_append.mp (tp.mem_iff.mp he) with h | h
    · exact st e h
    · rw [List.mem_singleton] at h
      exact ⟨k, u, by rw [h]⟩
  · have q := tp.map keyT
    rw [List.map_append] at q
    refine q.trans ?_
    show (es.toList.map keyT ++ [k]).Perm (k :: l)
    exact (List.perm_append_singleton _ _).trans (List.Perm.cons k pm)
  · refine tail_ris ?_
    split
    · exact hr
    · exact hr
  · refine ld.imp id fun z => ?_
    refine tail_led.trans ?_
    split
    · exact hl.trans z
    · exact hl.trans z

theorem TxSet.fresh (w : World) : TxSet P w (#[], 0, .fresh 0 0 (!w.params.followText "set-order")) [] :=
  ⟨TxOk.nil (by rfl), fun e he => by simp at he, List.Perm.refl _, List.nodup_nil, List.Pairwise.nil, by
    show _ ∨ (!w.params.followText "set-order") = true
    cases w.params.followText "set-order"
    · exact .inr rfl
    · exact .inl rfl⟩

/-- a text that is there already -/
theorem had_x {a : Addr} {T : String} {D : SD} {l : List Str} {k : Str} {u : Tok} {Q : Bool → Shared → Prop} (ho : s.heap.get? a = some (sObj T D)) (F : TxOk P w D l) (hk : k ∈ l) (hb : l.length < scanBound)
    (h : Q false s) : wpAny (model P w) A (setAddHashed a (.str k u) (hashStr w k)) Q E s := by
  obtain ⟨es, ep, t⟩ := D
  have hd : (sObj T (es, ep, t)).data = .set es ep t := rfl
  have hf : t.fits es.size = true := F.fit
  have hel : ElemsOf (strKind P w) es.toList := F.el
  have hb0 : es.size < scanBound := by have e : es.size = l.length := F.sz; omega
  have hkey : (strKind P w).is k (.str k u) = true := is_str k u
  unfold setAddHashed setAddHashedIn
  refine wpAny_holding (wpAny_bind (wpAny_setState_of ho hd hf ?_))
  dsimp only
  rw [byScan_of rfl hb0 hel]
  simp only [↓reduceIte]
  unfold setAddByScan
  refine wpAny_bind ?_
  refine wpAny_bind (wpAny_rule ?_)
  refine wpAny_bind (wpAny_setScan_of (knd := strKind P w) (k := k) hkey ho hd hf hel ?_)
  cases hr : List.findIdx? (fun e => (strKind P w).is k e.2) es.toList with
  | none =>
    obtain ⟨e, he, q⟩ := (F.mem k).mp hk
    have c := List.findIdx?_eq_none_iff.mp hr e he
    rw [q] at c
    cases c
  | some j =>
    dsimp only
    exact wpAny_pure (wpAny_pure h)

/-- the set at a holds the texts l -/
def SetT (P : Program) (w : World) (h : Heap) (a : Addr) (l : List Str) : Prop := ∃ D, h.get? a = some (sObj "set" D) ∧ TxSet P w D l
theorem SetT.at {h h' : Heap} {a : Addr} {l : List Str} (x : SetT P w h a l) (k : ∀ o, h.get? a = some o → h'.get? a = some o) : SetT P w h' a l := by
  obtain ⟨D, e, f⟩ := x
  exact ⟨D, k _ e, f⟩
/-- the set with k put in -/
def putT (k : Str) (l : List Str) : List Str := if k ∈ l then l else k :: l
theorem putT_len (k : Str) (l : List Str) : (putT k l).length ≤ l.length + 1 := by
  unfold putT
  split
  · exact Nat.le_succ _
  · exact Nat.le_refl _
theorem put_x {a : Addr} {l : List Str} {k : Str} {u : Tok} {Q : Bool → Shared → Prop} (x : SetT P w s.heap a l) (hb : l.length + 1 < scanBound)
    (h : ∀ b h', (∀ c, c ≠ a → h'.get? c = s.heap.get? c) → h'.objs.size = s.heap.objs.size → SetT P w h' a (putT k l) → Q b { s with heap := h' }) :
    wpAny (model P w) A (setAddHashed a (.str k u) (hashStr w k)) Q E s := by
  obtain ⟨D, ho, F⟩ := x
  by_cases hk : k ∈ l
  · refine had_x ho F.ok hk (by omega) ?_
    refine h false s.heap (fun _ _ => rfl) rfl ⟨D, ho, ?_⟩
    unfold putT
    rw [if_pos hk]
    exact F
  · refine add_x ho F.ok hk hb ?_
    refine h true _ (fun c hc => Heap.get?_update_other _ _ (Ne.symm hc)) (by rw [Heap.size_after_update]) ⟨_, get_upd _ ho rfl, ?_⟩
    unfold putT
    rw [if_neg hk]
    exact F.add u hk
end
end Dz

set_option Elab.async false
set_option linter.all false
set_option maxRecDepth 100000
set_option maxHeartbeats 4000000
/-! DzP: set(list of texts); set.add of a text; sorted of a set of texts. -/
namespace Dz
open PySem PySem.Spec L2 PySem.Froz PyProof.Rows

def putAll (l ts : List Str) : List Str := ts.foldl (fun l k => putT k l) l
theorem putAll_take {ts : List Str} {i : Nat} (h : i < ts.length) : putAll [] (ts.take (i + 1)) = putT ts[i] (putAll [] (ts.take i)) := by
  unfold putAll
  rw [List.take_succ_eq_append_getElem h, List.foldl_append] <;> rfl
theorem putAll_len : ∀ (ts l : List Str), (putAll l ts).length ≤ l.length + ts.length
  | [], l => Nat.le_refl _
  | t :: ts, l => by
    have a := putAll_len ts (putT t l)
    have b := putT_len t l
    show (putAll (putT t l) ts).length ≤ l.length + (ts.length + 1)
    omega
theorem mem_putT {x k : Str} {l : List Str} : x ∈ putT k l ↔ x ∈ l ∨ x = k := by
  unfold putT
  split
  · rename_i h
    exact ⟨.inl, fun z => z.elim id fun e => e ▸ h⟩
  · rw [List.mem_cons]
    exact Or.comm
theorem mem_putAll : ∀ (ts l : List Str) {x : Str}, x ∈ putAll l ts ↔ x ∈ l ∨ x ∈ ts
  | [], l, x => by simp [putAll]
  | t :: ts, l, x => by
    show x ∈ putAll (putT t l) ts ↔ _
    rw [mem_putAll ts (putT t l), mem_putT, List.mem_cons, or_assoc]
theorem putT_nodup {k : Str} {l : List Str} (h : l.Nodup) : (putT k l).Nodup := by
  unfold putT
  split
  · exact h
  · rename_i q
    exact List.nodup_cons.mpr ⟨q, h⟩

section
variable {P : Program} {w : World} {A : Around} {E : Value → Shared → Prop} {s : Shared}

section
variable {R : Result → Shared → Prop} {I : Addr} {fp wr : List Addr} {G : Array GenState → Array GenState → Prop} {n : Nat} {Pv : Nat → Value → Prop} {St : Nat → Shared → Prop}
theorem update_loopT (W : WalksS P w A.in1 I fp wr G n Pv St) (S : Addr) (hSf : S ∉ fp) (ts : List Str) (hn : ts.length = n)
    (hval : ∀ i v (h : i < ts.length), Pv i v → ∃ u, v = .str ts[i] u) (hb : n + 1 < scanBound) :
    ∀ (k i : Nat) (s : Shared), n - i = k → i ≤ n → St i s → SetT P w s.heap S (putAll [] (ts.take i)) →
      (∀ s', Moved (S :: wr) G s s' → SetT P w s'.heap S (putAll [] ts) → R (.ok (.ret .none)) s') →
      codeAny (model P w) A (.builtin "set.update.loop" ⟨[.ref S, .ref I], []⟩) R s := by
  have hSw : S ∉ wr := fun h => hSf (W.sub _ h)
  have hsub : ∀ b ∈ wr, b ∈ S :: wr := fun b hb => List.mem_cons_of_mem _ hb
  intro k
  induction k with
  | zero =>
    intro i s hk hi hst hS hR
    have hin : i = n := by omega
    subst hin
    refine codeAny_builtin F.entry_set_update_loop ?_
    rw [Around.under_plainId F.plain_set_update_loop _]
    show wpAny _ A.in1 (pyNext (.ref I) >>= _) _ _ s
    refine wpAny_bind (W.done s _ _ hst fun s' hm => ?_)
    show wpAny _ A.in1 (ret Value.none) _ _ s'
    rw [← hn, List.take_length] at hS
    exact wpAny_pure (hR s' (hm.mono hsub) (hS.at fun o e => hm.heap S _ hSw e))
  | succ k ih =>
    intro i s hk hi hst hS hR
    have hlt : i < n := by omega
    have hlt' : i < ts.length := by omega
    refine codeAny_builtin F.entry_set_update_loop ?_
    rw [Around.under_plainId F.plain_set_update_loop _]
    show wpAny _ A.in1 (pyNext (.ref I) >>= _) _ _ s
    refine wpAny_bind (W.item i s _ _ hlt hst fun v s' hP hst' hm => ?_)
    obtain ⟨u, rfl⟩ := hval i v hlt' hP
    have hS' : SetT P w s'.heap S (putAll [] (ts.take i)) := hS.at fun o e => hm.heap S _ hSw e
    show wpAny _ A.in1 (holding [Value.str ts[i] u] (setAdd S (.str ts[i] u)) >>= _) _ _ s'
    refine wpAny_bind (wpAny_holding ?_)
    unfold setAdd
    refine wpAny_holding ?_
    refine wpAny_bind (wpAny_pyHash_str ?_)
    have hroom : (putAll [] (ts.take i)).length + 1 < scanBound := by
      have a := putAll_len (ts.take i) []
      rw [List.length_take] at a
      have : ([] : List Str).length = 0 := rfl
      omega
    refine put_x (s := { s' with toks := s'.toks + 1 }) hS' hroom fun b h' hk' hz hS2 => ?_
    rw [← putAll_take hlt'] at hS2
    refine wpAny_pure ⟨plainId_quiet F.plain_set_update_loop _, ih (i + 1) _ (by omega) hlt (W.frame _ s' _ _ hst' (Nat.le_succ _) fun b hb o e => ?_) hS2 fun s'' hm'' hS'' => ?_⟩
    · show h'.get? b = some o
      rw [hk' b (fun h : b = S => hSf (by rw [← h]; exact hb))]; exact e
    · refine hR s'' (Moved.trans W.gtrans ((hm.mono hsub).then_heap (Nat.le_succ _) fun b o hb e => ?_) hm'') hS''
      show h'.get? b = some o
      rw [hk' b (fun h : b = S => hb (by rw [h]; exact List.mem_cons_self))]; exact e
end

theorem code_set_of {a : Value} {Q₁ : Value → Shared → Prop}
    (h : Q₁ (.ref s.heap.objs.size) { s with heap := s.heap.push (sObj "set" (#[], 0, .fresh 0 0 (!w.params.followText "set-order"))) }) :
    codeAny (model P w) A (.call (.builtin "set.__new__") ⟨[.type "set", a], []⟩) (wants Q₁ E) s := by
  refine codeAny_of_tree ?_
  show wpAny _ A.in1 (do checkBuiltinCall "set.__new__" ⟨[.type "set", a], []⟩; again (.builtin "set.__new__" ⟨[.type "set", a], []⟩)) _ _ s
  refine wpAny_bind (wpAny_of_eq (F.newCall_set_1 a) (wpAny_pure ⟨plainId_quiet F.plain_set_new _, codeAny_builtin F.entry_set_new ?_⟩))
  rw [Around.under_plainId F.plain_set_new _]
  unfold Builtin.«set.__new__» Builtin.Frozenset.newClass
  have hsub := sub_set_self
  obtain ⟨hp, g, d, tk, os⟩ := s
  dsimp only
  wp_walk
  refine wpAny_askSetting (wpAny_pure ?_)
  dsimp only
  simp only [newObj]
  refine wpAny_bind (wpAny_alloc (wpAny_pure ?_))
  exact wpAny_pure h

/-- set(xs), xs a list of texts -/
theorem call_setT {l : Addr} {items : Array Value} {ts : List Str} {Q : Value → Shared → Prop}
    (hh : A.handled = none) (hl : s.heap.IsList l items) (hn : ts.length = items.size) (hi : ∀ i v (h : i < ts.length), items[i]? = some v → ∃ u, v = .str ts[i] u) (hb : items.size + 1 < scanBound)
    (h : ∀ (h' : Heap) (tk : Nat), SetT P w h' s.heap.objs.size (putAll [] ts) → (∀ b o, b < s.heap.objs.size → s.heap.get? b = some o → h'.get? b = some o) → s.heap.objs.size ≤ h'.objs.size → s.toks ≤ tk →
      Q (.ref s.heap.objs.size) { s with heap := h', toks := tk }) :
    wpAny (model P w) A (call (.type "set") [.ref l]) Q E s := by
  obtain ⟨c, tl, hmro⟩ := F.called_set.mro
  have hmade := F.called_set.made
  have hsub := F.called_set.sub
  refine wpAny_call (codeAny_of_tree ?_)
  show wpAny _ _ (callAny (.type "set") _) _ _ _
  refine wpAny_pure ⟨Code.quiet_builtin _ (by decide +kernel), codeAny_builtin F.entry_type_call ?_⟩
  rw [Around.under_plain (weight_type_call_type "set" [.ref l] []) rfl]
  have h1 := F.called_set.notType
  have h2 := F.called_set.canCreate
  have hct := F.typeCall_set_1 (.ref l)
  repeat (any_goals (first | assumption | wp_step))
  have hT0 : TxSet P w (#[], 0, .fresh 0 0 (!w.params.followText "set-order")) [] := TxSet.fresh w
  have hcode := fun Q₁ => code_set_of (P := P) (w := w) (A := A.in1) (E := E) (s := s) (a := .ref l) (Q₁ := Q₁)
  generalize (!w.params.followText "set-order") = led at hT0 hcode
  refine codeAny_mono (hcode (fun obj s₁ => obj = .ref s.heap.objs.size ∧ s₁ = { s with heap := s.heap.push { cls := .type "set", dict := none, data := .set #[] 0 (.fresh 0 0 led) } }) ⟨rfl, rfl⟩) fun r s₁ hr => ?_
  cases r with
  | error e => exact hr
  | ok fl =>
    cases fl with
    | ret obj =>
      obtain ⟨rfl, rfl⟩ := hr
      have hS : (s.heap.push { cls := .type "set", dict := none, data := .set #[] 0 (.fresh 0 0 led) }).get? s.heap.objs.size = some { cls := .type "set", dict := none, data := .set #[] 0 (.fresh 0 0 led) } := Heap.get?_push_size _ rfl
      have hT : Shared.TypeIs { s with heap := s.heap.push { cls := .type "set", dict := none, data := .set #[] 0 (.fresh 0 0 led) } } (.ref s.heap.objs.size) "set" := ⟨_, hS, rfl⟩
      have hli := F.called_set.init.lookup
      have hbi := F.called_set.init.bind (.ref s.heap.objs.size)
      repeat (any_goals (first | assumption | wp_step))
      refine codeAny_mono (codeAny_call_builtin (R := wants (fun r s₂ => r = .none ∧ ∃ h' tk, s₂ = { s with heap := h', toks := tk } ∧
          SetT P w h' s.heap.objs.size (putAll [] ts) ∧
          (∀ b o, b < s.heap.objs.size → s.heap.get? b = some o → h'.get? b = some o) ∧ s.heap.objs.size ≤ h'.objs.size ∧ s.toks ≤ tk) E) F.called_set.init.plain F.entry_set_init (check_set_init_1 hT ?_)) fun r₂ s₂ hr₂ => ?_
      · obtain ⟨ol, hol, hcl, nl, hdl⟩ := hl
        obtain ⟨ocls, odict, odata, oslots⟩ := ol
        simp only at hcl hdl
        subst hcl; subst hdl
        have hol' : (s.heap.push { cls := .type "set", dict := none, data := .set #[] 0 (.fresh 0 0 led) }).get? l = some { cls := .type "list", dict := odict, data := .seq items nl, slots := oslots } := Heap.get?_push_of_some _ hol
        have hsls := F.sub_list_set
        have hslf := F.sub_list_frozenset
        have hne : (Value.type "list" == Value.type "dict") = false := by decide
        have hl1 : (s.heap.push { cls := .type "set", dict := none, data := .set #[] 0 (.fresh 0 0 led) }).IsList l items := ⟨_, hol', rfl, nl, rfl⟩
        unfold Builtin.«set.__init__» noKeywords Builtin.Frozenset.updateFrom
        generalize hPI : pyIter = PI
        wp_walk
        subst hPI
        refine wpAny_pyIter_list hl1 ?_
        refine wpAny_bind (wpAny_runValue ?_)
        have hlS : l < s.heap.objs.size := Heap.lt_size hol
        have hh3 : A.in1.in1.in1.handled = none := by simp [hh]
        have hneI : l ≠ (s.heap.push { cls := .type "set", dict := none, data := .set #[] 0 (.fresh 0 0 led) }).objs.size := by
          rw [Heap.size_push]; exact Nat.ne_of_lt (Nat.lt_succ_of_lt hlS)
        have hSf : s.heap.objs.size ∉ [(s.heap.push { cls := .type "set", dict := none, data := .set #[] 0 (.fresh 0 0 led) }).objs.size, l] := by
          rw [Heap.size_push]; simp only [List.mem_cons, List.mem_singleton, List.not_mem_nil, or_false, not_or]
          exact ⟨Nat.ne_of_lt (Nat.lt_succ_self _), Nat.ne_of_gt hlS⟩
        refine update_loopT ((Walks.list hh3 _ l hneI items).toS) s.heap.objs.size
          hSf ts hn hi hb (items.size - 0) 0 _ (by omega) (Nat.zero_le _)
          ⟨⟨_, Heap.get?_push_size _ rfl, rfl, rfl⟩, (hl1.push _)⟩ ?hS0 ?hR
        case hS0 =>
          exact ⟨(#[], 0, .fresh 0 0 led), Heap.get?_push_of_some _ hS, hT0⟩
        case hR =>
          intro s' hm hS'
          obtain ⟨h', g', d', tk', os'⟩ := s'
          have eg : g' = s.gens := hm.gens
          have ed : d' = s.drawn := hm.drawn
          have eo : os' = s.os := hm.os
          have et : s.toks ≤ tk' := hm.toks
          subst eg; subst ed; subst eo
          show wpAny _ _ _ _ _ _
          refine wpAny_pure ?_
          show wpAny _ _ (ret Value.none) _ _ _
          refine wpAny_pure ⟨rfl, h', tk', rfl, hS', fun b o hb e => ?_, ?_, et⟩
          · have hb1 : b ≠ s.heap.objs.size := Nat.ne_of_lt hb
            have hb2 : b ≠ (s.heap.push { cls := .type "set", dict := none, data := .set #[] 0 (.fresh 0 0 led) }).objs.size := by
              rw [Heap.size_push]; exact Nat.ne_of_lt (Nat.lt_succ_of_lt hb)
            exact hm.heap b o (by simp only [List.mem_cons, List.mem_singleton, List.not_mem_nil, or_false, not_or]; exact ⟨hb1, hb2⟩) (Heap.get?_push_of_some _ (Heap.get?_push_of_some _ e))
          · obtain ⟨D, hD, _⟩ := hS'
            exact Nat.le_of_lt (Heap.lt_size hD)
      · cases r₂ with
        | error e => exact hr₂
        | ok fl₂ =>
          cases fl₂ with
          | ret r =>
            obtain ⟨rfl, h', tk, rfl, hS', hk', hz, ht⟩ := hr₂
            repeat (any_goals (first | assumption | wp_step))
            exact h _ _ hS' hk' hz ht
          | _ => exact hr₂.elim
    | _ => exact hr.elim

/-- found.add(k) -/
theorem call_addT {a : Addr} {l : List Str} {k : Str} {u : Tok} {Q : Value → Shared → Prop} (R : SetT P w s.heap a l) (room : l.length + 1 < scanBound)
    (hQ : ∀ h', (∀ c, c ≠ a → h'.get? c = s.heap.get? c) → h'.objs.size = s.heap.objs.size → SetT P w h' a (putT k l) → Q .none { s with heap := h', toks := s.toks + 1 }) :
    wpAny (model P w) A (call (.builtin "set.add") [.ref a, .str k u]) Q E s := by
  have hT : s.TypeIs (.ref a) "set" := by
    obtain ⟨D, ho, _⟩ := R
    exact ⟨_, ho, rfl⟩
  refine wpAny_call_entry F.slot_set_add hT F.entry_set_add ?_ (F.args_set_add_2 _ _)
  unfold Builtin.«set.add» Builtin.Frozenset.oneOther
  simp only [List.isEmpty_nil, bind_assoc]
  unfold Builtin.Frozenset.addrOf setAdd
  refine wpAny_bind (wpAny_pure ?_)
  try dsimp only
  refine wpAny_bind (wpAny_pure ?_)
  try dsimp only
  refine wpAny_bind ?_
  refine wpAny_holding ?_
  refine wpAny_bind (wpAny_pyHash_str ?_)
  refine put_x (s := { s with toks := s.toks + 1 }) R room fun b h' hk hz x => ?_
  show wpAny _ _ (ret Value.none) _ _ _
  exact wpAny_pure ⟨_, rfl, hQ h' hk hz x⟩
end
end Dz

set_option Elab.async false
set_option linter.all false
set_option maxRecDepth 100000
set_option maxHeartbeats 4000000
/-! DzQ: sorted(set(xs)) of texts. -/
namespace Dz
open PySem PySem.Spec L2 PySem.Froz PyProof.Rows

def strOfV (v : Value) : Str := match v with | .str k _ => k | _ => ⟨#[]⟩
theorem strs_of_all : ∀ {vs : List Value}, (∀ v ∈ vs, ∃ k u, v = Value.str k u) → StrsAre vs (vs.map strOfV)
  | [], _ => .nil
  | v :: vs, h => by
    obtain ⟨k, u, rfl⟩ := h v List.mem_cons_self
    exact .cons k u (strs_of_all fun x hx => h x (List.mem_cons_of_mem _ hx))
theorem strs_get : ∀ {vs : List Value} {ks : List Str}, StrsAre vs ks → ∀ i v (h : i < ks.length), vs[i]? = some v → ∃ u, v = .str ks[i] u
  | _, _, .nil, i, v, h, e => by cases h
  | _, _, .cons n t hr, 0, v, h, e => by simp at e; exact ⟨t, by rw [← e] <;> rfl⟩
  | _, _, .cons n t hr, i + 1, v, h, e => by
    simp only [List.getElem?_cons_succ] at e
    obtain ⟨u, q⟩ := strs_get hr i v (Nat.lt_of_succ_lt_succ h) e
    exact ⟨u, by rw [q] <;> rfl⟩
theorem strs_len : ∀ {vs : List Value} {ks : List Str}, StrsAre vs ks → vs.length = ks.length
  | _, _, .nil => rfl
  | _, _, .cons _ _ h => congrArg (· + 1) (strs_len h)

/-- a set of texts, as an object of the abstract heap -/
def setO (P : Program) (w : World) (p : Addr) (l : List Str) : HO := .ext fun h => SetT P w h p l
section
variable {X : Cx}
def rMkSet (P : Program) (w : World) (K : PySem.W.Frag) : List V → Hp → VK → Prop := fun xs H Q => ∃ (a : Addr) (ks : List Str), xs = [.ref a] ∧ SqL K H a (ks.map V.str) ∧ ks.length + 1 < scanBound ∧
  ∀ p, H p = none → Q (.ref p) (upd H p (setO P w p (putAll [] ks)))
theorem setO_ok {P : Program} {w : World} {H : Hp} {h : Heap} {p : Addr} {l : List Str} (x : SetT P w h p l) : ObjOk P w H h p (setO P w p l) := by
  refine ⟨x, ?_, fun h1 h2 y k => SetT.at y k⟩
  obtain ⟨D, e, _⟩ := x
  exact ⟨_, e⟩
theorem cr_setT (hc : X.calm = true) : CallR X (.type "set") (rMkSet X.prog X.w X.K) := by
  intro pins s σ H xs us Q I r q
  obtain ⟨a, ks, ex, hl, hz, q⟩ := q
  subst ex
  obtain ⟨its, rv, hp, _⟩ := I.list hl
  rw [Vals.ref1 r]
  have hS := rv.strs
  have hlen := strs_len hS
  refine call_setT (items := its.toArray) (ts := ks) (I.ok.hd hc) hp.isList (by rw [List.size_toArray]; exact hlen.symm) (fun i v h e => strs_get hS i v h (by simpa using e)) (by rw [List.size_toArray, hlen]; exact hz) fun h' tk x k z t => ?_
  exact ⟨.ref _, upd H s.heap.objs.size (setO X.prog X.w s.heap.objs.size (putAll [] ks)), I.laid (fun b u e => k b u (Heap.lt_size e) e) (Nat.le_refl _) (setO_ok x), rfl, q _ (I.hok.fresh (Nat.le_refl _))⟩

def rSortSet (P : Program) (w : World) : List V → Hp → VK → Prop := fun xs H Q => ∃ (a : Addr) (l : List Str), xs = [.ref a] ∧ H a = some (setO P w a l) ∧ l.length < 64 ∧
  ∀ ys p, List.Perm ys l → l.Nodup → sortedS ys = true → H p = none → Q (.ref p) (upd H p (.lst (ys.map V.str)))
theorem cr_sortSet (hc : X.calm = true) : CallR X (.builtin "sorted") (rSortSet X.prog X.w) := by
  intro pins s σ H xs us Q I r q
  obtain ⟨a, l, ex, ha, h64, q⟩ := q
  subst ex
  have x : ObjOk X.prog X.w H s.heap a (setO X.prog X.w a l) := I.hok a _ ha
  obtain ⟨D, hD, F⟩ := x.1
  obtain ⟨es, ep, t⟩ := D
  rw [Vals.ref1 r]
  have hsz : es.size = l.length := F.ok.sz
  refine Calls.call_function_entry PyProof.Rows.kind_sorted PyProof.Rows.plain_sorted PyProof.Rows.entry_sorted (PyProof.Rows.args_sorted1 _) ?_
  unfold Builtin.«sorted»
  refine wpAny_bind (m := checkCount "sorted" 1 1 _) (wpAny_pure ?_)
  refine wpAny_bind (collect_set (A := X.A.in1) (I.ok.hd hc) ⟨_, hD, rfl, rfl⟩ F.ok.fit (by show es.size < 4096; omega) F.ris F.led fun s1 vs k1 hz g1 o1 pm => ?_)
  have hall : ∀ v ∈ vs, ∃ k u, v = Value.str k u := fun v hv => by
    obtain ⟨e, he, z⟩ := List.mem_map.mp (pm.mem_iff.mp hv)
    obtain ⟨k, u, z2⟩ := F.str e he
    exact ⟨k, u, z.symm.trans z2⟩
  have hS := strs_of_all hall
  have pk : (vs.map strOfV).Perm l := by
    have z := pm.map strOfV
    rw [List.map_map] at z
    exact z.trans F.pm
  have hvl : vs.length = l.length := by rw [← List.length_map (f := strOfV), pk.length_eq]
  refine wpAny_bind (wpAny_newList ?_ (by rw [hvl, sizeLine_eq]; omega))
  have hoL : (s1.heap.push (seqObj "list" vs.toArray 0)).get? s1.heap.objs.size = some (seqObj "list" vs.toArray 0) := Heap.get?_push_size _ rfl
  refine wpAny_bind (wpAny_holding (wpAny_call_entry PyProof.Rows.slot_list_sort ⟨_, hoL, rfl⟩ PyProof.Rows.entry_list_sort
    (list_sort_treeK strKind_oneLt (s := { s1 with heap := s1.heap.push (seqObj "list" vs.toArray 0) }) hoL hS.keysOf (fun v₁ v₂ rest e => keyKind_strs (by rw [← e]; exact hS)) (by rw [hvl]; exact h64) fun st' hp hs => ⟨_, rfl, ?_⟩)
    (PyProof.Rows.args_list_sort _)))
  obtain ⟨ys, g1', g2, g3⟩ := sorted_out_str hS hp hs
  obtain ⟨c, he⟩ := PyProof.Rows.sortedHeap_at (vs := vs) (out := (arrOf st').map (·.2)) hoL
  have hlen : (ys.map V.str).length ≤ sizeLine := by
    rw [List.length_map, g2.length_eq, List.length_map, hvl, sizeLine_eq]; omega
  have hn : H s1.heap.objs.size = none := I.hok.fresh hz
  have keep : ∀ b u, s.heap.get? b = some u → (PyProof.Rows.sortedHeap (s1.heap.push (seqObj "list" vs.toArray 0)) s1.heap.objs.size vs ((arrOf st').map (·.2))).get? b = some u := fun b u e => by
    have q := k1 b u e
    have hlt := Heap.lt_size q
    rw [PyProof.Rows.sortedHeap_old (Nat.ne_of_lt hlt) (by rw [size_push']; exact Nat.lt_succ_of_lt hlt)]
    exact Heap.get?_push_of_some _ q
  have J : Inv X pins σ (upd H s1.heap.objs.size (.lst (ys.map V.str))) { s with heap := PyProof.Rows.sortedHeap (s1.heap.push (seqObj "list" vs.toArray 0)) s1.heap.objs.size vs ((arrOf st').map (·.2)), gens := s1.gens, drawn := s1.drawn, toks := s1.toks } :=
    I.call (ch := []) (Un.laid keep hz hn) (I.hok.laid keep hz ⟨hlen, ((arrOf st').map (·.2)).toList, c, vals_of_strs g1', by rw [Array.toArray_toList]; exact he⟩) (by rw [g1]; exact I.bare) (fun _ z => nomatch z)
  have e : ({ s1 with heap := PyProof.Rows.sortedHeap (s1.heap.push (seqObj "list" vs.toArray 0)) s1.heap.objs.size vs ((arrOf st').map (·.2)) } : Shared) = { s with heap := PyProof.Rows.sortedHeap (s1.heap.push (seqObj "list" vs.toArray 0)) s1.heap.objs.size vs ((arrOf st').map (·.2)), gens := s1.gens, drawn := s1.drawn, toks := s1.toks } := by
    cases s1
    cases s
    cases o1
    rfl
  refine wpAny_pure ⟨_, rfl, ?_⟩
  show EP X pins σ Q _ ({ s1 with heap := PyProof.Rows.sortedHeap (s1.heap.push (seqObj "list" vs.toArray 0)) s1.heap.objs.size vs ((arrOf st').map (·.2)) } : Shared)
  rw [e]
  exact ⟨.ref s1.heap.objs.size, _, J, rfl, q ys _ (g2.trans pk) F.nd g3 hn⟩
end
end Dz

set_option Elab.async false
set_option linter.all false
set_option maxRecDepth 100000
set_option maxHeartbeats 4000000
/-! DzR: sorted(set(e)) of texts, as a rule over data. -/
namespace Dz
open PySem PySem.Spec L2 PySem.Froz PyProof.Rows

theorem Iss.strs {K : PySem.W.Frag} {H : Hp} : ∀ {ks : List Str} {vs : List V}, Iss K H vs (ks.map DV.str) → vs = ks.map V.str
  | [], _, .nil => rfl
  | k :: ks, _, .cons h r => by
    cases h
    rw [Iss.strs r] <;> rfl
theorem Iss.ofStrs {K : PySem.W.Frag} {H : Hp} : ∀ (ks : List Str), Iss K H (ks.map V.str) (ks.map DV.str)
  | [] => .nil
  | k :: ks => .cons (.str k) (Iss.ofStrs ks)
/-- the distinct texts of ks, rising -/
structure Distinct (ys ks : List Str) : Prop where
  nd : ys.Nodup
  up : sortedS ys = true
  mem : ∀ k, k ∈ ys ↔ k ∈ ks
def wSortSet (we : WE) : WE := fun ρ μ P => we ρ μ fun x μ1 => match x with
  | .lst ds => ∃ ks : List Str, ds = ks.map DV.str ∧ ks.length < 64 ∧ ∀ ys, Distinct ys ks → P (.lst (ys.map .str)) μ1
  | _ => False
theorem putAll_nodup : ∀ (ts l : List Str), l.Nodup → (putAll l ts).Nodup
  | [], _, h => h
  | t :: ts, l, h => putAll_nodup ts (putT t l) (putT_nodup h)
section
variable {X : Cx} {p p2 pos pos2 : Pos} {e : Expr} {w : WE}
theorem d_sortSet (hg : Gl X "sorted") (hm : X.mg "sorted" = none) (hg2 : Gl X "set") (hm2 : X.mg "set" = none) (ha : PE X e (tD X.K w)) (hc : X.calm = true := by rfl)
    (hs : starEach [e] X.env = [(false, eval e X.env)] := by rfl)
    (hs2 : starEach [.Call (.Name "set" p2) [e] [] pos2] X.env = [(false, eval (.Call (.Name "set" p2) [e] [] pos2) X.env)] := by rfl) :
    PE X (.Call (.Name "sorted" p) [.Call (.Name "set" p2) [e] [] pos2] [] pos) (tD X.K (wSortSet w)) :=
  PE.imp (pe_callB (cr_sortSet hc) hg hm (by decide +kernel) (pa_cons (pe_callTy (cr_setT hc) hg2 hm2 (by decide +kernel) (pa_cons ha pa_nil hs) (by decide) (by decide) hs rfl) pa_nil hs2) (by decide) (by decide) hs2 rfl)
    fun σ H Q ⟨R, ρ, μ, P, a, w, k⟩ => ⟨R, ρ, μ, _, a, w, fun x μ1 v H1 p1 o1 s1 i1 => by
      cases i1 with
      | @lst b xs ds hx rx =>
        obtain ⟨ks, rfl, hk, q⟩ := p1
        have ex := rx.strs
        subst ex
        have hle := putAll_len ks []
        refine ⟨b, ks, rfl, SqL.of (hid_le _ _ hx), Nat.lt_of_lt_of_le (Nat.succ_lt_succ hk) (by decide), fun p hp => ⟨p, _, rfl, upd_same, Nat.lt_of_le_of_lt (by simpa using hle) hk, fun ys p' pm nd up hp' => ?_⟩⟩
        have o2 := o1.new (o := setO X.prog X.w p (putAll [] ks)) hp
        refine (k.step (s1.trans (o1.sameNew hp))).lst o2 (q ys ⟨pm.nodup_iff.mpr nd, up, fun k => ?_⟩) (Iss.ofStrs ys) hp'
        rw [pm.mem_iff, mem_putAll]
        simp
      | _ => exact (show False from p1).elim⟩
end
end Dz

set_option Elab.async false
set_option linter.all false
set_option maxRecDepth 100000
set_option maxHeartbeats 4000000
/-! DzU: a set comprehension of texts. -/
namespace Dz
open PySem PySem.Spec L2 PySem.Froz PyProof.Rows

section
variable {X : Cx}
/-- set.add of a text -/
theorem addT_ok {pins : List (Addr × Obj)} {σ : L2.St} {H : Hp} {s : Shared} {E : Value → Shared → Prop} {D : Addr} {l : List Str} {k : Str} {u : Tok} {Q : Value → Shared → Prop} (I : Inv X pins σ H s) (hD : H D = some (setO X.prog X.w D l)) (room : l.length + 1 < scanBound)
    (h : ∀ s', Inv X pins σ (upd H D (setO X.prog X.w D (putT k l))) s' → Q .none s') : wpAny (model X.prog X.w) X.A (call (.builtin "set.add") [.ref D, .str k u]) Q E s := by
  have x : ObjOk X.prog X.w H s.heap D (setO X.prog X.w D l) := I.hok D _ hD
  refine call_addT x.1 room fun h' sb hz new => ?_
  have he : ∃ o, h'.get? D = some o := by
    obtain ⟨o, e, _⟩ := new
    exact ⟨_, e⟩
  exact h _ (I.write (e := D) (t' := s.toks + 1) (by rw [hD]; trivial) (.inl rfl) (fun b o hb ho => (sb b hb).trans ho) he (setO_ok new))

/-- the new set, as it is made -/
def newS (w : World) : Obj := { cls := .type "set", dict := none, data := .set #[] 0 (.fresh 0 0 (!w.params.followText "set-order")) }
theorem newS_ok {P : Program} {w : World} {H : Hp} {h : Heap} : ObjOk P w H (h.push (newS w)) h.objs.size (setO P w h.objs.size []) :=
  setO_ok ⟨_, Heap.get?_push_size _ rfl, TxSet.fresh w⟩

/-- {elt for target in iter if ..} over texts; D the new set, Nx what the turn leaves -/
def tScT (P : Program) (w : World) (wi : TI) (g : TG) (tt : TT) (te : TE) (vs : List Nat) : TE := fun σ H Q => wi σ H fun J H1 => ∀ D, H1 D = none → ∃ W : Nat → Nat → Hp → Prop, (∃ m, W 0 m (upd H1 D (setO P w D []))) ∧ ∀ i m H, W i m H →
  (J.stop i H ∧ Q (.ref D) H) ∨ (J.go i H ∧ ∃ Nx : Hp → Prop, (∀ H', Nx H' → ∃ m', m' < m ∧ W (i + 1) m' H') ∧ ∀ x H', J.yld i H x H' → g x (wipe σ vs) H' fun σ2 H2 => wipe σ2 vs = wipe σ vs ∧ tt σ2 H2 fun b H3 =>
    if b = true then te σ2 H3 fun y H4 => ∃ (k : Str) (l : List Str), y = .str k ∧ H4 D = some (setO P w D l) ∧ l.length + 1 < scanBound ∧ Nx (upd H4 D (setO P w D (putT k l))) else Nx H3)

theorem pe_scT {elt tg iter : Expr} {ifs : List Expr} {scope : Scope} {own : List (PySem.Str × Nat)} {pos : Pos} {wi : TI} {g : TG} {tt : TT} {te : TE} (hc : X.calm = true) (hN : X.N.Nodup) (hi : PI X tg iter wi) (ok : BlkOk X.N X.env.scope scope own)
    (hg : ∀ (s : Shared) (H : Hp) (C : Addr) (cl : List (PySem.Str × Addr)) (fp : List Addr), PG (X.blk s H scope (compEnvC scope cl C X.env) fp) tg g) (ht : ∀ (s : Shared) (H : Hp) (C : Addr) (cl : List (PySem.Str × Addr)) (fp : List Addr), PTs (X.blk s H scope (compEnvC scope cl C X.env) fp) ifs tt)
    (he : ∀ (s : Shared) (H : Hp) (C : Addr) (cl : List (PySem.Str × Addr)) (fp : List Addr), PE (X.blk s H scope (compEnvC scope cl C X.env) fp) elt te) (hs : ∀ x, foldedSetIterable iter X.env x = pure x := by intro _; rfl) :
    PE X (.SetComp elt [⟨tg, iter, ifs, 0⟩] scope pos) (tScT X.prog X.w wi g tt te (own.map (·.2))) := by
  refine ⟨fun pins s σ H Q I h => ?_⟩
  rw [PpSet.eval_SetComp]
  have closed : ∀ y ∈ scope.names, y.2 = .free → ∃ c, X.env.cells.lookup y.1 = some c := fun y hy e =>
    (ok.free y hy e).elim (fun k => I.ok.has _ (.inl k)) fun k => I.ok.has _ (.inr k)
  refine wpAny_comprehension_free (use := none) rfl hs (closure_ok closed) ok.kind (fun y hy e => by rw [ok.uniq y hy, e]) (thn (hi.run pins s σ H _ I h) fun _ s1 h1 => thn h1 fun _ s2 h2 => ?_)
  obtain ⟨it, fp, tn, J, Ha, rfl, Ia, T, sta, fa, turns⟩ := h2
  refine PpSet.newSet_ok (newEnv_comp ?_)
  have D0 : Ha s2.heap.objs.size = none := Ia.hok.fresh (Nat.le_refl _)
  obtain ⟨W, ⟨m0, w0⟩, turn⟩ := turns _ D0
  -- the set stands
  have Ib : Inv X pins σ (upd Ha s2.heap.objs.size (setO X.prog X.w s2.heap.objs.size [])) { s2 with heap := s2.heap.push (newS X.w) } :=
    Ia.laid (t' := s2.toks) (fun b o e => Heap.get?_push_of_some _ e) (Nat.le_refl _) newS_ok
  have old : ∀ b ∈ fp, b < s2.heap.objs.size := fun b hb => by
    obtain ⟨o, e, _⟩ := T.obj _ _ sta b hb
    exact Heap.lt_size e
  have stb : tn 0 (s2.heap.push (newS X.w)) := T.keep _ _ _ sta fun b _ o e => Heap.get?_push_of_some _ e
  generalize hD : s2.heap.objs.size = D at *
  generalize hH3 : upd Ha D (setO X.prog X.w D []) = H3 at *
  have fb : ∀ b ∈ fp, FpOk X pins H3 b ∧ b < (s2.heap.push (newS X.w)).objs.size := fun b hb => by
    refine ⟨⟨?_, (fa b hb).2⟩, by rw [Heap.size_push, hD]; exact Nat.lt_succ_of_lt (old b hb)⟩
    rw [← hH3, upd_ne (Nat.ne_of_lt (old b hb))]
    exact (fa b hb).1
  have Ic := block_start Ib ok hN fb
  have e3 : s2.heap.push { cls := .type "set", dict := none, data := .set #[] 0 (.fresh 0 0 (!X.w.params.followText "set-order")) } = s2.heap.push (newS X.w) := rfl
  rw [e3]
  generalize hs3 : ({ s2 with heap := s2.heap.push (newS X.w) } : Shared) = s3 at *
  have h3 : s2.heap.push (newS X.w) = s3.heap := by rw [← hs3]
  show codeAny _ _ (.compStart (.SetComp elt [⟨tg, iter, ifs, 0⟩] scope pos) 0 (.ref it) (.ref D) (compEnvC scope (cellsFrom (s3.heap.objs.size + 1) scope.names (cloFrom X.env.cells scope.names [])) s3.heap.objs.size X.env)) (compPost (model X.prog X.w) X.A X.xe none (EP X pins σ Q) (.ref D) s3.heap.objs.size) { s3 with heap := pushCells (s3.heap.push { cls := .type "dict", data := .dict #[] }) scope.names }
  rw [h3] at stb fb
  have stc : tn 0 (pushCells (s3.heap.push { cls := .type "dict", data := .dict #[] }) scope.names) := T.keep _ _ _ stb fun b _ o e => pushCells_keeps _ _ _ _ (Heap.get?_push_of_some _ e)
  have pg := hg s3 H3 s3.heap.objs.size (cellsFrom (s3.heap.objs.size + 1) scope.names (cloFrom X.env.cells scope.names [])) fp
  have pt := ht s3 H3 s3.heap.objs.size (cellsFrom (s3.heap.objs.size + 1) scope.names (cloFrom X.env.cells scope.names [])) fp
  have pe := he s3 H3 s3.heap.objs.size (cellsFrom (s3.heap.objs.size + 1) scope.names (cloFrom X.env.cells scope.names [])) fp
  generalize hce : compEnvC scope (cellsFrom (s3.heap.objs.size + 1) scope.names (cloFrom X.env.cells scope.names [])) s3.heap.objs.size X.env = ce at Ic pg pt pe ⊢
  have cL : ce.locals = s3.heap.objs.size := by subst hce; rfl
  generalize hs4 : ({ s3 with heap := pushCells (s3.heap.push { cls := .type "dict", data := .dict #[] }) scope.names } : Shared) = s4 at Ic ⊢
  have st4 : tn 0 s4.heap := by rw [← hs4]; exact stc
  have apart : ∀ {σ' : L2.St} {H' : Hp} {s' : Shared}, Inv (X.blk s3 H3 scope ce fp) [] σ' H' s' → (∀ b ∈ fp, H' b = none) → ∀ b ∈ fp, FpOk (X.blk s3 H3 scope ce fp) [] H' b := fun {σ' H' s'} I' n b hb =>
    ⟨n b hb, (I'.ok.exf b hb).1, I'.ok.exfs b hb, .inl hb, fun x c e => (I'.ok.exf b hb).2 x c e, fun p hp => nomatch (show p ∈ ([] : List (Addr × Obj)) from hp)⟩
  let Live (m : Nat) (s' : Shared) : Prop := ∃ i H', Inv (X.blk s3 H3 scope ce fp) [] (wipe σ (own.map (·.2))) H' s' ∧ tn i s'.heap ∧ (∀ b ∈ fp, H' b = none) ∧ W i m H'
  have run : codeAny (model X.prog X.w) X.A (.compLoop (.SetComp elt [⟨tg, iter, ifs, 0⟩] scope pos) 0 (.ref it) (.ref D) ce) (compPost (model X.prog X.w) X.A X.xe none (EP X pins σ Q) (.ref D) s3.heap.objs.size) s4 := by
    refine PpSet.compLoopS_any Live ?_ m0 ⟨0, H3, Ic, st4, fun b hb => (fb b hb).1.1, w0⟩
    rintro n s5 ⟨i, H5, I5, st5, n5, w5⟩
    rcases turn i n H5 w5 with ⟨stop, qq⟩ | ⟨go, Nx, hNx, step⟩
    · refine thnF (T.done (X.blk s3 H3 scope ce fp) rfl rfl rfl hc i [] s5 _ H5 (fun _ _ => False) I5 (apart I5 n5) st5 stop) fun r s6 ⟨hr, I6⟩ => ?_
      subst hr
      have I7 : Inv X pins σ H5 s6 := Ib.call' (ch := fp) I6.os I6.base I6.hok I6.bare fun b hb => ⟨(fb b hb).1.2.2.2.1, (fb b hb).1.2.1, (fb b hb).1.2.2.2.2.1, (fb b hb).1.2.2.2.2.2⟩
      have nC : H5 s3.heap.objs.size = none := by
        have z : H5 ce.locals = none := I6.free
        rw [cL] at z
        exact z
      obtain ⟨m, hn, _⟩ := I6.loc
      have hn : s6.heap.Ns ce.locals m := hn
      rw [cL] at hn
      obtain ⟨f0, f1, f2, f3, f4, f5⟩ := Ib.fpOk (H' := H5) (Nat.le_refl _) nC
      exact ⟨m, hn, fun h'' sb => ⟨.ref D, H5, I7.turned (t' := s6.toks) (fun b o hb e => (sb.2 b hb).trans e) f0 f1 f3 f4 f5, rfl, qq⟩⟩
    · refine thnF (T.item (X.blk s3 H3 scope ce fp) rfl rfl rfl hc i [] s5 _ H5 (fun _ _ => False) I5 (apart I5 n5) st5 go) fun r s6 ⟨u, hr, h6⟩ => ?_
      subst hr
      refine thnF h6 fun _ s7 ⟨x, H7, I7, r7, y7, st7, n7⟩ => ?_
      refine thnF (pg.run _ s7 _ H7 x u _ (I7.pinned (apart I7 n7) (T.obj _ _ st7)) r7 (step x H7 y7)) fun _ s8 ⟨σ8, H8, I8, hw8, q8⟩ => ?_
      refine thnF (pt.run _ s8 σ8 H8 _ I8 q8) fun b s9 ⟨H9, I9, q9⟩ => ?_
      have fin : ∀ {s' : Shared} {H' : Hp}, Inv (X.blk s3 H3 scope ce fp) ([] ++ pinsAt fp s7.heap) σ8 H' s' → Nx H' → ∃ m, m < n ∧ Live m s' := fun {s' H'} I' nx => by
        obtain ⟨m', hm, w'⟩ := hNx H' nx
        have still : ∀ b ∈ fp, ∀ o, s7.heap.get? b = some o → s'.heap.get? b = some o ∧ H' b = none := fun b hb o e =>
          (I'.pin (b, o) (List.mem_append_right _ (List.mem_append_right _ (mem_pinsAt hb e)))).imp id fun z => z.1
        refine ⟨m', hm, i + 1, H', (I'.unpinned (pins := [])).weak (by rw [← hw8, wipe_length]) (fun j v e => ?_), T.keep _ _ _ st7 fun b hb o e => (still b hb o e).1, fun b hb => ?_, w'⟩
        · rw [← hw8] at e
          exact (wipe_some e).1
        · obtain ⟨o, e, _⟩ := T.obj _ _ st7 b hb
          exact (still b hb o e).2
      cases b with
      | false =>
        simp only [Bool.false_eq_true, if_false] at q9 ⊢
        exact fin I9 q9
      | true =>
        simp only [if_true] at q9 ⊢
        refine thnF (pe.run _ s9 σ8 H9 _ I9 q9) fun z s10 ⟨yv, H10, I10, r10, k, l, ey, hD10, hz10, nx⟩ => ?_
        subst ey
        obtain ⟨tk, rfl⟩ := (show ∃ tk, z = Value.str k tk from r10)
        exact addT_ok (X := X.blk s3 H3 scope ce fp) I10 hD10 hz10 fun s11 I11 => fin I11 nx
  exact PpSet.codeAny_compStart_set run (T.self X.A 0 _ _ _ st4 run)
end
end Dz

set_option Elab.async false
set_option linter.all false
set_option maxRecDepth 100000
set_option maxHeartbeats 4000000
/-! DzV: sorted({elt for target in iter if ..}) of texts, as a rule over data. -/
namespace Dz
open PySem PySem.Spec L2 PySem.Froz PyProof.Rows

def compS (g : WG) (t : WT) (e : WE) (ρ : Rho) : List DV → List Str → Mh → (List Str → Mh → Prop) → Prop
  | [], acc, μ, P => P acc μ
  | x :: xs, acc, μ, P => g x ρ fun ρ1 => t ρ1 μ fun b μ1 => match b with
    | true => e ρ1 μ1 fun y μ2 => ∃ k, y = .str k ∧ acc.length < 63 ∧ compS g t e ρ xs (acc ++ [k]) μ2 P
    | false => compS g t e ρ xs acc μ1 P
def wSortSc (ws : WI) (g : WG) (t : WT) (e : WE) (vs : List Nat) : WE := fun ρ μ P => ws ρ μ fun xs μ1 => compS g t e (wipeD ρ vs) xs [] μ1 fun ks μ2 => ∀ ys, Distinct ys ks → P (.lst (ys.map .str)) μ2
/-- with a function that gives the texts -/
theorem compS_pure {g : WG} {t : WT} {e : WE} {ρ : Rho} {μ : Mh} (b : DV → Bool) (f : DV → Str) : ∀ (xs : List DV) (acc : List Str) (P : List Str → Mh → Prop),
    (∀ x ∈ xs, ∀ (acc : List Str) (P : List Str → Mh → Prop), acc.length < 63 → (if b x = true then P (acc ++ [f x]) μ else P acc μ) →
      g x ρ fun ρ1 => t ρ1 μ fun b μ1 => match b with
        | true => e ρ1 μ1 fun y μ2 => ∃ k, y = .str k ∧ acc.length < 63 ∧ P (acc ++ [k]) μ2
        | false => P acc μ1) →
    acc.length + xs.length ≤ 63 → P (acc ++ (xs.filter b).map f) μ → compS g t e ρ xs acc μ P
  | [], acc, P, _, _, q => by
    have q' : P (acc ++ []) μ := q
    rw [List.append_nil] at q'
    exact q'
  | x :: xs, acc, P, hx, hl, q => by
    rw [List.length_cons] at hl
    refine hx x List.mem_cons_self acc (fun ac μ' => compS g t e ρ xs ac μ' P) (by omega) ?_
    by_cases hb : b x = true
    · rw [if_pos hb]
      rw [List.filter_cons_of_pos hb, List.map_cons] at q
      refine compS_pure b f xs (acc ++ [f x]) P (fun z hz => hx z (List.mem_cons_of_mem _ hz)) (by simp; omega) ?_
      rw [List.append_assoc]
      exact q
    · rw [if_neg hb]
      rw [List.filter_cons_of_neg hb] at q
      exact compS_pure b f xs acc P (fun z hz => hx z (List.mem_cons_of_mem _ hz)) (by omega) q
theorem putAll_snoc (ks : List Str) (k : Str) : putAll [] (ks ++ [k]) = putT k (putAll [] ks) := by
  unfold putAll
  rw [List.foldl_append] <;> rfl
section
variable {X : Cx} {elt tg iter : Expr} {ifs : List Expr} {scope : Scope} {own : List (Str × Nat)} {p pos pos2 : Pos} {ws : WI} {g : WG} {t : WT} {e : WE} {sl : List Nat}
theorem sc_imp {P' : Program} {w' : World} {K : PySem.W.Frag} {vs : List Nat} (hv : ∀ i ∈ sl, i ∈ vs) : ∀ σ H Q, tD K (wSortSc ws g t e vs) σ H Q → tCB (rSortSet P' w') (tCons (tScT P' w' (tDI K ws) (tDG K sl g) (tDT K t) (tD K e) vs) tNil) σ H Q := fun σ H Q ⟨R, ρ, μ, P, a, w, k⟩ =>
  ⟨R, ρ, μ, _, a, w, fun xs μ1 H1 J p1 o1 s1 it => fun D n => by
    have rn := o1.freeR n
    refine ⟨fun i m H' => m = xs.length - i ∧ i ≤ xs.length ∧ ∃ μ' ks, ks.length ≤ 63 ∧ Ok K (upd R D (setO P' w' D (putAll [] ks))) μ' H' ∧ Same (hid R μ1 H1) (hid (upd R D (setO P' w' D (putAll [] ks))) μ' H') ∧
      compS g t e (wipeD ρ vs) (xs.drop i) ks μ' fun ks μ2 => ∀ ys, Distinct ys ks → P (.lst (ys.map .str)) μ2, ?_, ?_⟩
    · obtain ⟨o2, e2⟩ := o1.frame (o := setO P' w' D []) n
      exact ⟨_, rfl, Nat.zero_le _, μ1, [], by decide, o2, by rw [show putAll [] [] = [] from rfl, e2]; exact Same.refl _, p1⟩
    rintro i m H2 ⟨rfl, hi, μ2, ks, h63, o2, s2, w2⟩
    by_cases hlt : i < xs.length
    · refine .inr ⟨it.go _ μ2 H2 i o2 s2 hlt, fun H' => ∃ μ' ks, ks.length ≤ 63 ∧ Ok K (upd R D (setO P' w' D (putAll [] ks))) μ' H' ∧ Same (hid R μ1 H1) (hid (upd R D (setO P' w' D (putAll [] ks))) μ' H') ∧
        compS g t e (wipeD ρ vs) (xs.drop (i + 1)) ks μ' fun ks μ2 => ∀ ys, Distinct ys ks → P (.lst (ys.map .str)) μ2, fun H' ⟨μ', ks', z', o', s', w'⟩ => ⟨_, ?_, rfl, hlt, μ', ks', z', o', s', w'⟩, fun x H3 y => ?_⟩
      · omega
      · obtain ⟨d, hd, o3, s3, r3⟩ := it.yld _ μ2 H2 i x H3 o2 s2 y hlt
        rw [drop_at hd] at w2
        have sl3 : Sl K (hid (upd R D (setO P' w' D (putAll [] ks))) μ2 H3) (wipe σ vs) (wipeD ρ vs) := (a.sl.mono ((s1.trans s2).trans s3)).wipe vs
        refine ⟨_, wipeD ρ vs, μ2, d, _, ⟨o3, sl3⟩, r3, w2, fun ρ4 σ4 w4 sl4 ww => ⟨by rw [ww vs hv, wipe_wipe], _, ρ4, μ2, _, ⟨o3, sl4⟩, w4, fun b μ5 H5 p5 o5 s5 => ?_⟩⟩
        cases b with
        | false => exact iteF ⟨μ5, ks, h63, o5, (s2.trans s3).trans s5, p5⟩
        | true =>
          refine iteT ⟨_, ρ4, μ5, _, ⟨o5, sl4.mono s5⟩, p5, fun y μ6 v H6 p6 o6 s6 r6 => ?_⟩
          obtain ⟨k, rfl, hk, p6⟩ := p6
          cases r6
          have hle := putAll_len ks []
          obtain ⟨o7, e7⟩ := o6.reframe (o' := setO P' w' D (putT k (putAll [] ks)))
          refine ⟨k, putAll [] ks, rfl, o6.fr D _ upd_same, ?_, μ6, ks ++ [k], by rw [List.length_append]; simp; omega, ?_, ?_, p6⟩
          · show (putAll [] ks).length + 1 < 4096
            have : ([] : List Str).length = 0 := rfl
            omega
          · rw [putAll_snoc]
            exact o7
          · rw [putAll_snoc, e7]
            exact ((s2.trans s3).trans s5).trans s6
    · have e' : i = xs.length := by omega
      subst e'
      rw [List.drop_length] at w2
      have hset : H2 D = some (setO P' w' D (putAll [] ks)) := o2.fr D _ upd_same
      obtain ⟨o4, s4, h4⟩ := o2.unframe rn
      refine .inl ⟨it.stop _ μ2 H2 _ o2 s2 (Nat.le_refl _), D, putAll [] ks, rfl, hset, ?_, fun ys p' pm nd up hp' => ?_⟩
      · have hle := putAll_len ks []
        have : ([] : List Str).length = 0 := rfl
        omega
      · refine (k.step (s1.trans (s2.trans s4))).lst o4 (w2 ys ⟨pm.nodup_iff.mpr nd, up, fun k => ?_⟩) (Iss.ofStrs ys) hp'
        rw [pm.mem_iff, mem_putAll]
        simp⟩
theorem d_sortSc (hgl : Gl X "sorted") (hm : X.mg "sorted" = none) (hi : PI X tg iter (tDI X.K ws)) (ok : BlkOk X.N X.env.scope scope own)
    (hg : ∀ (s : Shared) (H : Hp) (C : Addr) (cl : List (Str × Addr)) (fp : List Addr), PG (X.blk s H scope (compEnvC scope cl C X.env) fp) tg (tDG X.K sl g)) (ht : ∀ (s : Shared) (H : Hp) (C : Addr) (cl : List (Str × Addr)) (fp : List Addr), PTs (X.blk s H scope (compEnvC scope cl C X.env) fp) ifs (tDT X.K t))
    (he : ∀ (s : Shared) (H : Hp) (C : Addr) (cl : List (Str × Addr)) (fp : List Addr), PE (X.blk s H scope (compEnvC scope cl C X.env) fp) elt (tD X.K e)) (hN : X.N.Nodup) (hv : ∀ i ∈ sl, i ∈ own.map (·.2) := by decide) (hc : X.calm = true := by rfl) (hs : ∀ x, foldedSetIterable iter X.env x = pure x := by intro _; rfl)
    (hs2 : starEach [.SetComp elt [⟨tg, iter, ifs, 0⟩] scope pos2] X.env = [(false, eval (.SetComp elt [⟨tg, iter, ifs, 0⟩] scope pos2) X.env)] := by rfl) :
    PE X (.Call (.Name "sorted" p) [.SetComp elt [⟨tg, iter, ifs, 0⟩] scope pos2] [] pos) (tD X.K (wSortSc ws g t e (own.map (·.2)))) :=
  PE.imp (pe_callB (cr_sortSet hc) hgl hm (by decide +kernel) (pa_cons (pe_scT hc hN hi ok hg ht he hs) pa_nil hs2) (by decide) (by decide) hs2 rfl) (sc_imp hv)
end
end Dz

set_option Elab.async false
set_option linter.all false
set_option maxRecDepth 100000
set_option maxHeartbeats 2000000
/-! DzW: an object that changes no more is plain data. -/
namespace Dz
open PySem L2

def delM (μ : Mh) (a : Addr) : Mh := fun b => if b = a then none else μ b
theorem delM_same {μ : Mh} {a : Addr} : delM μ a a = none := by unfold delM; rw [if_pos rfl]
theorem delM_ne {μ : Mh} {a b : Addr} (h : b ≠ a) : delM μ a b = μ b := by unfold delM; rw [if_neg h]
theorem Ok.free {K : PySem.W.Frag} {R : Hp} {μ : Mh} {H : Hp} {a : Addr} {m : MO} (k : Ok K R μ H) (h : μ a = some m) (hn : m ≠ .inner) : Ok K R (delM μ a) H ∧ Same (hid R μ H) (hid R (delM μ a) H) ∧ hid R (delM μ a) H a = H a := by
  have ra : R a = none := by
    cases e : R a with
    | none => rfl
    | some o => rw [k.dj a o e] at h; cases h
  have hs : Same (hid R μ H) (hid R (delM μ a) H) := fun b u e => by
    obtain ⟨e1, e2, e3⟩ := hid_some e
    have ne : b ≠ a := fun z => by subst z; rw [h] at e2; cases e2
    rw [hid_at e1 (by rw [delM_ne ne]; exact e2)]
    exact e3
  refine ⟨⟨k.fr, fun b o e => ?_, fun b u e => ?_⟩, hs, hid_at ra delM_same⟩
  · have := k.dj b o e
    unfold delM
    split
    · rfl
    · exact this
  · by_cases z : b = a
    · subst z
      rw [delM_same] at e
      cases e
    · rw [delM_ne z] at e
      refine (k.ob b u e).mono hs rfl (fun _ _ => rfl) e (fun c q => ?_)
      rw [delM_ne fun w => by subst w; rw [h] at q; cases q; exact hn rfl]
      exact q
/-- e, an object that changes no more -/
def wFrz (w : WE) : WE := fun ρ μ P => w ρ μ fun d μ1 => match d with
  | .obj a => match μ1 a with
    | some (.lst ds) => P (.lst ds) (delM μ1 a)
    | some (.dct ds) => P (.dct ds) (delM μ1 a)
    | _ => False
  | d => P d μ1
theorem d_frz {X : Cx} {e : Expr} {w : WE} (h : PE X e (tD X.K w)) : PE X e (tD X.K (wFrz w)) :=
  PE.imp h fun σ H Q ⟨R, ρ, μ, P, a, w, k⟩ => ⟨R, ρ, μ, _, a, w, fun x μ1 v H1 p1 o1 s1 i1 => by
    cases i1 with
    | obj b =>
      have p2 : (match μ1 b with | some (.lst ds) => P (.lst ds) (delM μ1 b) | some (.dct ds) => P (.dct ds) (delM μ1 b) | _ => False) := p1
      split at p2
      · rename_i ds e
        obtain ⟨xs, h1, r⟩ := o1.ob b _ e
        obtain ⟨o2, s2, e2⟩ := o1.free e (by intro z; cases z)
        exact k _ _ _ _ p2 o2 (s1.trans s2) (.lst (e2.trans h1) (r.mono s2))
      · rename_i ds e
        obtain ⟨xs, h1, q, r⟩ := o1.ob b _ e
        obtain ⟨o2, s2, e2⟩ := o1.free e (by intro z; cases z)
        exact k _ _ _ _ p2 o2 (s1.trans s2) (.dct (e2.trans h1) q (r.mono s2))
      · exact p2.elim
    | none => exact k _ _ _ _ p1 o1 s1 .none
    | bool c => exact k _ _ _ _ p1 o1 s1 (.bool c)
    | int c => exact k _ _ _ _ p1 o1 s1 (.int c)
    | str c => exact k _ _ _ _ p1 o1 s1 (.str c)
    | tup h1 r => exact k _ _ _ _ p1 o1 s1 (.tup h1 r)
    | lst h1 r => exact k _ _ _ _ p1 o1 s1 (.lst h1 r)
    | dct h1 q r => exact k _ _ _ _ p1 o1 s1 (.dct h1 q r)
    | fix h1 r => exact k _ _ _ _ p1 o1 s1 (.fix h1 r)⟩
/-! ### a def that leaves the objects as they were -/
/-- new lists and dicts aside, the same objects -/
def NewOf (μ μ' : Mh) : Prop := ∀ b, μ' b = μ b ∨ (μ b = none ∧ ((∃ ds, μ' b = some (.lst ds)) ∨ ∃ ds, μ' b = some (.dct ds)))
theorem NewOf.refl {μ : Mh} : NewOf μ μ := fun _ => .inl rfl
theorem NewOf.lst {μ μ1 : Mh} {p : Addr} {ds : List DV} (h : NewOf μ μ1) (n : μ p = none) : NewOf μ (updM μ1 p (.lst ds)) := fun b => by
  by_cases e : b = p
  · subst e
    exact .inr ⟨n, .inl ⟨ds, updM_same⟩⟩
  · rw [updM_ne e]
    exact h b
theorem NewOf.dct {μ μ1 : Mh} {p : Addr} {ds : List (Key × DV)} (h : NewOf μ μ1) (n : μ p = none) : NewOf μ (updM μ1 p (.dct ds)) := fun b => by
  by_cases e : b = p
  · subst e
    exact .inr ⟨n, .inr ⟨ds, updM_same⟩⟩
  · rw [updM_ne e]
    exact h b
theorem NewOf.del {μ μ1 : Mh} {p : Addr} (h : NewOf μ μ1) (n : μ p = none) : NewOf μ (delM μ1 p) := fun b => by
  by_cases e : b = p
  · subst e
    exact .inl (by rw [delM_same, n])
  · rw [delM_ne e]
    exact h b
theorem NewOf.none {μ μ1 : Mh} {b : Addr} (h : NewOf μ μ1) (n : μ1 b = none) : μ b = none := by
  rcases h b with e | ⟨e, _⟩
  · rw [← e]; exact n
  · exact e
theorem Ok.restrict {K : PySem.W.Frag} {R : Hp} {μ μ' : Mh} {H : Hp} (k : Ok K R μ' H) (n : NewOf μ μ') : Ok K R μ H ∧ Same (hid R μ' H) (hid R μ H) := by
  have hs : Same (hid R μ' H) (hid R μ H) := fun b u e => by
    obtain ⟨e1, e2, e3⟩ := hid_some e
    rw [hid_at e1 (n.none e2)]
    exact e3
  refine ⟨⟨k.fr, fun b o e => n.none (k.dj b o e), fun b u e => ?_⟩, hs⟩
  have e' : μ' b = some u := by
    rcases n b with z | ⟨z, _⟩
    · rw [z]; exact e
    · rw [z] at e; cases e
  refine (k.ob b u e').mono hs rfl (fun _ _ => rfl) e' (fun c q => ?_)
  rcases n c with z | ⟨_, ⟨ds, z⟩ | ⟨ds, z⟩⟩
  · rw [← z]; exact q
  · rw [z] at q; cases q
  · rw [z] at q; cases q
def wPure (w : WS) : WS := fun E ρ μ => w { nx := fun ρ' μ' => NewOf μ μ' ∧ E.nx ρ' μ, rt := fun d μ' => NewOf μ μ' ∧ E.rt d μ } ρ μ
theorem dss_pure {X : Cx} {body : List Stmt} {w : WS} (h : PSs X body (tDS X.K w)) : PSs X body (tDS X.K (wPure w)) :=
  PSs.imp h fun D σ H ⟨R, ρ, μ, E, a, w, k⟩ => ⟨R, ρ, μ, _, a, w, {
    nx := fun ρ' μ' σ' H' p a' s' => by
      obtain ⟨o2, s2⟩ := a'.ok.restrict p.1
      exact k.nx ρ' μ σ' H' p.2 ⟨o2, a'.sl.mono s2⟩ (s'.trans s2)
    rt := fun d μ' v H' p o' s' i => by
      obtain ⟨o2, s2⟩ := o'.restrict p.1
      exact k.rt d μ v H' p.2 o2 (s'.trans s2) (i.mono s2)
    bk := fun _ _ _ _ p => p.elim
    ct := fun _ _ _ _ p => p.elim }⟩
end Dz

set_option Elab.async false
set_option linter.all false
set_option maxRecDepth 100000
set_option maxHeartbeats 1000000
/-! DzX: what a written dict holds, entry by entry. -/
namespace Dz
open PySem L2

theorem ea_nil {K : PySem.W.Frag} {p : Addr} : ∀ e ∈ ([] : List (Str × DV)), ∃ u, PySem.W.nsIn K p e.1 = some (some u) ∧ CI K u e.2 := fun e h => by cases h
theorem ea_cons {K : PySem.W.Frag} {p : Addr} {k : Str} {d : DV} {f : List (Str × DV)} {u : Value} (h : PySem.W.nsIn K p k = some (some u)) (c : CI K u d) (r : ∀ e ∈ f, ∃ u, PySem.W.nsIn K p e.1 = some (some u) ∧ CI K u e.2) : ∀ e ∈ (k, d) :: f, ∃ u, PySem.W.nsIn K p e.1 = some (some u) ∧ CI K u e.2 := fun e he => by
  rcases List.mem_cons.mp he with rfl | he
  · exact ⟨u, h, c⟩
  · exact r e he
end Dz

set_option Elab.async false
set_option linter.all false
set_option maxRecDepth 100000
set_option maxHeartbeats 4000000
/-! DzY: list.count, list.extend by a tuple, unpacking a list, a name that holds an object that changes no more, a comprehension's list that will change. -/
namespace Dz
open PySem L2

section
variable {X : Cx}
/-! ### xs.count(y), any data -/
def rCountD (K : PySem.W.Frag) : V → List V → Hp → VK → Prop := fun x xs H Q => ∃ (a : Addr) (y : V) (d : PyData) (ds : List PyData), x = V.ref a ∧ xs = [y] ∧ Dp K H (V.ref a) (.list ds) ∧ Dp K H y d ∧
  SeqAt.shaped (.list ds) = true ∧ SeqAt.shaped d = true ∧ Q (.int (ds.countP fun z => PyData.eqv z d : Nat)) H
theorem mt_countD (hu : X.A.units + 65 < cLine) : MtR X "list.count" (rCountD X.K) := by
  intro pins s σ H x xs v us Q I rx rxs h
  obtain ⟨a, y, d, ds, rfl, rfl, hl, hy, sl, sd, q⟩ := h
  cases rx
  cases rxs with
  | cons ry rt =>
    rename_i uy ut
    cases rt
    obtain ⟨bs, r1⟩ := Dp.reads I d y uy hy ry
    have hxs : PyData.canLayAll0 ds = true := SeqAt.canLay_of_shaped sl
    have hroom : X.A.units + 1 + min (PyData.depthAll ds) d.depth < cLine := PyProof.Rows.room_in_shaped sd hu
    cases hl with
    | lst hs ha =>
      obtain ⟨its, rv, ⟨⟨cls, dd, data, sls⟩, n, ho, hc, hdn, hdt⟩, hlen⟩ := I.list hs
      simp only at hc hdt
      subst hc hdt
      obtain ⟨as, h4⟩ := Dp.readsAll I ds _ its ha rv
      have hmap : its.map (SeqAt.readOf s.heap) = ds := SeqAt.readsAll_map ds its as hxs h4
      refine call_meets PySem.F.slot_list_count ⟨_, ho, rfl⟩ PySem.F.entry_list_count (PySem.F.args_list_count_2 _ _)
        (SeqAt.list_countAt a its.toArray n dd sls uy (fun u => PyData.eqv (SeqAt.readOf s.heap u) d)) ⟨ho, SeqAt.items_eqAt (vs := its.toArray) (show ReadsAll s.heap its.toArray.toList ds as from h4) r1 hxs (SeqAt.canLay_of_shaped sd) hroom, ?_⟩
      have ec : its.toArray.toList.countP (fun u => PyData.eqv (SeqAt.readOf s.heap u) d) = ds.countP fun z => PyData.eqv z d := by
        rw [← hmap, List.countP_map]
        rfl
      refine ⟨.int (ds.countP fun z => PyData.eqv z d : Nat), H, I.tok _, ⟨s.toks, ?_⟩, q⟩
      show Value.int ((its.toArray.toList.countP (fun u => PyData.eqv (SeqAt.readOf s.heap u) d) : Nat) : Int) s.toks = Value.int ((ds.countP fun z => PyData.eqv z d : Nat) : Int) s.toks
      rw [ec]
def wCount (wo we : WE) : WE := fun ρ μ P => wo ρ μ fun x μ1 => match x with
  | .lst ds => we ρ μ1 fun y μ2 => shapedD (.lst ds) = true ∧ shapedD y = true ∧ P (.int (ds.countP fun z => deepEq z y : Nat)) μ2
  | _ => False
variable {oe e : Expr} {pos apos : Pos} {wo we : WE}
theorem d_count {k : Nat} (hr : Room k X.A) (ho : PE X oe (tD X.K wo)) (he : PE X e (tD X.K we)) (hs : starEach [e] X.env = [(false, eval e X.env)] := by rfl) (hbase : attributeBase oe "count" X.env (eval oe X.env) = eval oe X.env := by rfl)
    (hfew : ((backTo pos (starEach [e] X.env)).all (fun x => !x.1) && (backToKw pos (keywordEach [] X.env)).all (fun x => x.1.isSome) && decide (([e] : List Expr).length + ([] : List Keyword).length + (if ([] : List Keyword).isEmpty then 0 else 1) < 30)) = true := by rfl) (hline : (apos.endLine == pos.line) = true := by rfl) :
    PE X (.Call (.Attribute oe "count" apos) [e] [] pos) (tD X.K (wCount wo we)) :=
  PE.imp (pe_bm PySem.F.plainAttrs_list PySem.F.slot_list_count PySem.F.type_list_count (mt_countD (by have := hr.un; omega)) ho (pa_cons he pa_nil hs) hbase hfew hline hs) fun σ H Q ⟨R, ρ, μ, P, a, w, k⟩ => ⟨R, ρ, μ, _, a, w, fun x μ1 v H1 p1 o1 s1 i1 => by
    cases i1 with
    | @lst b xs ds hx rx =>
      refine ⟨.inl ⟨rfl, xs, SqL.of (hid_le _ _ hx)⟩, R, ρ, μ1, _, a.step o1 s1, p1, fun y μ2 u H2 p2 o2 s2 i2 => ?_⟩
      obtain ⟨sl1, sy, q⟩ := p2
      have hl2 : Is X.K H2 (.ref b) (.lst ds) := (Is.mono s2 (Is.lst hx rx)).mono hid_le
      have hy2 := i2.mono hid_le
      have d1 := hl2.dpS sl1
      have d2 := hy2.dpS sy
      refine ⟨b, u, toPy y, toPys ds, rfl, rfl, d1.1, d2.1, d1.2, d2.2, (k.step (s1.trans s2)).val o2 ?_ (.int _)⟩
      rw [toPys_map, List.countP_map]
      exact q
    | _ => exact (show False from p1).elim⟩
/-! ### xs.extend(a tuple) -/
theorem list_extend_tupA (l : Addr) (items : Array Value) (n : Nat) (b : Addr) (items2 : Array Value) (n2 : Nat) (dd : Option Addr) (sl : Array (Option Value)) (hs0 : ¬(!items.isEmpty && Builtin.List.listTooLong (items.size + items2.size)) = true) (hs1 : items.size ≤ sizeLine) (hs2 : items.size + items2.size ≤ sizeLine + 1) :
    Meets (Builtin.«list.extend» ⟨[.ref l, .ref b], []⟩) (fun _ R s => s.heap.get? l = some { cls := .type "list", dict := none, data := .seq items n, slots := #[] } ∧ s.heap.get? b = some { cls := .type "tuple", dict := dd, data := .seq items2 n2, slots := sl } ∧ R (.ok (.ret Value.none)) { s with heap := s.heap.update l (Obj.mapSeq fun x => x ++ items2), toks := s.toks }) :=
  .of_wp fun prog w A R s h => by
    obtain ⟨hp, g, d, tk, os⟩ := s; obtain ⟨hl, hb, h⟩ := h; have f1 := PySem.AutoSeq1.idx_int; have f2 := PySem.AutoSeq1.sub_tuple_tuple; have f3 := PySem.AutoSeq1.sub_list_list; have f4 := PySem.AutoSeq1.sub_tuple_list; have f5 := PySem.AutoSeq1.sub_list_tuple
    have hz' : (items ++ items2).size ≤ sizeLine + 1 := by rw [Array.size_append]; exact hs2
    wp_walk using (wpAny_updateSeq hl rfl (hz := hs1) (_hz' := hz')), PySem.AutoSeq1.wpAny_loadPart' hl, PySem.AutoSeq1.wpAny_loadPart' hb; exact ⟨_, rfl, h⟩
def rExtendT (K : PySem.W.Frag) : V → List V → Hp → VK → Prop := fun x vs H Q => ∃ l b xs zs, x = .ref l ∧ vs = [.ref b] ∧ H l = some (.lst xs) ∧ ((H b = some (.lst zs)) ∨ SqT K H b zs) ∧ xs.length + zs.length ≤ sizeLine ∧ Q .non (upd H l (.lst (xs ++ zs)))
theorem mt_extendT : MtM X "list.extend" (rExtendT X.K) := by
  intro pins s σ H x vs v us Q I rx rv h
  obtain ⟨l, b, xs, zs, rfl, rfl, hH, hB | hB, hz, q⟩ := h
  · exact mt_extend pins s σ H _ _ v us Q I rx rv ⟨l, b, xs, zs, rfl, rfl, hH, hB, hz, q⟩
  cases rx
  obtain ⟨u, rfl, ru⟩ := rv.one
  cases ru
  obtain ⟨z, its, n, r, hl, e⟩ := I.lstM hH
  obtain ⟨its2, r2, ⟨⟨cls, dd, data, sl⟩, e2, hc, n2, hd⟩, hz2⟩ := I.tuple hB
  simp only at hc hd
  subst hc hd
  have hl2 := r2.length
  have hsz : its.toArray.size + its2.toArray.size ≤ sizeLine := by rw [List.size_toArray, List.size_toArray]; omega
  have hlong : ¬ (!its.toArray.isEmpty && Builtin.List.listTooLong (its.toArray.size + its2.toArray.size)) = true := by
    rw [notLongL hsz, Bool.and_false]
    exact Bool.false_ne_true
  refine call_meets PySem.F.slot_list_extend ⟨_, e, rfl⟩ PySem.F.entry_list_extend (PySem.F.args_list_extend_2 _ _)
    (list_extend_tupA l its.toArray n b its2.toArray n2 dd sl hlong (by rw [List.size_toArray]; omega) (by omega)) ⟨e, e2, ?_⟩
  refine ⟨.non, _, I.lset (its' := its ++ its2) hH e (by simp) (r.append r2) ?_, rfl, q⟩
  rw [List.length_append]
  omega
def extTW (ds : List DV) (y : DV) (Q : List DV → Prop) : Prop := match y with
  | .lst es => ds.length + es.length ≤ sizeLine ∧ Q (ds ++ es)
  | .tup es => ds.length + es.length ≤ sizeLine ∧ Q (ds ++ es)
  | _ => False
def wExtT (wo we : WE) : WE := fun ρ μ P => wo ρ μ fun x μ1 => isLstM x μ1 ∧ we ρ μ1 fun y μ2 => match x with
  | .obj a => match μ2 a with
    | some (.lst ds) => extTW ds y fun zs => P .none (updM μ2 a (.lst zs))
    | _ => False
  | _ => False
theorem d_extendT (ho : PE X oe (tD X.K wo)) (he : PE X e (tD X.K we)) (hs : starEach [e] X.env = [(false, eval e X.env)] := by rfl) (hbase : attributeBase oe "extend" X.env (eval oe X.env) = eval oe X.env := by rfl)
    (hfew : ((backTo pos (starEach [e] X.env)).all (fun x => !x.1) && (backToKw pos (keywordEach [] X.env)).all (fun x => x.1.isSome) && decide (([e] : List Expr).length + ([] : List Keyword).length + (if ([] : List Keyword).isEmpty then 0 else 1) < 30)) = true := by rfl) (hline : (apos.endLine == pos.line) = true := by rfl) : PE X (.Call (.Attribute oe "extend" apos) [e] [] pos) (tD X.K (wExtT wo we)) :=
  PE.imp (pe_bm PySem.F.plainAttrs_list PySem.F.slot_list_extend PySem.F.type_list_extend mt_extendT ho (pa_cons he pa_nil hs) hbase hfew hline hs) fun σ H Q ⟨R, ρ, μ, P, a, w, k⟩ => ⟨R, ρ, μ, _, a, w, fun x μ1 v H1 p1 o1 s1 i1 => by
    obtain ⟨b, rfl, rfl, ht⟩ := isLstM_of o1 i1 p1.1
    refine ⟨ht, R, ρ, μ1, _, a.step o1 s1, p1.2, fun y μ2 u H2 p2 o2 s2 i2 => ?_⟩
    have p2' : (match μ2 b with | some (.lst ds) => extTW ds y fun zs => P .none (updM μ2 b (.lst zs)) | _ => False) := p2
    split at p2'
    · rename_i ds e
      obtain ⟨xs, h3, h4⟩ := o2.ob b _ e
      cases i2 with
      | lst h5 h6 =>
        obtain ⟨o4, e4⟩ := o2.setM (o := .lst (xs ++ _)) (m := .lst (ds ++ _)) e (by intro z; cases z) ⟨_, upd_same, h4.append h6⟩
        refine ⟨b, _, xs, _, rfl, rfl, h3, .inl (hid_le _ _ h5), by rw [h4.length, h6.length]; exact p2'.1, k _ _ _ _ p2'.2 o4 ?_ .none⟩
        rw [e4]
        exact s1.trans s2
      | tup h5 h6 =>
        obtain ⟨o4, e4⟩ := o2.setM (o := .lst (xs ++ _)) (m := .lst (ds ++ _)) e (by intro z; cases z) ⟨_, upd_same, h4.append h6⟩
        refine ⟨b, _, xs, _, rfl, rfl, h3, .inr (Same.seqT hid_le h5), by rw [h4.length, h6.length]; exact p2'.1, k _ _ _ _ p2'.2 o4 ?_ .none⟩
        rw [e4]
        exact s1.trans s2
      | _ => exact (show False from p2').elim
    · exact p2'.elim⟩
/-! ### a, b = a list -/
def wgLst (n : Nat) (gs : WGs) : WG := fun d ρ P => match d with | .lst ds => ds.length = n ∧ gs ds ρ P | _ => False
theorem dg_lst {es : List Expr} {gs : WGs} {s1 : List Nat} {k n : Nat} (hc : X.calm = true) (h : PGs X es (tDGs X.K s1 gs)) (hn : (assignEach es X.env).length = n := by rfl) (hst : (assignEach es X.env).findIdx? (·.1) = none := by rfl) : PG X (.Tuple es k pos) (tDG X.K s1 (wgLst n gs)) :=
  PG.imp (pg_unl hc h hn hst) fun v σ H Q ⟨R, ρ, μ, d, P, a, r, w, k⟩ => by
    cases r with
    | lst hx rx => exact ⟨_, _, rfl, SqL.of (hid_le _ _ hx), by rw [rx.length]; exact w.1, R, ρ, μ, _, P, a, rx, w.2, k⟩
    | _ => exact (show False from w).elim
end
/-! ### a name whose object changes no more -/
theorem Sl.reset {K : PySem.W.Frag} {H : Hp} {σ : St} {ρ : Rho} {i : Nat} {v : V} {d : DV} (h : Sl K H σ ρ) (hv : σ[i]? = some (some v)) (r : Is K H v d) : Sl K H σ (ρ.set i (some d)) := by
  refine ⟨by rw [List.length_set]; exact h.len, fun j e he => ?_⟩
  by_cases z : i = j
  · subst z
    by_cases hl : i < ρ.length
    · rw [List.getElem?_set_self hl] at he
      cases he
      exact ⟨v, hv, r⟩
    · rw [List.getElem?_eq_none (by rw [List.length_set]; omega)] at he
      cases he
  · rw [List.getElem?_set_ne z] at he
    exact h.at_ j e he
/-- the rest of a block, slot i's list plain data from here on -/
def wFrzV (i : Nat) (w : WS) : WS := fun E ρ μ => match ρ[i]? with
  | some (some (.obj a)) => match μ a with
    | some (.lst ds) => w E (ρ.set i (some (.lst ds))) (delM μ a)
    | _ => False
  | _ => False
theorem dss_frzv {X : Cx} {body : List Stmt} {w : WS} (i : Nat) (h : PSs X body (tDS X.K w)) : PSs X body (tDS X.K (wFrzV i w)) :=
  PSs.imp h fun D σ H ⟨R, ρ, μ, E, a, w0, k⟩ => by
    have w1 : (match ρ[i]? with | some (some (.obj a)) => (match μ a with | some (.lst ds) => w E (ρ.set i (some (.lst ds))) (delM μ a) | _ => False) | _ => False) := w0
    split at w1
    · rename_i b eb
      split at w1
      · rename_i ds e
        obtain ⟨xs, h1, r⟩ := a.ok.ob b _ e
        obtain ⟨o2, s2, e2⟩ := a.ok.free e (by intro z; cases z)
        obtain ⟨v, hv, iv⟩ := a.sl.at_ i _ eb
        cases iv
        exact ⟨R, _, _, E, ⟨o2, (a.sl.mono s2).reset hv (.lst (e2.trans h1) (r.mono s2))⟩, w1, k.step s2⟩
      · exact w1.elim
    · exact w1.elim
/-! ### a comprehension's list that will change -/
theorem Ok.unframeM {K : PySem.W.Frag} {R : Hp} {μ : Mh} {H : Hp} {D : Addr} {accV : List V} {acc : List DV} (k : Ok K (upd R D (.lst accV)) μ H) (n : R D = none) (r : Iss K (hid (upd R D (.lst accV)) μ H) accV acc) :
    Ok K R (updM μ D (.lst acc)) H ∧ hid R (updM μ D (.lst acc)) H = hid (upd R D (.lst accV)) μ H ∧ μ D = none := by
  have hm : μ D = none := k.dj D _ upd_same
  have hH : H D = some (.lst accV) := k.fr D _ upd_same
  have e : hid R (updM μ D (.lst acc)) H = hid (upd R D (.lst accV)) μ H := by
    funext b
    by_cases z : b = D
    · subst z
      have h1 : hid (upd R b (.lst accV)) μ H b = none := by
        unfold hid
        rw [if_neg fun q => by rw [upd_same] at q; exact Bool.false_ne_true q.1]
      have h2 : hid R (updM μ b (.lst acc)) H b = none := by
        unfold hid
        rw [if_neg fun q => by rw [updM_same] at q; exact Bool.false_ne_true q.2]
      rw [h1, h2]
    · unfold hid
      rw [upd_ne z, updM_ne z]
  refine ⟨⟨fun a u h => ?_, fun a u h => ?_, fun a u h => ?_⟩, e, hm⟩
  · exact k.fr a u (by rw [upd_ne fun z => by subst z; rw [n] at h; cases h]; exact h)
  · have z : a ≠ D := fun z => by subst z; rw [n] at h; cases h
    rw [updM_ne z]
    exact k.dj a u (by rw [upd_ne z]; exact h)
  · rw [e]
    by_cases z : a = D
    · subst z
      rw [updM_same] at h
      cases h
      exact ⟨accV, hH, r⟩
    · rw [updM_ne z] at h
      exact (k.ob a u h).mono (Same.refl _) rfl (fun _ _ => rfl) h fun c q => by
        rw [updM_ne fun w => by subst w; rw [hm] at q; cases q]
        exact q
def wLcM (ws : WI) (g : WG) (t : WT) (e : WE) (vs : List Nat) : WE := fun ρ μ P => ws ρ μ fun xs μ1 => compW g t e (wipeD ρ vs) xs [] μ1 fun acc μ2 => ∀ p, μ2 p = none → P (.obj p) (updM μ2 p (.lst acc))
section
variable {X : Cx} {elt tg iter : Expr} {ifs : List Expr} {scope : Scope} {own : List (Str × Nat)} {pos : Pos} {ws : WI} {g : WG} {t : WT} {e : WE} {sl : List Nat}
theorem lcM_imp {K : PySem.W.Frag} {vs : List Nat} (hv : ∀ i ∈ sl, i ∈ vs) : ∀ σ H Q, tD K (wLcM ws g t e vs) σ H Q → tLc (tDI K ws) (tDG K sl g) (tDT K t) (tD K e) vs σ H Q := fun σ H Q ⟨R, ρ, μ, P, a, w, k⟩ =>
  ⟨R, ρ, μ, _, a, w, fun xs μ1 H1 J p1 o1 s1 it => fun D n => by
    have rn := o1.freeR n
    refine ⟨fun i m H' => m = xs.length - i ∧ i ≤ xs.length ∧ ∃ μ' acc accV, Ok K (upd R D (.lst accV)) μ' H' ∧ Same (hid R μ1 H1) (hid (upd R D (.lst accV)) μ' H') ∧ Iss K (hid (upd R D (.lst accV)) μ' H') accV acc ∧
      compW g t e (wipeD ρ vs) (xs.drop i) acc μ' fun acc μ2 => ∀ p, μ2 p = none → P (.obj p) (updM μ2 p (.lst acc)), ?_, ?_⟩
    · obtain ⟨o2, e2⟩ := o1.frame (o := .lst []) n
      exact ⟨_, rfl, Nat.zero_le _, μ1, [], [], o2, by rw [e2]; exact Same.refl _, .nil, p1⟩
    rintro i m H2 ⟨rfl, hi, μ2, acc, accV, o2, s2, r2, w2⟩
    by_cases hlt : i < xs.length
    · refine .inr ⟨it.go _ μ2 H2 i o2 s2 hlt, fun H' => ∃ μ' acc accV, Ok K (upd R D (.lst accV)) μ' H' ∧ Same (hid R μ1 H1) (hid (upd R D (.lst accV)) μ' H') ∧ Iss K (hid (upd R D (.lst accV)) μ' H') accV acc ∧
        compW g t e (wipeD ρ vs) (xs.drop (i + 1)) acc μ' fun acc μ2 => ∀ p, μ2 p = none → P (.obj p) (updM μ2 p (.lst acc)), fun H' ⟨μ', acc', accV', o', s', r', w'⟩ => ⟨_, ?_, rfl, hlt, μ', acc', accV', o', s', r', w'⟩, fun x H3 y => ?_⟩
      · omega
      · obtain ⟨d, hd, o3, s3, r3⟩ := it.yld _ μ2 H2 i x H3 o2 s2 y hlt
        rw [drop_at hd] at w2
        have sl3 : Sl K (hid (upd R D (.lst accV)) μ2 H3) (wipe σ vs) (wipeD ρ vs) := (a.sl.mono ((s1.trans s2).trans s3)).wipe vs
        refine ⟨_, wipeD ρ vs, μ2, d, _, ⟨o3, sl3⟩, r3, w2, fun ρ4 σ4 w4 sl4 ww => ⟨by rw [ww vs hv, wipe_wipe], _, ρ4, μ2, _, ⟨o3, sl4⟩, w4, fun b μ5 H5 p5 o5 s5 => ?_⟩⟩
        cases b with
        | false => exact iteF ⟨μ5, acc, accV, o5, (s2.trans s3).trans s5, r2.mono (s3.trans s5), p5⟩
        | true =>
          refine iteT ⟨_, ρ4, μ5, _, ⟨o5, sl4.mono s5⟩, p5, fun y μ6 v H6 p6 o6 s6 r6 => ⟨accV, o6.fr D _ upd_same, ?_, ?_⟩⟩
          · rw [r2.length]
            exact p6.1
          · obtain ⟨o7, e7⟩ := o6.reframe (o' := .lst (accV ++ [v]))
            refine ⟨μ6, acc ++ [y], accV ++ [v], o7, ?_, ?_, p6.2⟩
            · rw [e7]
              exact ((s2.trans s3).trans s5).trans s6
            · rw [e7]
              exact (r2.mono ((s3.trans s5).trans s6)).append (.cons r6 .nil)
    · have e' : i = xs.length := by omega
      subst e'
      rw [List.drop_length] at w2
      obtain ⟨o4, e4, hm⟩ := o2.unframeM rn r2
      exact .inl ⟨it.stop _ μ2 H2 _ o2 s2 (Nat.le_refl _), k _ _ _ H2 (w2 D hm) o4 (by rw [e4]; exact s1.trans s2) (.obj D)⟩⟩
theorem d_lcM (hi : PI X tg iter (tDI X.K ws)) (ok : BlkOk X.N X.env.scope scope own)
    (hg : ∀ (s : Shared) (H : Hp) (C : Addr) (cl : List (Str × Addr)) (fp : List Addr), PG (X.blk s H scope (compEnvC scope cl C X.env) fp) tg (tDG X.K sl g)) (ht : ∀ (s : Shared) (H : Hp) (C : Addr) (cl : List (Str × Addr)) (fp : List Addr), PTs (X.blk s H scope (compEnvC scope cl C X.env) fp) ifs (tDT X.K t))
    (he : ∀ (s : Shared) (H : Hp) (C : Addr) (cl : List (Str × Addr)) (fp : List Addr), PE (X.blk s H scope (compEnvC scope cl C X.env) fp) elt (tD X.K e)) (hN : X.N.Nodup) (hv : ∀ i ∈ sl, i ∈ own.map (·.2) := by decide) (hc : X.calm = true := by rfl) (hs : ∀ x, foldedSetIterable iter X.env x = pure x := by intro _; rfl) :
    PE X (.ListComp elt [⟨tg, iter, ifs, 0⟩] scope pos) (tD X.K (wLcM ws g t e (own.map (·.2)))) := PE.imp (pe_lc hc hN hi ok hg ht he hs) (lcM_imp hv)
theorem ds_setLcM {i : Nat} {y : Str} {py spos : Pos} (hy : X.N[i]? = some y) (hyl : X.env.scope.names.lookup y = some .local) (hsw : swapsWith (.ListComp elt [⟨tg, iter, ifs, 0⟩] scope pos) (some (.Name y py)) spos.line X.env = pure true) (hi : PI X tg iter (tDI X.K ws)) (ok : BlkOk X.N X.env.scope scope own)
    (hg : ∀ (s : Shared) (H : Hp) (C : Addr) (cl : List (Str × Addr)) (fp : List Addr), PG (X.blk s H scope (compEnvC scope cl C X.env) fp) tg (tDG X.K sl g)) (ht : ∀ (s : Shared) (H : Hp) (C : Addr) (cl : List (Str × Addr)) (fp : List Addr), PTs (X.blk s H scope (compEnvC scope cl C X.env) fp) ifs (tDT X.K t))
    (he : ∀ (s : Shared) (H : Hp) (C : Addr) (cl : List (Str × Addr)) (fp : List Addr), PE (X.blk s H scope (compEnvC scope cl C X.env) fp) elt (tD X.K e)) (hN : X.N.Nodup) (hv : ∀ i ∈ sl, i ∈ own.map (·.2) := by decide) (hc : X.calm = true := by rfl) (hs : ∀ x, foldedSetIterable iter X.env x = pure x := by intro _; rfl) :
    PS X (.Assign [.Name y py] (.ListComp elt [⟨tg, iter, ifs, 0⟩] scope pos) spos) (tDS X.K (wAsg (wLcM ws g t e (own.map (·.2))) (wgName i))) :=
  PS.imp (ps_setLc hc hN hy hyl hsw hi ok hg ht he hs) fun D σ H ⟨R, ρ, μ, E, a, w, k⟩ => lcM_imp hv σ H _ ⟨R, ρ, μ, _, a, w, fun d μ1 v H1 p1 o1 s1 i1 => k.nx _ μ1 _ H1 p1 ⟨o1, (a.sl.mono s1).set i i1⟩ s1⟩
end
end Dz

set_option Elab.async false
set_option linter.all false
set_option maxRecDepth 100000
set_option maxHeartbeats 4000000
/-! DzZ: comprehensions of two clauses; defs with a star parameter. -/
namespace Dz
open PySem PySem.Spec L2 PyProof.Rows StX

def compW2 (g : WG) (t : WT) (ws1 : WI) (g1 : WG) (t1 : WT) (e : WE) (vs1 : List Nat) (ρ : Rho) : List DV → List DV → Mh → (List DV → Mh → Prop) → Prop
  | [], acc, μ, P => P acc μ
  | x :: xs, acc, μ, P => g x ρ fun ρ1 => t ρ1 μ fun b μ1 => match b with
    | true => ws1 ρ1 μ1 fun ys μ2 => compW g1 t1 e (wipeD ρ1 vs1) ys acc μ2 fun acc' μ3 => compW2 g t ws1 g1 t1 e vs1 ρ xs acc' μ3 P
    | false => compW2 g t ws1 g1 t1 e vs1 ρ xs acc μ1 P
def wLc2 (ws : WI) (g : WG) (t : WT) (ws1 : WI) (g1 : WG) (t1 : WT) (e : WE) (vs vs1 : List Nat) : WE := fun ρ μ P => ws ρ μ fun xs μ1 => compW2 g t ws1 g1 t1 e vs1 (wipeD ρ vs) xs [] μ1 fun acc μ2 => P (.lst acc) μ2
section
variable {X : Cx} {elt tg iter tg1 iter1 : Expr} {ifs ifs1 : List Expr} {scope : Scope} {own : List (Str × Nat)} {vs1 : List Nat} {pos : Pos} {ws ws1 : WI} {g g1 : WG} {t t1 : WT} {e : WE} {sl sl1 : List Nat}
theorem lc2_imp {K : PySem.W.Frag} {vs : List Nat} (hv : ∀ i ∈ sl, i ∈ vs) (hv1 : ∀ i ∈ sl1, i ∈ vs1) : ∀ σ H Q, tD K (wLc2 ws g t ws1 g1 t1 e vs vs1) σ H Q → tLc2 (tDI K ws) (tDG K sl g) (tDT K t) (tDI K ws1) (tDG K sl1 g1) (tDT K t1) (tD K e) vs vs1 σ H Q := fun σ H Q ⟨R, ρ, μ, P, a, w, k⟩ =>
  ⟨R, ρ, μ, _, a, w, fun xs μ1 H1 J p1 o1 s1 it => fun D n => by
    have rn := o1.freeR n
    refine ⟨fun i m H' => m = xs.length - i ∧ i ≤ xs.length ∧ ∃ μ' acc accV, Ok K (upd R D (.lst accV)) μ' H' ∧ Same (hid R μ1 H1) (hid (upd R D (.lst accV)) μ' H') ∧ Iss K (hid (upd R D (.lst accV)) μ' H') accV acc ∧
      compW2 g t ws1 g1 t1 e vs1 (wipeD ρ vs) (xs.drop i) acc μ' fun acc μ2 => P (.lst acc) μ2, ?_, ?_⟩
    · obtain ⟨o2, e2⟩ := o1.frame (o := .lst []) n
      exact ⟨_, rfl, Nat.zero_le _, μ1, [], [], o2, by rw [e2]; exact Same.refl _, .nil, p1⟩
    rintro i m H2 ⟨rfl, hi, μ2, acc, accV, o2, s2, r2, w2⟩
    by_cases hlt : i < xs.length
    · refine .inr ⟨it.go _ μ2 H2 i o2 s2 hlt, fun H' => ∃ μ' acc accV, Ok K (upd R D (.lst accV)) μ' H' ∧ Same (hid R μ1 H1) (hid (upd R D (.lst accV)) μ' H') ∧ Iss K (hid (upd R D (.lst accV)) μ' H') accV acc ∧
        compW2 g t ws1 g1 t1 e vs1 (wipeD ρ vs) (xs.drop (i + 1)) acc μ' fun acc μ2 => P (.lst acc) μ2, fun H' ⟨μ', acc', accV', o', s', r', w'⟩ => ⟨_, ?_, rfl, hlt, μ', acc', accV', o', s', r', w'⟩, fun x H3 y => ?_⟩
      · omega
      · obtain ⟨d, hd, o3, s3, r3⟩ := it.yld _ μ2 H2 i x H3 o2 s2 y hlt
        rw [drop_at hd] at w2
        have sl3 : Sl K (hid (upd R D (.lst accV)) μ2 H3) (wipe σ vs) (wipeD ρ vs) := (a.sl.mono ((s1.trans s2).trans s3)).wipe vs
        refine ⟨_, wipeD ρ vs, μ2, d, _, ⟨o3, sl3⟩, r3, w2, fun ρ4 σ4 w4 sl4 ww => ⟨by rw [ww vs hv, wipe_wipe], _, ρ4, μ2, _, ⟨o3, sl4⟩, w4, fun b μ5 H5 p5 o5 s5 => ?_⟩⟩
        cases b with
        | false => exact iteF ⟨μ5, acc, accV, o5, (s2.trans s3).trans s5, r2.mono (s3.trans s5), p5⟩
        | true =>
          refine iteT ⟨_, ρ4, μ5, _, ⟨o5, sl4.mono s5⟩, p5, fun ys μ6 H6 J1 p6 o6 s6 it1 => ?_⟩
          have r6 := r2.mono ((s3.trans s5).trans s6)
          have s16 := ((s2.trans s3).trans s5).trans s6
          refine ⟨fun j m H' => m = ys.length - j ∧ j ≤ ys.length ∧ ∃ μ' acc accV', Ok K (upd R D (.lst accV')) μ' H' ∧ Same (hid (upd R D (.lst accV)) μ6 H6) (hid (upd R D (.lst accV')) μ' H') ∧ Iss K (hid (upd R D (.lst accV')) μ' H') accV' acc ∧
            compW g1 t1 e (wipeD ρ4 vs1) (ys.drop j) acc μ' fun acc' μ3 => compW2 g t ws1 g1 t1 e vs1 (wipeD ρ vs) (xs.drop (i + 1)) acc' μ3 fun acc μ2 => P (.lst acc) μ2, ⟨_, rfl, Nat.zero_le _, μ6, acc, accV, o6, Same.refl _, r6, p6⟩, ?_⟩
          rintro j m2 H7 ⟨rfl, hj, μ7, acc7, accV7, o7, s7, r7, w7⟩
          by_cases hlt2 : j < ys.length
          · refine .inr ⟨it1.go _ μ7 H7 j o7 s7 hlt2, fun H' => ∃ μ' acc accV', Ok K (upd R D (.lst accV')) μ' H' ∧ Same (hid (upd R D (.lst accV)) μ6 H6) (hid (upd R D (.lst accV')) μ' H') ∧ Iss K (hid (upd R D (.lst accV')) μ' H') accV' acc ∧
              compW g1 t1 e (wipeD ρ4 vs1) (ys.drop (j + 1)) acc μ' fun acc' μ3 => compW2 g t ws1 g1 t1 e vs1 (wipeD ρ vs) (xs.drop (i + 1)) acc' μ3 fun acc μ2 => P (.lst acc) μ2, fun H' ⟨μ', acc', accV', o', s', r', w'⟩ => ⟨_, ?_, rfl, hlt2, μ', acc', accV', o', s', r', w'⟩, fun x8 H8 y8 => ?_⟩
            · omega
            · obtain ⟨d8, hd8, o8, s8, r8⟩ := it1.yld _ μ7 H7 j x8 H8 o7 s7 y8 hlt2
              rw [drop_at hd8] at w7
              have sl8 : Sl K (hid (upd R D (.lst accV7)) μ7 H8) (wipe σ4 vs1) (wipeD ρ4 vs1) := (sl4.mono (((s5.trans s6).trans s7).trans s8)).wipe vs1
              refine ⟨_, wipeD ρ4 vs1, μ7, d8, _, ⟨o8, sl8⟩, r8, w7, fun ρ9 σ9 w9 sl9 ww9 => ⟨by rw [ww9 vs1 hv1, wipe_wipe], _, ρ9, μ7, _, ⟨o8, sl9⟩, w9, fun b μ10 H10 p10 o10 s10 => ?_⟩⟩
              cases b with
              | false => exact iteF ⟨μ10, acc7, accV7, o10, (s7.trans s8).trans s10, r7.mono (s8.trans s10), p10⟩
              | true =>
                refine iteT ⟨_, ρ9, μ10, _, ⟨o10, sl9.mono s10⟩, p10, fun y μ11 v H11 p11 o11 s11 r11 => ⟨accV7, o11.fr D _ upd_same, ?_, ?_⟩⟩
                · rw [r7.length]
                  exact p11.1
                · obtain ⟨o12, e12⟩ := o11.reframe (o' := .lst (accV7 ++ [v]))
                  refine ⟨μ11, acc7 ++ [y], accV7 ++ [v], o12, ?_, ?_, p11.2⟩
                  · rw [e12]
                    exact ((s7.trans s8).trans s10).trans s11
                  · rw [e12]
                    exact (r7.mono ((s8.trans s10).trans s11)).append (.cons r11 .nil)
          · have e' : j = ys.length := by omega
            subst e'
            rw [List.drop_length] at w7
            exact .inl ⟨it1.stop _ μ7 H7 _ o7 s7 (Nat.le_refl _), μ7, acc7, accV7, o7, s16.trans s7, r7, w7⟩
    · have e' : i = xs.length := by omega
      subst e'
      rw [List.drop_length] at w2
      obtain ⟨o4, s4, h4⟩ := o2.unframe rn
      exact .inl ⟨it.stop _ μ2 H2 _ o2 s2 (Nat.le_refl _), k _ μ2 _ H2 w2 o4 (s1.trans (s2.trans s4)) (.lst h4 (r2.mono s4))⟩⟩
theorem d_lc2 (hi : PI X tg iter (tDI X.K ws)) (ok : BlkOk X.N X.env.scope scope own)
    (hg : ∀ (s : Shared) (H : Hp) (C : Addr) (cl : List (Str × Addr)) (fp : List Addr), PG (X.blk s H scope (compEnvC scope cl C X.env) fp) tg (tDG X.K sl g)) (ht : ∀ (s : Shared) (H : Hp) (C : Addr) (cl : List (Str × Addr)) (fp : List Addr), PTs (X.blk s H scope (compEnvC scope cl C X.env) fp) ifs (tDT X.K t))
    (hi1 : ∀ (s : Shared) (H : Hp) (C : Addr) (cl : List (Str × Addr)) (fp : List Addr), PI (X.blk s H scope (compEnvC scope cl C X.env) fp) tg1 iter1 (tDI X.K ws1))
    (hg1 : ∀ (s : Shared) (H : Hp) (C : Addr) (cl : List (Str × Addr)) (fp : List Addr), PG (X.blk s H scope (compEnvC scope cl C X.env) fp) tg1 (tDG X.K sl1 g1)) (ht1 : ∀ (s : Shared) (H : Hp) (C : Addr) (cl : List (Str × Addr)) (fp : List Addr), PTs (X.blk s H scope (compEnvC scope cl C X.env) fp) ifs1 (tDT X.K t1))
    (he : ∀ (s : Shared) (H : Hp) (C : Addr) (cl : List (Str × Addr)) (fp : List Addr), PE (X.blk s H scope (compEnvC scope cl C X.env) fp) elt (tD X.K e)) (hN : X.N.Nodup) (hv : ∀ i ∈ sl, i ∈ own.map (·.2) := by decide) (hv1 : ∀ i ∈ sl1, i ∈ vs1 := by decide) (hvo : ∀ i ∈ vs1, i ∈ own.map (·.2) := by decide) (hc : X.calm = true := by rfl) (hs : ∀ x, foldedSetIterable iter X.env x = pure x := by intro _; rfl) (hs1 : ∀ env x, foldedSetIterable iter1 env x = pure x := by intro _ _; rfl) :
    PE X (.ListComp elt [⟨tg, iter, ifs, 0⟩, ⟨tg1, iter1, ifs1, 0⟩] scope pos) (tD X.K (wLc2 ws g t ws1 g1 t1 e (own.map (·.2)) vs1)) := PE.imp (pe_lc2 hc hN hi ok hvo hg ht hi1 hg1 ht1 he hs hs1) (lc2_imp hv hv1)
theorem ds_setLc2 {i : Nat} {y : Str} {py spos : Pos} (hy : X.N[i]? = some y) (hyl : X.env.scope.names.lookup y = some .local) (hsw : swapsWith (.ListComp elt [⟨tg, iter, ifs, 0⟩, ⟨tg1, iter1, ifs1, 0⟩] scope pos) (some (.Name y py)) spos.line X.env = pure true) (hi : PI X tg iter (tDI X.K ws)) (ok : BlkOk X.N X.env.scope scope own)
    (hg : ∀ (s : Shared) (H : Hp) (C : Addr) (cl : List (Str × Addr)) (fp : List Addr), PG (X.blk s H scope (compEnvC scope cl C X.env) fp) tg (tDG X.K sl g)) (ht : ∀ (s : Shared) (H : Hp) (C : Addr) (cl : List (Str × Addr)) (fp : List Addr), PTs (X.blk s H scope (compEnvC scope cl C X.env) fp) ifs (tDT X.K t))
    (hi1 : ∀ (s : Shared) (H : Hp) (C : Addr) (cl : List (Str × Addr)) (fp : List Addr), PI (X.blk s H scope (compEnvC scope cl C X.env) fp) tg1 iter1 (tDI X.K ws1))
    (hg1 : ∀ (s : Shared) (H : Hp) (C : Addr) (cl : List (Str × Addr)) (fp : List Addr), PG (X.blk s H scope (compEnvC scope cl C X.env) fp) tg1 (tDG X.K sl1 g1)) (ht1 : ∀ (s : Shared) (H : Hp) (C : Addr) (cl : List (Str × Addr)) (fp : List Addr), PTs (X.blk s H scope (compEnvC scope cl C X.env) fp) ifs1 (tDT X.K t1))
    (he : ∀ (s : Shared) (H : Hp) (C : Addr) (cl : List (Str × Addr)) (fp : List Addr), PE (X.blk s H scope (compEnvC scope cl C X.env) fp) elt (tD X.K e)) (hN : X.N.Nodup) (hv : ∀ i ∈ sl, i ∈ own.map (·.2) := by decide) (hv1 : ∀ i ∈ sl1, i ∈ vs1 := by decide) (hvo : ∀ i ∈ vs1, i ∈ own.map (·.2) := by decide) (hc : X.calm = true := by rfl) (hs : ∀ x, foldedSetIterable iter X.env x = pure x := by intro _; rfl) (hs1 : ∀ env x, foldedSetIterable iter1 env x = pure x := by intro _ _; rfl) :
    PS X (.Assign [.Name y py] (.ListComp elt [⟨tg, iter, ifs, 0⟩, ⟨tg1, iter1, ifs1, 0⟩] scope pos) spos) (tDS X.K (wAsg (wLc2 ws g t ws1 g1 t1 e (own.map (·.2)) vs1) (wgName i))) :=
  PS.imp (ps_setLc2 hc hN hy hyl hsw hi ok hvo hg ht hi1 hg1 ht1 he hs hs1) fun D σ H ⟨R, ρ, μ, E, a, w, k⟩ => lc2_imp hv hv1 σ H _ ⟨R, ρ, μ, _, a, w, fun d μ1 v H1 p1 o1 s1 i1 => k.nx _ μ1 _ H1 p1 ⟨o1, (a.sl.mono s1).set i i1⟩ s1⟩
end
/-! ### def f(a, .., *v) -/
/-- as FnR, where no repr runs around; the promise over data, any number of arguments -/
def FnSG (P : Program) (w : World) (K : PySem.W.Frag) (mg : Str → Option Value) (base : Heap) (k : Nat) (f : Addr) (wf : WF) : Prop :=
  ∀ (A : Around) (outer : List Env) (s : Shared) (H : Hp) (us : List Value) (vs : List V) (Q : VK) (E : XK), A.guards = some [] → Room k A → Env0 P w K mg base A outer s H → Vals vs us →
    (∃ R ds μ P', Ok K R μ H ∧ Iss K (hid R μ H) vs ds ∧ wf ds μ P' ∧ Nxt K R μ H P' Q) → codeAny (model P w) A (.call (.ref f) ⟨us, []⟩) (CR CX0 outer P w H s Q E) s
theorem FnSG.mono {P : Program} {w : World} {K : PySem.W.Frag} {mg : Str → Option Value} {base : Heap} {j k : Nat} {f : Addr} {wf : WF} (F : FnSG P w K mg base j f wf) (h : j ≤ k) : FnSG P w K mg base k f wf :=
  fun A outer s H us vs Q E g r => F A outer s H us vs Q E g (r.mono h)
section
variable {P : Program} {w : World} {K : PySem.W.Frag} {mg : Str → Option Value} {base : Heap} {k : Nat} {f : Addr} {x qual : Str} {st : Stmt} {fd : FuncData} {N ps : List Str} {pv : Str} {wS : WS} {wf : WF}
theorem fnsg_of (F : Fun K x qual st f fd) (S : FnScope N (ps ++ [pv]) (defScope st))
    (hb : ∀ (kV doc pm : Value) (an : Option Addr) (cdv ct : Value) (us rest : List Value), us.length = ps.length → bindArgs (PySem.W.fnOf x qual (defArgs st) (defBody st) (defScope st) .none kV doc pm an cdv ct) ⟨us ++ rest, []⟩ = (newTuple rest >>= fun t => pure (ps.zip us ++ [(pv, t)])))
    (hbody : ∀ (cdv : Value) (A : Around) (outer : List Env) (s : Shared) (H : Hp) (E : XK), A.guards = some [] → Room k (A.deeper (envOfC qual (defScope st) s.heap.objs.size f cdv)) →
      PSs (cxOf CX0 P w K mg base N qual (defScope st) f cdv A outer s H E).nox (defBody st) (tDS K wS))
    (hw : ∀ ds rs μ Q, ds.length = ps.length → wf (ds ++ rs) μ Q → wS { nx := fun _ μ' => Q .none μ', rt := Q } ((ds ++ [DV.tup rs]).map some ++ List.replicate (N.length - (ps.length + 1)) none) μ)
    (hmin : ∀ ds μ Q, wf ds μ Q → ps.length ≤ ds.length ∧ ds.length ≤ 1000) : FnSG P w K mg base (k + 1) f wf := by
  obtain ⟨oc, od, kV, doc, pm, an, cdv, ct, osl, rfl, lk, hcd⟩ := F.ex
  intro A outer s H us vs Q E hgd hr e0 r ⟨R, ds, μ, P', o, i, w1, k1⟩
  obtain ⟨hm1, hm2⟩ := hmin ds μ P' w1
  have hlen := i.length
  -- split
  have ew : vs = vs.take ps.length ++ vs.drop ps.length := (List.take_append_drop _ _).symm
  have ed : ds = ds.take ps.length ++ ds.drop ps.length := (List.take_append_drop _ _).symm
  have iw := i.take ps.length
  have ir := i.drop ps.length
  generalize vs.take ps.length = wv at ew iw
  generalize vs.drop ps.length = rest at ew ir
  generalize hds1 : ds.take ps.length = d1 at ed iw
  generalize hds2 : ds.drop ps.length = d2 at ed ir
  have hl1 : d1.length = ps.length := by rw [← hds1, List.length_take]; omega
  have hl2 : d2.length ≤ 1000 := by rw [← hds2, List.length_drop]; omega
  subst ew ed
  obtain ⟨u1, u2, eu, r1, r2⟩ := vals_split r
  subst eu
  have hn : H s.heap.objs.size = Option.none := e0.hok.fresh (Nat.le_refl _)
  have hwl : wv.length = ps.length := by rw [iw.length]; exact hl1
  have hu1 : u1.length = ps.length := by rw [← r1.length]; exact hwl
  have hsz : u2.length ≤ sizeLine := by
    rw [← r2.length, ir.length, sizeLine_eq]
    omega
  refine run_bnd lk hcd S hr e0 (CX := CX0) (Q := Q) (E := E) (G := fun xs H2 => ∃ p, H p = Option.none ∧ xs = wv ++ [V.ref p] ∧ H2 = upd H p (.tup rest)) (fun A' Ex Q' h => ?_) fun s2 H2 xs ⟨p, hp, ex, eH⟩ hr' => ?_
  · rw [hb kV doc pm an cdv ct u1 u2 hu1]
    refine wpAny_bind (wpAny_newTuple (wpAny_pure ?_) hsz)
    have new : ObjOk P w (upd H s.heap.objs.size (.tup rest)) (s.heap.push ({ cls := .type "tuple", data := .seq u2.toArray } : Obj)) s.heap.objs.size (.tup rest) := ⟨by rw [r2.length]; exact hsz, u2, r2, ⟨_, Heap.get?_push_size _ rfl, rfl, _, rfl⟩⟩
    have un := un_laid (fs := frs outer) (s := s) (o := ({ cls := .type "tuple", data := .seq u2.toArray } : Obj)) (u := .tup rest) hn
    have z := h _ _ (wv ++ [V.ref s.heap.objs.size]) (u1 ++ [Value.ref s.heap.objs.size]) (env0_laid e0 new) un rfl (fun e s' hx => (show False from hx).elim) (r1.append (.cons rfl .nil))
      (by rw [List.length_append, List.length_append, hwl] <;> rfl) ⟨_, hn, rfl, rfl⟩
    rw [List.zip_append hu1.symm] at z
    exact z
  · subst ex eH
    have o2 := o.new (o := .tup rest) hp
    have s2' := o.sameNew (o := .tup rest) hp
    have it : Iss K (hid R μ (upd H p (.tup rest))) (wv ++ [V.ref p]) (d1 ++ [.tup d2]) := (iw.mono s2').append (.cons (isTup o hp ir) .nil)
    have hd1 : (d1 ++ [DV.tup d2]).length = ps.length + 1 := by rw [List.length_append, List.length_singleton, hl1]
    have ha : At K R (start N (wv ++ [V.ref p])) ((d1 ++ [DV.tup d2]).map some ++ List.replicate (N.length - (ps.length + 1)) none) μ (upd H p (.tup rest)) := ⟨o2, by
      rw [← hd1]
      exact Sl.start it⟩
    refine ⟨_, (hbody cdv A outer s2 (upd H p (.tup rest)) E hgd hr').nox, R, _, μ, _, ha, hw d1 d2 μ P' hl1 w1, ⟨fun ρ' μ' σ' H' p' a' s' => ?_, k1.step s2', fun _ _ _ _ p => p.elim, fun _ _ _ _ p => p.elim⟩⟩
    exact k1 .none μ' .non H' p' a'.ok (s2'.trans s') .none
end
end Dz

set_option Elab.async false
set_option linter.all false
set_option maxRecDepth 100000
set_option maxHeartbeats 4000000
/-! DzZa: defs with a star parameter, by name. -/
namespace Dz
open PySem PySem.Spec L2 PyProof.Rows StX

def DefS (P : Program) (w : World) (K : PySem.W.Frag) (mg : Str → Option Value) (base : Heap) (k : Nat) (x : Str) (st : Stmt) (wf : WF) : Prop := ∃ f fd, mg x = some (.ref f) ∧ Fun K x x st f fd ∧ FnSG P w K mg base k f wf
theorem DefS.mono {P : Program} {w : World} {K : PySem.W.Frag} {mg : Str → Option Value} {base : Heap} {j k : Nat} {x : Str} {st : Stmt} {wf : WF} (h : DefS P w K mg base j x st wf) (l : j ≤ k) : DefS P w K mg base k x st wf :=
  let ⟨f, fd, a, b, c⟩ := h; ⟨f, fd, a, b, c.mono l⟩
theorem defS_of {P : Program} {w0 : World} {K : PySem.W.Frag} {mg : Str → Option Value} {base : Heap} {x : Str} {st : Stmt} {N ps : List Str} {pv : Str} {k : Nat} {w : WS} {wf : WF} (h : At1 K mg x st) (S : FnScope N (ps ++ [pv]) (defScope st))
    (hbi : ∀ (kV doc pm : Value) (an : Option Addr) (cdv ct : Value) (us rest : List Value), us.length = ps.length → bindArgs (PySem.W.fnOf x x (defArgs st) (defBody st) (defScope st) .none kV doc pm an cdv ct) ⟨us ++ rest, []⟩ = (newTuple rest >>= fun t => pure (ps.zip us ++ [(pv, t)])))
    (hb : ∀ (f : Addr) (cdv : Value) (A : Around) (outer : List Env) (s : Shared) (H : Hp) (E : XK), A.guards = some [] → Room k (A.deeper (envOfC x (defScope st) s.heap.objs.size f cdv)) →
      PSs (cxOf CX0 P w0 K mg base N x (defScope st) f cdv A outer s H E).nox (defBody st) (tDS K w))
    (hmin : ∀ ds μ Q, wf ds μ Q → ps.length ≤ ds.length ∧ ds.length ≤ 1000)
    (hw : ∀ ds rs μ Q, ds.length = ps.length → wf (ds ++ rs) μ Q → w { nx := fun _ μ' => Q .none μ', rt := Q } ((ds ++ [DV.tup rs]).map some ++ List.replicate (N.length - (ps.length + 1)) none) μ) : DefS P w0 K mg base (k + 1) x st wf := by
  obtain ⟨f, fd, a, F⟩ := h
  exact ⟨f, fd, a, F, fnsg_of F S hbi (hb f) hw hmin⟩
def wCallS (wf : WF) (wa : WA) : WE := fun ρ μ P => wa ρ μ fun ds μ1 => wf ds μ1 P
theorem d_fS {X : Cx} {k j : Nat} {st : Stmt} {wf : WF} {x : Str} {p pos : Pos} {e : Expr} {es : List Expr} {wa : WA} (D : DefS X.prog X.w X.K X.mg X.base k x st wf) (hgd : X.A.guards = some []) (hr : Room j X.A) (hk : k ≤ j) (hg : Gl X x)
    (ha : PA X (e :: es) (tDA X.K wa)) (hdb : (x == ("__debug__" : Str)) = false := by decide) (he : starEach (e :: es) X.env = (false, eval e X.env) :: starEach es X.env := by rfl) (hpl : (backTo pos (starEach es X.env)).any (·.1) = false := by rfl) :
    PE X (.Call (.Name x p) (e :: es) [] pos) (tD X.K (wCallS wf wa)) := by
  obtain ⟨f, fd, hm, F, G⟩ := D
  constructor
  intro pins s σ H Q I ⟨R, ρ, μ, P, a, w, kk⟩
  have h : tDA X.K wa σ H (fun vs H1 => ∃ R ds μ P', Ok X.K R μ H1 ∧ Iss X.K (hid R μ H1) vs ds ∧ wf ds μ P' ∧ Nxt X.K R μ H1 P' Q) := ⟨R, ρ, μ, _, a, w, fun ds μ1 vs H1 p1 o1 s1 i1 => ⟨R, ds, μ1, P, o1, i1, p1, kk.step s1⟩⟩
  refine wpAny_Call_Name_kw (ld_glob I hg hm (PySem.W.callWith_K (h₀ := X.base) I.ok.mod.kin F.kp (thn (ha.run pos pins s σ H _ I h) fun us s1 ⟨vs, H1, I1, r, q⟩ => ⟨I1.kIn, ?_⟩) he hpl) hdb)
  refine wpAny_call (codeAny_mono (G X.A X.stack s1 H1 us vs Q (fun _ _ _ => False) hgd (hr.mono hk) I1.env0 r q) fun res s' hq => ?_)
  match res, hq with
  | .ok (.ret u), hq => exact I1.after hq
end Dz

set_option Elab.async false
set_option linter.all false
set_option maxRecDepth 100000
set_option maxHeartbeats 1000000
/-! Qz1: data with places. -/
namespace Qz
open PySem L2 Dz

theorem sl {n : Nat} (h : n ≤ 1000000) : n ≤ sizeLine := by rw [sizeLine_eq]; omega
/-- the part at a place -/
def atP : DV → List Nat → Option DV
  | d, [] => some d
  | .tup ds, i :: r => match ds[i]? with | some e => atP e r | none => none
  | _, _ :: _ => none
/-- another part there -/
def repl : DV → List Nat → DV → DV
  | _, [], x => x
  | .tup ds, i :: r, x => match ds[i]? with | some e => .tup (ds.set i (repl e r x)) | none => .tup ds
  | d, _ :: _, _ => d
theorem atP_cons {d y : DV} {i : Nat} {r : List Nat} (h : atP d (i :: r) = some y) : ∃ ds e, d = .tup ds ∧ ds[i]? = some e ∧ atP e r = some y := by
  cases d with
  | tup ds =>
    have h' : (match ds[i]? with | some e => atP e r | none => none) = some y := h
    cases e : ds[i]? with
    | none => rw [e] at h'; cases h'
    | some z => rw [e] at h'; exact ⟨ds, z, rfl, e, h'⟩
  | _ => cases h
theorem repl_cons {ds : List DV} {e x : DV} {i : Nat} {r : List Nat} (h : ds[i]? = some e) : repl (.tup ds) (i :: r) x = .tup (ds.set i (repl e r x)) := by
  show (match ds[i]? with | some e => DV.tup (ds.set i (repl e r x)) | none => .tup ds) = _
  rw [h]
theorem lt_of_get {ds : List DV} {e : DV} {i : Nat} (h : ds[i]? = some e) : i < ds.length := (List.getElem?_eq_some_iff.mp h).1
theorem repl_at : ∀ (r : List Nat) (d x : DV), (∃ y, atP d r = some y) → atP (repl d r x) r = some x
  | [], _, x, _ => rfl
  | i :: r, d, x, ⟨y, h⟩ => by
    obtain ⟨ds, e, rfl, h1, h2⟩ := atP_cons h
    rw [repl_cons h1]
    show (match (ds.set i (repl e r x))[i]? with | some e => atP e r | none => none) = _
    rw [List.getElem?_set_self (lt_of_get h1)]
    exact repl_at r e x ⟨y, h2⟩
theorem repl_repl : ∀ (r : List Nat) (d x y : DV), (∃ z, atP d r = some z) → repl (repl d r x) r y = repl d r y
  | [], _, _, _, _ => rfl
  | i :: r, d, x, y, ⟨z, h⟩ => by
    obtain ⟨ds, e, rfl, h1, h2⟩ := atP_cons h
    rw [repl_cons h1, repl_cons (x := y) h1, repl_cons (e := repl e r x) (List.getElem?_set_self (lt_of_get h1)), List.set_set, repl_repl r e x y ⟨z, h2⟩]
theorem repl_same : ∀ (r : List Nat) (d x : DV), atP d r = some x → repl d r x = d
  | [], d, x, h => (Option.some.inj h).symm
  | i :: r, d, x, h => by
    obtain ⟨ds, e, rfl, h1, h2⟩ := atP_cons h
    rw [repl_cons h1, repl_same r e x h2]
    congr 1
    obtain ⟨hi, he⟩ := List.getElem?_eq_some_iff.mp h1
    rw [← he, List.set_getElem_self]
theorem sizs_get {N p : Nat} : ∀ {ds : List DV} {i : Nat} {e : DV}, Sizs N p ds → ds[i]? = some e → Siz N p e
  | [], i, e, _, h => by simp at h
  | d :: ds, 0, e, s, h => by
    have : d = e := by simpa using h
    subst this
    refine ⟨(Bool.and_eq_true_iff.mp s.no).1, (Bool.and_eq_true_iff.mp s.sh).1, (Bool.and_eq_true_iff.mp s.lv).1, ?_, ?_, (Bool.and_eq_true_iff.mp s.pl).1⟩
    · have : (toPy d).bulk + 1 + PyData.bulkAll (toPys ds) ≤ N := s.bk
      omega
    · have : max (toPy d).depth (PyData.depthAll (toPys ds)) ≤ p := s.dp
      omega
  | d :: ds, i + 1, e, s, h => by
    refine sizs_get (ds := ds) (i := i) ⟨(Bool.and_eq_true_iff.mp s.no).2, (Bool.and_eq_true_iff.mp s.sh).2, (Bool.and_eq_true_iff.mp s.lv).2, ?_, ?_, (Bool.and_eq_true_iff.mp s.pl).2⟩ (by simpa using h)
    · have : (toPy d).bulk + 1 + PyData.bulkAll (toPys ds) ≤ N := s.bk
      omega
    · have : max (toPy d).depth (PyData.depthAll (toPys ds)) ≤ p := s.dp
      omega
theorem sizs_set {M q : Nat} {x : DV} : ∀ {N p : Nat} {ds : List DV} {i : Nat} {e : DV}, Sizs N p ds → ds[i]? = some e → Siz ((toPy e).bulk + M) q x → Sizs (N + M) (max p q) (ds.set i x)
  | N, p, [], i, e, _, h, _ => by simp at h
  | N, p, d :: ds, 0, e, s, h, hx => by
    have : d = e := by simpa using h
    subst this
    have hb : (toPy d).bulk + 1 + PyData.bulkAll (toPys ds) ≤ N := s.bk
    have hd : max (toPy d).depth (PyData.depthAll (toPys ds)) ≤ p := s.dp
    have r : Sizs (PyData.bulkAll (toPys ds)) p ds := ⟨(Bool.and_eq_true_iff.mp s.no).2, (Bool.and_eq_true_iff.mp s.sh).2, (Bool.and_eq_true_iff.mp s.lv).2, Nat.le_refl _, by omega, (Bool.and_eq_true_iff.mp s.pl).2⟩
    exact (Sizs.cons (hx.le (Nat.le_refl _) (Nat.le_max_right p q)) (r.le (Nat.le_refl _) (Nat.le_max_left p q))).le (by omega) (Nat.le_refl _)
  | N, p, d :: ds, i + 1, e, s, h, hx => by
    have hb : (toPy d).bulk + 1 + PyData.bulkAll (toPys ds) ≤ N := s.bk
    have hd : max (toPy d).depth (PyData.depthAll (toPys ds)) ≤ p := s.dp
    have r : Sizs (PyData.bulkAll (toPys ds)) p ds := ⟨(Bool.and_eq_true_iff.mp s.no).2, (Bool.and_eq_true_iff.mp s.sh).2, (Bool.and_eq_true_iff.mp s.lv).2, Nat.le_refl _, by omega, (Bool.and_eq_true_iff.mp s.pl).2⟩
    have h1 : Siz (toPy d).bulk p d := ⟨(Bool.and_eq_true_iff.mp s.no).1, (Bool.and_eq_true_iff.mp s.sh).1, (Bool.and_eq_true_iff.mp s.lv).1, Nat.le_refl _, by omega, (Bool.and_eq_true_iff.mp s.pl).1⟩
    have r2 := sizs_set (M := M) (q := q) r (show ds[i]? = some e by simpa using h) hx
    exact (Sizs.cons (h1.le (Nat.le_refl _) (Nat.le_max_left p q)) r2).le (by omega) (Nat.le_refl _)
theorem siz_tupI {N p : Nat} {ds : List DV} (h : Siz N p (.tup ds)) : ∃ p', p = p' + 1 ∧ Sizs N p' ds := by
  have hd : PyData.depthAll (toPys ds) + 1 ≤ p := h.dp
  exact ⟨p - 1, by omega, ⟨h.no, h.sh, h.lv, h.bk, by omega, h.pl⟩⟩
theorem repl_siz {M q : Nat} {x : DV} (hx : Siz M q x) : ∀ (r : List Nat) {N p : Nat} (d : DV), Siz N p d → (∃ y, atP d r = some y) → Siz (N + M) (p + q) (repl d r x)
  | [], N, p, d, _, _ => hx.le (by omega) (by omega)
  | i :: r, N, p, d, h, ⟨y, hy⟩ => by
    obtain ⟨ds, e, rfl, h1, h2⟩ := atP_cons hy
    rw [repl_cons h1]
    obtain ⟨p', rfl, hs⟩ := siz_tupI h
    have he := sizs_get hs h1
    have he' : Siz (toPy e).bulk p' e := ⟨he.no, he.sh, he.lv, Nat.le_refl _, he.dp, he.pl⟩
    have ih := repl_siz hx r e he' ⟨y, h2⟩
    exact (Siz.tup (sizs_set hs h1 ih)).le (Nat.le_refl _) (by omega)

/-! ### slices -/
theorem cut_to {ds : List DV} (i : Nat) : cutD ds none (some (i : Int)) = ds.take i := by
  unfold cutD
  have e0 : HT.sIx ds.length 0 none = 0 := rfl
  have e1 : HT.sIx ds.length ds.length (some (i : Int)) = min i ds.length := HT.sIx_nat _ _ _
  rw [e0, e1, List.drop_zero, Nat.sub_zero]
  rw [List.take_eq_take_iff]
  omega
theorem cut_from {ds : List DV} (i : Nat) : cutD ds (some (i : Int)) none = ds.drop i := by
  unfold cutD
  have e0 : HT.sIx ds.length 0 (some (i : Int)) = min i ds.length := HT.sIx_nat _ _ _
  have e1 : HT.sIx ds.length ds.length none = ds.length := rfl
  rw [e0, e1]
  by_cases h : i ≤ ds.length
  · rw [Nat.min_eq_left h, List.take_of_length_le (by rw [List.length_drop]; exact Nat.le_refl _)]
  · have h' : ds.length ≤ i := by omega
    rw [Nat.min_eq_right h', List.drop_of_length_le (Nat.le_refl _), List.drop_of_length_le h', List.take_nil]
theorem atI_of {α : Type} {xs : List α} {i : Nat} {x : α} (h : xs[i]? = some x) : atI xs (i : Int) = some x := by
  have hi := (List.getElem?_eq_some_iff.mp h).1
  unfold atI ixN
  rw [if_pos (by omega), if_pos (by omega)]
  exact h
theorem sizs_len {N p : Nat} : ∀ {ds : List DV}, Sizs N p ds → ds.length ≤ N
  | [], _ => Nat.zero_le _
  | d :: ds, s => by
    have hb : (toPy d).bulk + 1 + PyData.bulkAll (toPys ds) ≤ N := s.bk
    have hd : max (toPy d).depth (PyData.depthAll (toPys ds)) ≤ p := s.dp
    have r : Sizs (PyData.bulkAll (toPys ds)) p ds := ⟨(Bool.and_eq_true_iff.mp s.no).2, (Bool.and_eq_true_iff.mp s.sh).2, (Bool.and_eq_true_iff.mp s.lv).2, Nat.le_refl _, by omega, (Bool.and_eq_true_iff.mp s.pl).2⟩
    have := sizs_len r
    rw [List.length_cons]
    omega
theorem shaped_intsT (ns : List Int) : shapedD (.tup (ns.map .int)) = true := by
  have h1 := canLay_ints ns
  have h2 := depth_ints ns
  have h3 := noObjs_ints ns
  show (noObjs (ns.map .int) && (PyData.canLayAll0 (toPys (ns.map .int)) && decide (PyData.depthAll (toPys (ns.map .int)) + 1 ≤ 64))) = true
  rw [h1, h2, h3]
  rfl
def pathL (r : List Nat) : List DV := r.map fun i => .int (i : Nat)
abbrev pathD (r : List Nat) : DV := .tup (pathL r)
theorem shaped_path (r : List Nat) : shapedD (pathD r) = true := by
  have := shaped_intsT (r.map fun i : Nat => (i : Int))
  rw [List.map_map] at this
  exact this
abbrev Thg (d : DV) : Prop := Siz 120000 60 d
theorem thg_in {ds : List DV} {e : DV} {i : Nat} (h : Thg (.tup ds)) (h1 : ds[i]? = some e) : Thg e ∧ ds.length ≤ 120000 := by
  obtain ⟨p', e', hs⟩ := siz_tupI h
  exact ⟨(sizs_get hs h1).le (Nat.le_refl _) (by omega), sizs_len hs⟩

theorem noDcts_mem : ∀ {ds : List DV}, noDcts ds = true → ∀ d ∈ ds, noDct d = true
  | [], _, d, h => by cases h
  | e :: ds, h, d, hd => by
    have h' : (noDct e && noDcts ds) = true := h
    rw [Bool.and_eq_true] at h'
    rcases List.mem_cons.mp hd with rfl | hd
    · exact h'.1
    · exact noDcts_mem h'.2 d hd
theorem noDcts_of : ∀ {ds : List DV}, (∀ d ∈ ds, noDct d = true) → noDcts ds = true
  | [], _ => rfl
  | e :: ds, h => by
    show (noDct e && noDcts ds) = true
    rw [h e List.mem_cons_self, noDcts_of fun d hd => h d (List.mem_cons_of_mem _ hd)]
    rfl
theorem nd_at : ∀ (r : List Nat) {d y : DV}, noDct d = true → atP d r = some y → noDct y = true
  | [], d, y, h, e => by rw [← Option.some.inj e]; exact h
  | i :: r, d, y, h, e => by
    obtain ⟨ds, z, rfl, h1, h2⟩ := atP_cons e
    exact nd_at r (noDcts_mem (show noDcts ds = true from h) z (List.mem_of_getElem? h1)) h2
theorem siz_at {N p : Nat} : ∀ (r : List Nat) {d y : DV}, Siz N p d → atP d r = some y → Siz N p y
  | [], d, y, h, e => by rw [← Option.some.inj e]; exact h
  | i :: r, d, y, h, e => by
    obtain ⟨ds, z, rfl, h1, h2⟩ := atP_cons e
    obtain ⟨p', rfl, hs⟩ := siz_tupI h
    exact (siz_at r (sizs_get hs h1) h2).le (Nat.le_refl _) (by omega)
theorem atP_append : ∀ (r s : List Nat) (d e : DV), atP d r = some e → atP d (r ++ s) = atP e s
  | [], s, d, e, h => by rw [← Option.some.inj h]; rfl
  | i :: r, s, d, e, h => by
    obtain ⟨ds, z, rfl, h1, h2⟩ := atP_cons h
    show (match ds[i]? with | some e => atP e (r ++ s) | none => none) = _
    rw [h1]
    exact atP_append r s z e h2
theorem pathL_append (r s : List Nat) : pathL r ++ pathL s = pathL (r ++ s) := by unfold pathL; rw [List.map_append]
theorem siz_path (r : List Nat) (h : ∀ i ∈ r, i < 1000) : Siz r.length 1 (pathD r) := by
  have hs := Sizs.all (N := 0) (p := 0) (ds := pathL r) (fun d hd => by
    unfold pathL at hd
    rw [List.mem_map] at hd
    obtain ⟨i, hi, rfl⟩ := hd
    have := h i hi
    exact Siz.int (Nat.lt_of_lt_of_le (by simpa using this) (by decide)))
  refine (Siz.tup hs).le ?_ (Nat.le_refl _)
  unfold pathL
  rw [List.length_map]
  omega
theorem nd_path (r : List Nat) : noDct (pathD r) = true := noDcts_of fun d hd => by
  unfold pathL at hd
  rw [List.mem_map] at hd
  obtain ⟨i, hi, rfl⟩ := hd
  rfl
theorem app_o {ρ : Rho} {μ : Mh} {i : Nat} {p : Addr} {zs : List DV} {t : DV} {we : WE} {E : DEnds} (hv : ρ[i]? = some (some (.obj p))) (h : μ p = some (.lst zs)) (hw : ∀ P : DV → Mh → Prop, P t μ → we ρ μ P) (l : zs.length < sizeLine) (k : E.nx ρ (updM μ p (.lst (zs ++ [t])))) : wDrop (wApp (wVar i) we) E ρ μ := by
  show (match ρ[i]? with | some (some d) => isLstM d μ ∧ we ρ μ fun y μ2 => _ | _ => False)
  rw [hv]
  refine ⟨?_, hw _ ?_⟩
  · show (match μ p with | some (.lst _) => True | _ => False)
    rw [h]
    trivial
  · show (match μ p with | some (.lst ds) => _ | _ => False)
    rw [h]
    exact ⟨l, k⟩
theorem ext_o {ρ : Rho} {μ : Mh} {i : Nat} {p : Addr} {zs ys : List DV} {we : WE} {E : DEnds} (hv : ρ[i]? = some (some (.obj p))) (h : μ p = some (.lst zs)) (hw : ∀ P : DV → Mh → Prop, P (.lst ys) μ → we ρ μ P) (l : zs.length + ys.length ≤ sizeLine) (k : E.nx ρ (updM μ p (.lst (zs ++ ys)))) : wDrop (wExt (wVar i) we) E ρ μ := by
  show (match ρ[i]? with | some (some d) => isLstM d μ ∧ we ρ μ fun y μ2 => _ | _ => False)
  rw [hv]
  refine ⟨?_, hw _ ?_⟩
  · show (match μ p with | some (.lst _) => True | _ => False)
    rw [h]
    trivial
  · show (match μ p with | some (.lst ds) => _ | _ => False)
    rw [h]
    exact ⟨l, k⟩
theorem frz_o {ρ : Rho} {μ : Mh} {i : Nat} {p : Addr} {zs : List DV} {P : DV → Mh → Prop} (hv : ρ[i]? = some (some (.obj p))) (h : μ p = some (.lst zs)) (k : P (.lst zs) (delM μ p)) : wFrz (wVar i) ρ μ P := by
  show (match ρ[i]? with | some (some d) => _ | _ => False)
  rw [hv]
  show (match μ p with | some (.lst ds) => P (.lst ds) (delM μ p) | some (.dct ds) => P (.dct ds) (delM μ p) | _ => False)
  rw [h]
  exact k
theorem neL_empty {μ : Mh} {p : Addr} {zs : List DV} {P : DV → Mh → Prop} (h : μ p = some (.lst zs)) (hs : shapedD (.lst zs) = true) (k : P (.bool (!zs.isEmpty)) μ) : wNeL (.obj p) (.lst []) μ P := by
  refine neL_o h hs rfl ?_
  cases zs with
  | nil => exact k
  | cons z zs => exact k
theorem noObjs_mem : ∀ {ds : List DV}, (∀ d ∈ ds, noObj d = true) → noObjs ds = true
  | [], _ => rfl
  | d :: ds, h => by
    show (noObj d && noObjs ds) = true
    rw [h d List.mem_cons_self, noObjs_mem fun e he => h e (List.mem_cons_of_mem _ he)]
    rfl
theorem sizs_any {p : Nat} : ∀ {ds : List DV}, (∀ d ∈ ds, ∃ N, Siz N p d) → ∃ N, Sizs N p ds
  | [], _ => ⟨0, Sizs.nil.le (Nat.le_refl _) (Nat.zero_le _)⟩
  | d :: ds, h => by
    obtain ⟨N, hN⟩ := h d List.mem_cons_self
    obtain ⟨M, hM⟩ := sizs_any fun e he => h e (List.mem_cons_of_mem _ he)
    exact ⟨_, Sizs.cons hN hM⟩
theorem shaped_all {p : Nat} {ds : List DV} (h : ∀ d ∈ ds, (∃ N, Siz N p d) ∧ noDct d = true) (hp : p ≤ 60) : shapedD (.lst ds) = true := by
  obtain ⟨N, hN⟩ := sizs_any fun d hd => (h d hd).1
  exact (Siz.lst hN).shaped (by omega) (noDcts_of fun d hd => (h d hd).2)
theorem ixK_o {f : List (Str × DV)} {z : Str} {d : DV} {wb : WE} {ρ : Rho} {μ : Mh} {P : DV → Mh → Prop} (hw : ∀ P : DV → Mh → Prop, P (.str z) μ → wb ρ μ P) (h : lookD f z = some d) (k : P d μ) : wIxK f wb ρ μ P := by
  refine hw _ ?_
  show atW (lookD f z) _
  rw [h]
  exact k
theorem atI_zero {x : DV} {xs : List DV} : atI (x :: xs) 0 = some x := atI_of (i := 0) rfl
theorem snoc_of {α : Type} (l : List α) : l = [] ∨ ∃ init x, l = init ++ [x] := by
  rcases List.eq_nil_or_concat l with h | ⟨init, x, h⟩
  · exact .inl h
  · exact .inr ⟨init, x, by simpa using h⟩
theorem in_tup {x : Str} {ds : List DV} (b : Bool) {μ : Mh} {P : DV → Mh → Prop} (h1 : ds.all flatD = true) (h2 : inF (.str x) ds = b) (h3 : P (.bool b) μ) : wIn (.str x) (.tup ds) μ P :=
  .inl ⟨rfl, h1, by rw [h2]; exact h3⟩
theorem eq_str {x y : Str} (b : Bool) {μ : Mh} {P : DV → Mh → Prop} (h : decide (x = y) = b) (h3 : P (.bool b) μ) : wEqL (.str x) (.str y) μ P := by
  show P (.bool (decide (x = y))) μ
  rw [h]
  exact h3
theorem in_lst {x : Str} {ds : List DV} (b : Bool) {μ : Mh} {P : DV → Mh → Prop} (h1 : ds.all flatD = true) (h2 : inF (.str x) ds = b) (h3 : P (.bool b) μ) : wIn (.str x) (.lst ds) μ P :=
  .inl ⟨rfl, h1, by rw [h2]; exact h3⟩
theorem inF_strs (x : Str) (l : List Str) : inF (.str x) (l.map .str) = true ↔ x ∈ l := by
  unfold inF
  rw [List.any_eq_true]
  constructor
  · rintro ⟨y, hy, he⟩
    rw [List.mem_map] at hy
    obtain ⟨z, hz, rfl⟩ := hy
    have : z = x := eq_of_beq (show (z == x) = true from he)
    rw [← this]
    exact hz
  · intro h
    exact ⟨.str x, List.mem_map.mpr ⟨x, h, rfl⟩, beq_self_eq_true x⟩
theorem flat_strs (l : List Str) : (l.map DV.str).all flatD = true := by
  rw [List.all_eq_true]
  intro x hx
  rw [List.mem_map] at hx
  obtain ⟨y, _, rfl⟩ := hx
  rfl
theorem comp_inv {g : WG} {t : WT} {e : WE} {ρ : Rho} {J : List DV → List DV → Mh → Prop} : ∀ (xs acc : List DV) (μ : Mh) (P : List DV → Mh → Prop),
    (∀ (x : DV) (rest acc : List DV) (μ : Mh) (P : List DV → Mh → Prop), J acc (x :: rest) μ → acc.length < sizeLine → (∀ y μ', J (acc ++ [y]) rest μ' → P (acc ++ [y]) μ') → (∀ μ', J acc rest μ' → P acc μ') →
      g x ρ fun ρ1 => t ρ1 μ fun b μ1 => match b with
        | true => e ρ1 μ1 fun y μ2 => acc.length < sizeLine ∧ P (acc ++ [y]) μ2
        | false => P acc μ1) →
    acc.length + xs.length ≤ sizeLine → J acc xs μ → (∀ zs μ', J zs [] μ' → P zs μ') → compW g t e ρ xs acc μ P
  | [], acc, μ, P, _, _, hi, q => q acc μ hi
  | x :: xs, acc, μ, P, hx, hl, hi, q => by
    rw [List.length_cons] at hl
    refine hx x xs acc μ (fun ac μ' => compW g t e ρ xs ac μ' P) hi (by omega) (fun y μ' j => ?_) (fun μ' j => ?_)
    · exact comp_inv xs (acc ++ [y]) μ' P hx (by simp; omega) j q
    · exact comp_inv xs acc μ' P hx (by omega) j q
abbrev Dk (μ : Mh) (a c : Addr) (m : Nat) : Prop := HasDeck "total" μ a c m
abbrev drawW : WF := wfDraw "total"
abbrev pickW : WF := wfPick "total"
theorem draw_c {a c : Addr} {m : Nat} {many : Int} {μ : Mh} {Q : DV → Mh → Prop} (h0 : 0 < many) (h1 : many < 2 ^ 64) (h : Dk μ a c (m + 1)) (q : ∀ r μ', 0 ≤ r → r < many → Dk μ' a c m → OnlyDeck μ μ' a c → Q (.int r) μ') : drawW [.obj a, .int many] μ Q :=
  ⟨a, c, m, many, rfl, h0, h1, h, q⟩
theorem pick_c {a c : Addr} {m : Nat} {y : DV} {μ : Mh} {Q : DV → Mh → Prop} (l0 : 0 < (itemsD y).length) (l1 : (itemsD y).length ≤ 1000000) (h : Dk μ a c (m + 1)) (q : ∀ x μ', x ∈ itemsD y → Dk μ' a c m → OnlyDeck μ μ' a c → Q x μ') : pickW [.obj a, y] μ Q :=
  ⟨a, c, m, y, rfl, l0, sl l1, h, q⟩
def IsNm (d : DV) : Prop := ∃ x, d = .str x ∧ plainS x = true ∧ x.length ≤ 8
theorem IsNm.siz {d : DV} (h : IsNm d) : Siz 8 0 d := by
  obtain ⟨x, rfl, h1, h2⟩ := h
  exact (Siz.str h1).le h2 (Nat.le_refl _)
theorem nd3 {w : Str} {a b : DV} (h : noDct a = true) (h' : noDct b = true) : noDct (.tup [.str w, a, b]) = true := by
  show (true && (noDct a && (noDct b && true))) = true
  rw [h, h']
  rfl
theorem nd2 {w : Str} {a : DV} (h : noDct a = true) : noDct (.tup [.str w, a]) = true := by
  show (true && (noDct a && true)) = true
  rw [h]
  rfl
theorem nd22 {a b : DV} (h : noDct a = true) (h' : noDct b = true) : noDct (.tup [a, b]) = true := by
  show (noDct a && (noDct b && true)) = true
  rw [h, h']
  rfl
theorem wordS {x : Str} {n : Nat} (h : plainS x = true) (h2 : x.length = n) (p : Nat) : Siz n p (.str x) := (Siz.str h).le (Nat.le_of_eq h2) (Nat.zero_le _)
theorem nilS {p : Nat} : Sizs 0 p [] := Sizs.nil.le (Nat.le_refl 0) (Nat.zero_le _)
theorem mem_dl {α : Type} {x : α} {l : List α} (h : x ∈ l.dropLast) : x ∈ l := (List.dropLast_sublist l).mem h
theorem last_of {pl : List DV} (h : 0 < pl.length) : ∃ y, pl[pl.length - 1]? = some y ∧ y ∈ pl := by
  have hi : pl.length - 1 < pl.length := by omega
  exact ⟨pl[pl.length - 1], List.getElem?_eq_getElem hi, List.getElem_mem hi⟩
theorem dropLast_snoc {α : Type} {l : List α} {y : α} (h : l[l.length - 1]? = some y) : l.dropLast ++ [y] = l := by
  rcases List.eq_nil_or_concat l with rfl | ⟨init, x, e⟩
  · cases h
  · have e : l = init ++ [x] := by simpa using e
    subst e
    rw [List.length_append, List.length_singleton, Nat.add_sub_cancel, List.getElem?_append_right (Nat.le_refl _), Nat.sub_self] at h
    have : x = y := by simpa using h
    rw [this, List.dropLast_concat]
theorem nodup_of_map {α β : Type} {f : α → β} {l : List α} (h : (l.map f).Nodup) : l.Nodup := by
  unfold List.Nodup at h ⊢
  rw [List.pairwise_map] at h
  exact h.imp fun h e => h (by rw [e])
theorem getElem?_inj' {α : Type} {l : List α} (h : l.Nodup) {i j : Nat} {x : α} (hi : l[i]? = some x) (hj : l[j]? = some x) : i = j := by
  obtain ⟨h1, h2⟩ := List.getElem?_eq_some_iff.mp hi
  obtain ⟨h3, h4⟩ := List.getElem?_eq_some_iff.mp hj
  have pw := List.pairwise_iff_getElem.mp (show l.Pairwise (· ≠ ·) from h)
  rcases Nat.lt_trichotomy i j with hlt | rfl | hlt
  · exact absurd (h2.trans h4.symm) (pw i j h1 h3 hlt)
  · rfl
  · exact absurd (h4.trans h2.symm) (pw j i h3 h1 hlt)
abbrev leS (a b : Str) : Prop := PySem.Spec.ltCps b.cps.toList a.cps.toList = false
theorem leS_iff {a b : Str} : leS a b ↔ a.cps.toList ≤ b.cps.toList := by
  unfold leS
  rw [PyProof.Rows.ltCps_eq, decide_eq_false_iff_not, List.not_lt]
theorem leS_trans {a b c : Str} (h : leS a b) (h' : leS b c) : leS a c := leS_iff.mpr (List.le_trans (leS_iff.mp h) (leS_iff.mp h'))
theorem leS_anti {a b : Str} (h : leS a b) (h' : leS b a) : a = b := by
  have := List.le_antisymm (leS_iff.mp h) (leS_iff.mp h')
  exact PySem.W.str_of_cps this
theorem rising_pair : ∀ {p : Str} {l : List Str}, PyProof.Rows.risingS p l = true → (p :: l).Pairwise leS
  | p, [], _ => List.pairwise_singleton _ _
  | p, x :: r, h => by
    have h' : (!PySem.Spec.ltCps x.cps.toList p.cps.toList && PyProof.Rows.risingS x r) = true := h
    rw [Bool.and_eq_true, Bool.not_eq_true'] at h'
    have ih := rising_pair h'.2
    refine List.pairwise_cons.mpr ⟨fun y hy => ?_, ih⟩
    rcases List.mem_cons.mp hy with rfl | hy
    · exact h'.1
    · exact leS_trans h'.1 (List.rel_of_pairwise_cons ih hy)
theorem sorted_pair : ∀ {l : List Str}, PyProof.Rows.sortedS l = true → l.Pairwise leS
  | [], _ => .nil
  | _ :: _, h => rising_pair h
theorem rising_unique {xs ys : List Str} (h1 : xs.Nodup) (h2 : ys.Nodup) (p1 : xs.Pairwise leS) (p2 : ys.Pairwise leS) (h : ∀ k, k ∈ xs ↔ k ∈ ys) : xs = ys := by
  have pm : xs.Perm ys := (List.perm_ext_iff_of_nodup h1 h2).mpr h
  exact pm.eq_of_pairwise (fun a b _ _ h h' => leS_anti h h') p1 p2
theorem leD_str {a b : Str} : leD (.str a) (.str b) = true ↔ leS a b := by
  unfold leD
  rw [show toPy (.str b) = .str b from rfl, show toPy (.str a) = .str a from rfl, PySem.W.dataLt_str, Bool.not_eq_true']
  unfold leS
  rw [PyProof.Rows.ltCps_eq]
def unS (d : DV) : Str := match d with | .str s => s | _ => ⟨#[]⟩
theorem unS_map (l : List Str) : (l.map DV.str).map unS = l := by
  rw [List.map_map]
  exact List.map_id l
theorem sort_strs {l : List Str} {μ : Mh} {P : DV → Mh → Prop} (hl : l.length ≤ 1000) (k : ∀ es : List Str, es.Perm l → es.Pairwise leS → P (.lst (es.map .str)) μ) : sortW (l.map .str) μ P := by
  have no : ∀ l : List Str, noObjs (l.map DV.str) = true := fun l => noObjs_mem fun d hd => by
    rw [List.mem_map] at hd
    obtain ⟨x, _, rfl⟩ := hd
    rfl
  refine ⟨no l, ?_, ?_, fun d hd => ?_, by rw [List.length_map]; exact sl (by omega), fun es pm pw => ?_⟩
  · unfold allAlike
    rw [List.all_eq_true]
    intro x hx
    rw [List.all_eq_true]
    intro y hy
    rw [List.mem_map] at hx hy
    obtain ⟨s, _, rfl⟩ := hx
    obtain ⟨t, _, rfl⟩ := hy
    rfl
  · unfold sortable
    rw [Bool.or_eq_true]
    right
    rw [List.all_eq_true]
    intro x hx
    rw [List.mem_map] at hx
    obtain ⟨s, _, rfl⟩ := hx
    rfl
  · rw [List.mem_map] at hd
    obtain ⟨s, _, rfl⟩ := hd
    exact Nat.zero_le _
  · have hst : ∀ z ∈ es, ∃ s, z = DV.str s := fun z hz => by
      have := pm.mem_iff.mp hz
      rw [List.mem_map] at this
      obtain ⟨s, _, rfl⟩ := this
      exact ⟨s, rfl⟩
    have hes : ∃ zs : List Str, es = zs.map .str := by
      clear pm pw
      induction es with
      | nil => exact ⟨[], rfl⟩
      | cons z es ih =>
        obtain ⟨s, rfl⟩ := hst z List.mem_cons_self
        obtain ⟨zs, rfl⟩ := ih fun y hy => hst y (List.mem_cons_of_mem _ hy)
        exact ⟨s :: zs, rfl⟩
    obtain ⟨zs, rfl⟩ := hes
    refine k zs ?_ ?_
    · have e := pm.map unS
      rw [unS_map, unS_map] at e
      exact e
    · rw [List.pairwise_map] at pw
      exact pw.imp fun h => leD_str.mp h
theorem cut_nd {ds : List DV} {lo hi : Option Int} (h : ds.Nodup) : (cutD ds lo hi).Nodup := by
  unfold cutD
  exact h.sublist ((List.take_sublist _ _).trans (List.drop_sublist _ _))
end Qz

set_option Elab.async false
set_option linter.all false
set_option maxRecDepth 100000
set_option maxHeartbeats 1000000
/-! Qz2: terms and conditions as trees: what stands downs a part, all parts, the leaves. -/
namespace Qz
open PySem L2 Dz

/-- the parts right downs a part, each with the way to it -/
inductive Below : DV → List (List Nat × DV) → Prop
  | col {x y : Str} : Below (.tup [.str "column", .str x, .str y]) []
  | val {x : DV} : Below (.tup [.str "value", x]) []
  | b1 {w : Str} {x y : DV} (h : w = "plus" ∨ w = "is") : Below (.tup [.str w, x, y]) [([1], x)]
  | no {x : DV} : Below (.tup [.str "not", x]) [([1], x)]
  | b2 {r c : DV} : Below (.tup [.str "exists", .tup [r, c]]) [([1, 1], c)]
  | b3 {w : Str} {r c t : DV} (h : w = "only" ∨ w = "first") : Below (.tup [.str w, .tup [r, c], t]) [([1, 1], c), ([2], t)]
  | b4 {w : Str} {a b : DV} (h : w = "less" ∨ w = "most" ∨ w = "same" ∨ w = "and" ∨ w = "or") : Below (.tup [.str w, a, b]) [([1], a), ([2], b)]
def downs (d : DV) : List (List Nat × DV) := match d with
  | .tup [.str w, x] => if w = "value" then [] else if w = "not" then [([1], x)] else match x with | .tup [_, c] => [([1, 1], c)] | _ => []
  | .tup [.str w, x, y] => if w = "column" then [] else if w = "plus" ∨ w = "is" then [([1], x)] else if w = "only" ∨ w = "first" then match x with | .tup [_, c] => [([1, 1], c), ([2], y)] | _ => [] else [([1], x), ([2], y)]
  | _ => []
theorem Below.fn {d : DV} {l : List (List Nat × DV)} (h : Below d l) : downs d = l := by
  cases h with
  | col => kernel_rfl
  | val => kernel_rfl
  | b1 h => rcases h with rfl | rfl <;> kernel_rfl
  | no => kernel_rfl
  | b2 => kernel_rfl
  | b3 h => rcases h with rfl | rfl <;> kernel_rfl
  | b4 h => rcases h with rfl | rfl | rfl | rfl | rfl <;> kernel_rfl
def itm (p : List Nat × DV) : DV := .tup [pathD p.1, p.2]
def belowD (l : List (List Nat × DV)) : List DV := l.map itm
inductive Part : Nat → DV → Prop
  | mk {n : Nat} {d : DV} {l : List (List Nat × DV)} (h : Below d l) (r : ∀ p ∈ l, Part n p.2) : Part (n + 1) d
theorem Part.up {n : Nat} {d : DV} (h : Part n d) : Part (n + 1) d := by
  induction h with
  | mk h r ih => exact .mk h ih
theorem Part.le {n m : Nat} {d : DV} (h : Part n d) (l : n ≤ m) : Part m d := by
  induction l with
  | refl => exact h
  | step _ ih => exact ih.up
theorem Part.inv {n : Nat} {d : DV} (h : Part n d) : ∃ m, n = m + 1 ∧ Below d (downs d) ∧ ∀ p ∈ downs d, Part m p.2 := by
  cases h with
  | @mk m _ l h r =>
    have e := h.fn
    subst e
    exact ⟨m, rfl, h, r⟩
theorem Below.head {d : DV} {l : List (List Nat × DV)} (h : Below d l) : ∃ w r, d = .tup (.str w :: r) := by
  cases h <;> exact ⟨_, _, rfl⟩
theorem Part.head {n : Nat} {d : DV} (h : Part n d) : ∃ w r, d = .tup (.str w :: r) := by
  obtain ⟨m, rfl, b, _⟩ := h.inv
  exact b.head
theorem Below.props {d : DV} {l : List (List Nat × DV)} (h : Below d l) : l.length ≤ 2 ∧ ∀ p ∈ l, p.1.length ≤ 2 ∧ (∀ i ∈ p.1, i < 1000) ∧ atP d p.1 = some p.2 := by
  cases h with
  | col => exact ⟨Nat.zero_le _, fun p hp => by cases hp⟩
  | val => exact ⟨Nat.zero_le _, fun p hp => by cases hp⟩
  | no | b1 _ | b2 =>
    refine ⟨Nat.le_of_ble_eq_true rfl, fun p hp => ?_⟩
    rw [List.mem_singleton] at hp
    subst hp
    exact ⟨Nat.le_of_ble_eq_true rfl, (fun i hi => by simp at hi; omega), rfl⟩
  | b3 _ | b4 _ =>
    refine ⟨Nat.le_refl _, fun p hp => ?_⟩
    simp only [List.mem_cons, List.not_mem_nil, or_false] at hp
    rcases hp with rfl | rfl
    · exact ⟨Nat.le_of_ble_eq_true rfl, (fun i hi => by simp at hi; omega), rfl⟩
    · exact ⟨Nat.le_of_ble_eq_true rfl, (fun i hi => by simp at hi; omega), rfl⟩
/-- ways to different parts part at once -/
theorem Below.apart {d : DV} {l : List (List Nat × DV)} (h : Below d l) : ∀ p ∈ l, ∀ q ∈ l, p.1 ≠ [] ∧ (p.1.head? = q.1.head? → p = q) := by
  cases h with
  | col | val => exact fun p hp => by cases hp
  | no | b1 _ | b2 =>
    intro p hp q hq
    rw [List.mem_singleton] at hp hq
    subst hp
    subst hq
    exact ⟨(fun e => by cases e), fun _ => rfl⟩
  | b3 _ | b4 _ =>
    intro p hp q hq
    simp only [List.mem_cons, List.not_mem_nil, or_false] at hp hq
    rcases hp with rfl | rfl <;> rcases hq with rfl | rfl
    all_goals exact ⟨(fun e => by cases e), fun e => by first | rfl | (simp at e)⟩

/-! ### all parts -/
def allF : Nat → DV → List Nat → List (List Nat × DV)
  | 0, _, _ => []
  | n + 1, d, lead => (lead, d) :: (downs d).flatMap fun p => allF n p.2 (lead ++ p.1)
theorem flatMap_same {α β : Type} {f g : α → List β} : ∀ {l : List α}, (∀ x ∈ l, f x = g x) → l.flatMap f = l.flatMap g
  | [], _ => rfl
  | x :: l, h => by
    rw [List.flatMap_cons, List.flatMap_cons, h x List.mem_cons_self, flatMap_same fun y hy => h y (List.mem_cons_of_mem _ hy)]
theorem allF_le : ∀ {n m : Nat} {d : DV} {lead : List Nat}, Part n d → n ≤ m → allF m d lead = allF n d lead
  | 0, _, _, _, h, _ => by obtain ⟨k, e, _⟩ := h.inv; cases e
  | n + 1, 0, _, _, _, l => absurd l (Nat.not_succ_le_zero n)
  | n + 1, m + 1, d, lead, h, l => by
    obtain ⟨k, e, _, r⟩ := h.inv
    cases e
    show (lead, d) :: _ = (lead, d) :: _
    rw [flatMap_same fun p hp => allF_le (lead := lead ++ p.1) (r p hp) (Nat.le_of_succ_le_succ l)]
def allD (d : DV) (lead : List Nat) : List (List Nat × DV) := allF 15 d lead
theorem allD_eq {n : Nat} {d : DV} {lead : List Nat} (h : Part n d) (hn : n ≤ 14) : allD d lead = (lead, d) :: (downs d).flatMap fun p => allD p.2 (lead ++ p.1) := by
  obtain ⟨k, rfl, _, r⟩ := h.inv
  unfold allD
  show (lead, d) :: _ = (lead, d) :: _
  rw [flatMap_same fun p hp => (allF_le (m := 14) (lead := lead ++ p.1) (r p hp) (by omega)).trans (allF_le (m := 15) (lead := lead ++ p.1) (r p hp) (by omega)).symm]
theorem below_flat {d : DV} {l : List (List Nat × DV)} (h : Below d l) {f : List Nat × DV → List (List Nat × DV)} {n : Nat} (hf : ∀ p ∈ l, (f p).length ≤ n) : (l.flatMap f).length ≤ 2 * n := by
  have h2 := h.props.1
  match l, h2, hf with
  | [], _, _ => exact Nat.zero_le _
  | [a], _, hf =>
    rw [List.flatMap_cons, List.flatMap_nil, List.append_nil]
    have := hf a List.mem_cons_self
    omega
  | [a, b], _, hf =>
    rw [List.flatMap_cons, List.flatMap_cons, List.flatMap_nil, List.append_nil, List.length_append]
    have := hf a List.mem_cons_self
    have := hf b (List.mem_cons_of_mem _ List.mem_cons_self)
    omega
theorem allD_len : ∀ {n : Nat} {d : DV} {lead : List Nat}, Part n d → n ≤ 14 → (allD d lead).length + 1 ≤ 2 ^ n
  | 0, _, _, h, _ => by obtain ⟨k, e, _⟩ := h.inv; cases e
  | n + 1, d, lead, h, hn => by
    rw [allD_eq h hn]
    obtain ⟨k, e, b, r⟩ := h.inv
    cases e
    have p1 : 1 ≤ 2 ^ n := Nat.one_le_pow _ _ (by decide)
    have := below_flat b (f := fun p => allD p.2 (lead ++ p.1)) (n := 2 ^ n - 1) (fun p hp => by
      have := allD_len (lead := lead ++ p.1) (r p hp) (by omega)
      omega)
    rw [List.length_cons, Nat.pow_succ]
    omega
/-- what is known of each of them -/
theorem allD_at : ∀ {n : Nat} {d : DV} {lead : List Nat}, Part n d → n ≤ 14 → ∀ e ∈ allD d lead, ∃ rel m, e.1 = lead ++ rel ∧ atP d rel = some e.2 ∧ Part m e.2 ∧ m ≤ n ∧ rel.length ≤ 2 * n ∧ ∀ i ∈ rel, i < 1000
  | 0, _, _, h, _ => by obtain ⟨k, e, _⟩ := h.inv; cases e
  | n + 1, d, lead, h, hn => by
    intro e he
    rw [allD_eq h hn] at he
    obtain ⟨k, ek, b, r⟩ := h.inv
    cases ek
    rcases List.mem_cons.mp he with rfl | he
    · exact ⟨[], n + 1, (List.append_nil _).symm, rfl, h, Nat.le_refl _, Nat.zero_le _, fun i hi => by cases hi⟩
    · rw [List.mem_flatMap] at he
      obtain ⟨p, hp, he⟩ := he
      obtain ⟨rel, m, e1, e2, e3, e4, e5, e6⟩ := allD_at (r p hp) (by omega) e he
      obtain ⟨l2, li, hat⟩ := b.props.2 p hp
      refine ⟨p.1 ++ rel, m, by rw [e1, List.append_assoc], by rw [atP_append _ _ _ _ hat]; exact e2, e3, by omega, by rw [List.length_append]; omega, fun i hi => ?_⟩
      rcases List.mem_append.mp hi with hi | hi
      · exact li i hi
      · exact e6 i hi
theorem allD_self {n : Nat} {d : DV} {lead : List Nat} (h : Part n d) (hn : n ≤ 14) : (lead, d) ∈ allD d lead := by rw [allD_eq h hn]; exact List.mem_cons_self
/-- parts of a part are parts -/
theorem allD_sub : ∀ {n : Nat} {d : DV} {lead : List Nat}, Part n d → n ≤ 14 → ∀ e ∈ allD d lead, ∀ x ∈ allD e.2 e.1, x ∈ allD d lead
  | 0, _, _, h, _ => by obtain ⟨k, e, _⟩ := h.inv; cases e
  | n + 1, d, lead, h, hn => by
    intro e he x hx
    rw [allD_eq h hn] at he ⊢
    obtain ⟨k, ek, b, r⟩ := h.inv
    cases ek
    rcases List.mem_cons.mp he with rfl | he
    · rw [← allD_eq h hn]
      exact hx
    · rw [List.mem_flatMap] at he
      obtain ⟨p, hp, he⟩ := he
      exact List.mem_cons_of_mem _ (List.mem_flatMap.mpr ⟨p, hp, allD_sub (r p hp) (by omega) e he x hx⟩)
theorem prefix_heads {α : Type} {a b s : List α} (h : a <+: s) (h' : b <+: s) (ha : a ≠ []) (hb : b ≠ []) : a.head? = b.head? := by
  obtain ⟨x, rfl⟩ := h
  obtain ⟨y, e⟩ := h'
  cases a with
  | nil => exact absurd rfl ha
  | cons i a => cases b with
    | nil => exact absurd rfl hb
    | cons j b =>
      rw [List.cons_append, List.cons_append] at e
      rw [(List.cons.inj e).1] <;> rfl
/-- what stands at a place behind a part's is a part of it -/
theorem allD_pre : ∀ {n : Nat} {d : DV} {lead : List Nat}, Part n d → n ≤ 14 → ∀ e ∈ allD d lead, ∀ x ∈ allD d lead, e.1 <+: x.1 → x ∈ allD e.2 e.1
  | 0, _, _, h, _ => by obtain ⟨k, e, _⟩ := h.inv; cases e
  | n + 1, d, lead, h, hn => by
    intro e he x hx hpre
    obtain ⟨k, ek, b, r⟩ := h.inv
    cases ek
    have he0 := he
    have hx0 := hx
    rw [allD_eq h hn] at he hx
    rcases List.mem_cons.mp he with rfl | he
    · exact hx0
    · rw [List.mem_flatMap] at he
      obtain ⟨p, hp, he⟩ := he
      obtain ⟨rel, m, e1, _⟩ := allD_at (r p hp) (by omega) e he
      have hne := (b.apart p hp p hp).1
      rcases List.mem_cons.mp hx with rfl | hx
      · exfalso
        rw [e1] at hpre
        have := hpre.length_le
        simp only [List.length_append] at this
        have : p.1.length = 0 := by omega
        exact hne (List.length_eq_zero_iff.mp this)
      · rw [List.mem_flatMap] at hx
        obtain ⟨q, hq, hx⟩ := hx
        obtain ⟨rel2, m2, e2, _⟩ := allD_at (r q hq) (by omega) x hx
        have hpre0 := hpre
        rw [e1, e2, List.append_assoc, List.append_assoc, List.prefix_append_right_inj] at hpre
        have hh := prefix_heads ((List.prefix_append p.1 rel).trans hpre) (List.prefix_append q.1 rel2) hne (b.apart q hq q hq).1
        have epq := (b.apart p hp q hq).2 hh
        subst epq
        exact allD_pre (r p hp) (by omega) e he x hx hpre0

/-! ### leaves -/
def joining (d : DV) : Bool := match d with
  | .tup (.str w :: _) => inF (.str w) [.str "not", .str "and", .str "or"]
  | _ => false
def leavesF : Nat → DV → List Nat → List (List Nat × DV)
  | 0, _, _ => []
  | n + 1, d, lead => if joining d then (downs d).flatMap fun p => leavesF n p.2 (lead ++ p.1) else [(lead, d)]
theorem leavesF_le : ∀ {n m : Nat} {d : DV} {lead : List Nat}, Part n d → n ≤ m → leavesF m d lead = leavesF n d lead
  | 0, _, _, _, h, _ => by obtain ⟨k, e, _⟩ := h.inv; cases e
  | n + 1, 0, _, _, _, l => absurd l (Nat.not_succ_le_zero n)
  | n + 1, m + 1, d, lead, h, l => by
    obtain ⟨k, e, _, r⟩ := h.inv
    cases e
    show (if joining d then _ else _) = (if joining d then _ else _)
    rw [flatMap_same fun p hp => leavesF_le (lead := lead ++ p.1) (r p hp) (Nat.le_of_succ_le_succ l)]
def leavesD (d : DV) (lead : List Nat) : List (List Nat × DV) := leavesF 15 d lead
theorem leavesD_eq {n : Nat} {d : DV} {lead : List Nat} (h : Part n d) (hn : n ≤ 14) : leavesD d lead = if joining d then (downs d).flatMap fun p => leavesD p.2 (lead ++ p.1) else [(lead, d)] := by
  obtain ⟨k, rfl, _, r⟩ := h.inv
  unfold leavesD
  show (if joining d then _ else _) = (if joining d then _ else _)
  rw [flatMap_same fun p hp => (leavesF_le (m := 14) (lead := lead ++ p.1) (r p hp) (by omega)).trans (leavesF_le (m := 15) (lead := lead ++ p.1) (r p hp) (by omega)).symm]
theorem leaves_all : ∀ {n : Nat} {d : DV} {lead : List Nat}, Part n d → n ≤ 14 → ∀ e ∈ leavesD d lead, e ∈ allD d lead ∧ joining e.2 = false
  | 0, _, _, h, _ => by obtain ⟨k, e, _⟩ := h.inv; cases e
  | n + 1, d, lead, h, hn => by
    intro e he
    rw [leavesD_eq h hn] at he
    rw [allD_eq h hn]
    obtain ⟨k, ek, b, r⟩ := h.inv
    cases ek
    by_cases hj : joining d = true
    · rw [if_pos hj, List.mem_flatMap] at he
      obtain ⟨p, hp, he⟩ := he
      have := leaves_all (r p hp) (by omega) e he
      exact ⟨List.mem_cons_of_mem _ (List.mem_flatMap.mpr ⟨p, hp, this.1⟩), this.2⟩
    · rw [if_neg hj, List.mem_singleton] at he
      subst he
      exact ⟨List.mem_cons_self, by simpa using hj⟩
theorem leaves_len : ∀ {n : Nat} {d : DV} {lead : List Nat}, Part n d → n ≤ 14 → (leavesD d lead).length ≤ 2 ^ n
  | 0, _, _, h, _ => by obtain ⟨k, e, _⟩ := h.inv; cases e
  | n + 1, d, lead, h, hn => by
    rw [leavesD_eq h hn]
    obtain ⟨k, ek, b, r⟩ := h.inv
    cases ek
    have p1 : 1 ≤ 2 ^ n := Nat.one_le_pow _ _ (by decide)
    rw [Nat.pow_succ]
    by_cases hj : joining d = true
    · rw [if_pos hj]
      have := below_flat b (f := fun p => leavesD p.2 (lead ++ p.1)) (n := 2 ^ n) (fun p hp => leaves_len (lead := lead ++ p.1) (r p hp) (by omega))
      omega
    · rw [if_neg hj, List.length_singleton]
      omega
end Qz

set_option Elab.async false
set_option linter.all false
set_option maxRecDepth 100000
/-! K55w: what the defs of the text do, over plain data (printed by gen.py). -/
namespace K55
open PySem L2 Dz

def w_sub_parts : WS :=
  (wSeq (wMatch (wBin wIx (wVar 0) (wC (.int 0))) [(["column", "value"], (wRet (wTup wNil))), (["plus", "is", "not"], (wRet (wTup (wCons (wBin wIx (wVar 0) (wC (.int 1))) wNil)))), (["exists"], (wRet (wTup (wCons (wBin wIx (wBin wIx (wVar 0) (wC (.int 1))) (wC (.int 1))) wNil)))), (["only", "first"], (wRet (wTup (wCons (wBin wIx (wBin wIx (wVar 0) (wC (.int 1))) (wC (.int 1))) (wCons (wBin wIx (wVar 0) (wC (.int 2))) wNil)))))])
    (wRet (wSl (wVar 0) (wPart (wC (.int 1))) wNoPart)))

def w_inner_parts (f_sub_parts : WF) : WS :=
  wPure (wSeq (wAsg (wB wListM (wCons (wBin wIx (wVar 0) (wC (.int 2))) wNil)) (wgName 1))
    (wSeq (wIfS (wTest (wBin wNotN (wBin wIx (wVar 0) (wC (.int 1))) (wC .none))) (wDrop (wApp (wVar 1) (wBin wIx (wVar 0) (wC (.int 1))))) wNext)
    (wSeq (wAsg (wLstM wNil) (wgName 2))
    (wSeq (wWhile (wTest (wBin wNeL (wVar 1) (wLst wNil))) (wSeq (wAsg (wUn wPop (wVar 1)) (wgName 3))
    (wSeq (wIfS (wTest (wBin wIn (wBin wIx (wVar 3) (wC (.int 0))) (wC (.tup [(.str "exists"), (.str "only"), (.str "first")])))) (wDrop (wApp (wVar 2) (wVar 3))) wNext)
    (wDrop (wExtT (wVar 1) (wCall 1 f_sub_parts (wCons (wVar 3) wNil)))))))
    (wRet (wFrz (wVar 2)))))))

def w_inner_tables (f_inner_parts : WF) : WS :=
  wPure (wSeq (wAsg (wLstM wNil) (wgName 1))
    (wSeq (wFor (sLst (wCall 1 f_inner_parts (wCons (wVar 0) wNil))) (wgName 2) (wSeq (wAsg (wLc (sTup (wBin wIx (wBin wIx (wVar 2) (wC (.int 1))) (wC (.int 0)))) (wgTup 2 (wgCons (wgName 4) (wgCons (wgName 5) wgNil))) wYes (wVar 5) [4, 5]) (wgName 3))
    (wDrop (wExt (wVar 1) (wIf (wTest (wBin wEqL (wBin wIx (wVar 2) (wC (.int 0))) (wC (.str "only")))) (wBin wAdd (wVar 3) (wVar 3)) (wVar 3))))))
    (wRet (wFrz (wVar 1)))))

def w_shapes_of (f_inner_tables : WF) : WS :=
  wPure (wSeq (wAsg (wLc (sTup (wBin wIx (wBin wIx (wVar 0) (wC (.int 0))) (wC (.int 0)))) (wgTup 2 (wgCons (wgName 2) (wgCons (wgName 3) wgNil))) wYes (wVar 3) [2, 3]) (wgName 1))
    (wSeq (wAsg (wLstM wNil) (wgName 4))
    (wSeq (wFor (sTup (wVar 0)) (wgName 5) (wDrop (wExt (wVar 4) (wCall 1 f_inner_tables (wCons (wVar 5) wNil)))))
    (wFrzV 4 (wSeq (wAsg (wLst (wCons (wTup wNil) wNil)) (wgName 6))
    (wSeq (wFor (sLst (wSortSet (wBin wAdd (wVar 1) (wVar 4)))) (wgName 3) (wSeq (wAsg (wTup (wCons (wB wInt1 (wCons (wBin wIn (wVar 3) (wVar 1)) wNil)) (wCons (wBin wAdd (wCount (wVar 1) (wVar 3)) (wCount (wVar 4) (wVar 3))) wNil))) (wgTup 2 (wgCons (wgName 7) (wgCons (wgName 8) wgNil))))
    (wAsg (wLc2 (sLst (wVar 6)) (wgName 9) wYes (sRng2 (wVar 7) (wBin wAdd (wVar 8) (wC (.int 1)))) (wgName 10) wYes (wBin wAdd (wVar 9) (wTup (wCons (wTup (wCons (wVar 3) (wCons (wVar 10) wNil))) wNil))) [9, 10] [10]) (wgName 6))))
    (wRet (wB wTuple (wCons (wVar 6) wNil)))))))))

def w_law_deck : WS :=
  (wSeq (wPar 1 2 (wCons (wB wList (wCons (wSl (wVar 0) wNoPart (wPart (wC (.int 63)))) wNil)) (wCons (wC (.int 55001)) wNil)))
    (wSeq (wFor (sLst (wVar 1)) (wgName 3) (wAsg (wBin wMod (wBin wAdd (wBin wAdd (wBin wMul (wVar 2) (wC (.int 48271))) (wBin wMod (wVar 3) (wC (.int 2147483629)))) (wC (.int 41))) (wC (.int 2147483587))) (wgName 2)))
    (wRet (wDctM [((.inr "cells"), (wRevM (wVar 1))), ((.inr "total"), (wVar 2)), ((.inr "draws"), (wC (.int 0)))]))))

def w_law_draw : WS :=
  (wSeq (wPar 2 3 (wCons (wBin wAdd (wBin wDGet (wVar 0) (wC (.str "draws"))) (wC (.int 1))) (wCons (wBin wDGet (wVar 0) (wC (.str "total"))) wNil)))
    (wSeq (wDPut (wVar 0) (wC (.str "draws")) (wVar 2))
    (wSeq (wIfS (wTest (wBin wNeL (wBin wDGet (wVar 0) (wC (.str "cells"))) (wLst wNil))) (wSeq (wAsg (wUn wPop (wBin wDGet (wVar 0) (wC (.str "cells")))) (wgName 3))
    (wSeq (wIfS (wTest (wBin wGe (wVar 3) (wBin wPow (wC (.int 10)) (wC (.int 18))))) (wSeq (wDrop (wApp (wBin wDGet (wVar 0) (wC (.str "cells"))) (wBin wDiv (wVar 3) (wVar 1))))
    (wRet (wBin wMod (wVar 3) (wVar 1)))) wNext)
    (wAsg (wBin wAdd (wVar 3) (wBin wDGet (wVar 0) (wC (.str "total")))) (wgName 3)))) wNext)
    (wSeq (wAsg (wBin wMod (wBin wMul (wBin wAdd (wBin wAdd (wBin wMod (wVar 3) (wC (.int 2147483629))) (wBin wMul (wBin wMul (wC (.int 60223)) (wVar 2)) (wVar 2))) (wC (.int 47))) (wC (.int 40692))) (wC (.int 2147483647))) (wgName 4))
    (wSeq (wAsg (wBin wMod (wBin wAdd (wBin wAdd (wBin wMul (wVar 4) (wVar 4)) (wBin wMul (wC (.int 69779)) (wVar 2))) (wC (.int 31))) (wC (.int 2147483587))) (wgName 4))
    (wRet (wBin wMod (wBin wDiv (wBin wMod (wBin wMul (wVar 4) (wC (.int 39373))) (wC (.int 2147483563))) (wC (.int 64))) (wVar 1))))))))

def w_law_pick (f_law_draw : WF) : WS :=
  (wRet (wBin wIx (wVar 1) (wCall 2 f_law_draw (wCons (wVar 0) (wCons (wB wLen (wCons (wVar 1) wNil)) wNil)))))

def w_law_names (f_law_draw : WF) : WS :=
  (wSeq (wAsg (wTup (wCons (wCall 2 f_law_draw (wCons (wVar 0) (wCons (wC (.int 17)) wNil))) (wCons (wCall 2 f_law_draw (wCons (wVar 0) (wCons (wC (.int 2)) wNil))) wNil))) (wgTup 2 (wgCons (wgName 2) (wgCons (wgName 3) wgNil))))
    (wSeq (wAsg (wSplit (wC (.str "less is plus from in only where not first value exists same t tell limit and order")) (wC (.str " "))) (wgName 4))
    (wRet (wLcM (sRng1 (wVar 1)) (wgName 5) wYes (wBin wIx (wBin wIx (wLst (wCons (wVar 4) (wCons (wC (.str "abcdefghijklmnopq")) wNil))) (wVar 3)) (wBin wMod (wBin wAdd (wVar 2) (wBin wMul (wC (.int 5)) (wVar 5))) (wC (.int 17)))) [5]))))

def w_law_inners (f_law_inners : WF) : WS :=
  (wSeq (wIfS (wTest (wBin wIn (wBin wIx (wVar 0) (wC (.int 0))) (wTup (wCons (wC (.str "exists")) (wCons (wC (.str "only")) (wCons (wC (.str "first")) wNil)))))) (wRet (wLst (wCons (wVar 0) wNil))) wNext)
    (wSeq (wIfS (wTest (wBin wIn (wBin wIx (wVar 0) (wC (.int 0))) (wTup (wCons (wC (.str "column")) (wCons (wC (.str "value")) wNil))))) (wRet (wLst wNil)) wNext)
    (wSeq (wAsg (wLst wNil) (wgName 1))
    (wSeq (wFor (sTup (wSl (wVar 0) (wPart (wC (.int 1))) wNoPart)) (wgName 2) (wAsg (wBin wAdd (wVar 1) (wIf (wTest (wIsi tyTup (wVar 2))) (wCall 1 f_law_inners (wCons (wVar 2) wNil)) (wLst wNil))) (wgName 1)))
    (wRet (wVar 1))))))

def w_law_shapes (f_law_inners : WF) : WS :=
  (wSeq (wPar 2 3 (wCons (wLc (sTup (wBin wIx (wVar 0) (wC (.int 0)))) (wgTup 2 (wgCons (wgName 4) (wgCons (wgName 5) wgNil))) wYes (wVar 5) [4, 5]) (wCons (wLst wNil) wNil)))
    (wSeq (wFor (sLst (wBin wAdd (wLst (wCons (wVar 0) wNil)) (wVar 1))) (wgName 6) (wFor (sLst (wBin wAdd (wIf (wTest (wBin wIsN (wBin wIx (wVar 6) (wC (.int 1))) (wC .none))) (wLst wNil) (wLst (wCons (wBin wIx (wVar 6) (wC (.int 1))) wNil))) (wB wList (wCons (wBin wIx (wVar 6) (wC (.int 2))) wNil)))) (wgName 7) (wFor (sLst (wCall 1 f_law_inners (wCons (wVar 7) wNil))) (wgName 8) (wAsg (wBin wAdd (wVar 3) (wBin wMul (wLc (sTup (wBin wIx (wBin wIx (wVar 8) (wC (.int 1))) (wC (.int 0)))) (wgTup 2 (wgCons (wgName 4) (wgCons (wgName 5) wgNil))) wYes (wVar 5) [4, 5]) (wBin wAdd (wC (.int 1)) (wB wInt1 (wCons (wBin wEqL (wBin wIx (wVar 8) (wC (.int 0))) (wC (.str "only"))) wNil))))) (wgName 3)))))
    (wSeq (wAsg (wLst (wCons (wTup wNil) wNil)) (wgName 9))
    (wSeq (wFor (sLst (wSortSet (wBin wAdd (wVar 2) (wVar 3)))) (wgName 5) (wSeq (wAsg (wTup (wCons (wB wInt1 (wCons (wBin wIn (wVar 5) (wVar 2)) wNil)) (wCons (wLst wNil) wNil))) (wgTup 2 (wgCons (wgName 11) (wgCons (wgName 12) wgNil))))
    (wSeq (wFor (sLst (wVar 9)) (wgName 10) (wSeq (wAsg (wBin wSub (wBin wAdd (wBin wAdd (wCount (wVar 2) (wVar 5)) (wCount (wVar 3) (wVar 5))) (wC (.int 1))) (wVar 11)) (wgName 13))
    (wAsg (wBin wAdd (wVar 12) (wLc (sRng1 (wVar 13)) (wgName 14) wYes (wBin wAdd (wVar 10) (wTup (wCons (wTup (wCons (wVar 5) (wCons (wBin wAdd (wVar 11) (wVar 14)) wNil))) wNil))) [14])) (wgName 12))))
    (wAsg (wVar 12) (wgName 9)))))
    (wRet (wB wTuple (wCons (wVar 9) wNil)))))))

def w_law_inner_part (f_law_pick : WF) (f_law_draw : WF) : WS :=
  (wSeq (wAsg (wB wTuple (wCons (wLc (sRng1 (wBin wAdd (wC (.int 1)) (wCall 2 f_law_draw (wCons (wVar 0) (wCons (wC (.int 2)) wNil))))) (wgName 5) wYes (wTup (wCons (wUn wPop (wVar 2)) (wCons (wCall 2 f_law_pick (wCons (wVar 0) (wCons (wVar 3) wNil))) wNil))) [5]) wNil)) (wgName 4))
    (wSeq (wAsg (wTup (wCons (wVar 4) (wCons (wTup (wCons (wC (.str "same")) (wCons (wTup (wCons (wC (.str "column")) (wCons (wBin wIx (wBin wIx (wVar 4) (wUn wNeg (wC (.int 1)))) (wC (.int 0))) (wCons (wC (.str "c")) wNil)))) (wCons (wTup (wCons (wC (.str "column")) (wCons (wBin wIx (wBin wIx (wVar 1) (wC (.int 0))) (wC (.int 0))) (wCons (wC (.str "c")) wNil)))) wNil)))) wNil))) (wgName 6))
    (wSeq (wAsg (wCall 2 f_law_pick (wCons (wVar 0) (wCons (wLst (wCons (wC (.str "exists")) (wCons (wC (.str "only")) (wCons (wC (.str "first")) wNil)))) wNil))) (wgName 7))
    (wRet (wIf (wTest (wBin wEqL (wVar 7) (wC (.str "exists")))) (wTup (wCons (wVar 7) (wCons (wVar 6) wNil))) (wTup (wCons (wVar 7) (wCons (wVar 6) (wCons (wTup (wCons (wC (.str "plus")) (wCons (wTup (wCons (wC (.str "column")) (wCons (wBin wIx (wBin wIx (wVar 4) (wC (.int 0))) (wC (.int 0))) (wCons (wC (.str "c")) wNil)))) (wCons (wC (.int 1)) wNil)))) wNil)))))))))

def w_law_condition (f_law_pick : WF) (f_law_draw : WF) : WS :=
  (wSeq (wAsg (wTup (wCons (wC (.str "less")) (wCons (wTup (wCons (wC (.str "column")) (wCons (wBin wIx (wBin wIx (wVar 1) (wC (.int 0))) (wC (.int 0))) (wCons (wC (.str "c")) wNil)))) (wCons (wTup (wCons (wC (.str "value")) (wCons (wC (.int 0)) wNil))) wNil)))) (wgName 3))
    (wSeq (wIfS (wTest (wBin wNotN (wVar 2) (wC .none))) (wSeq (wAsg (wIf (wAndT (wTest (wBin wNeL (wBin wIx (wVar 2) (wC (.int 0))) (wC (.str "exists")))) (wTest (wBin wEqL (wCall 2 f_law_draw (wCons (wVar 0) (wCons (wC (.int 2)) wNil))) (wC (.int 0))))) (wTup (wCons (wC (.str "plus")) (wCons (wVar 2) (wCons (wUn wNeg (wC (.int 1))) wNil)))) (wVar 2)) (wgName 4))
    (wSeq (wAsg (wLst (wCons (wTup (wCons (wC (.str "is")) (wCons (wVar 4) (wCons (wC (.str "number")) wNil)))) (wCons (wTup (wCons (wC (.str "most")) (wCons (wVar 4) (wCons (wTup (wCons (wC (.str "value")) (wCons (wC .none) wNil))) wNil)))) (wCons (wTup (wCons (wC (.str "same")) (wCons (wTup (wCons (wC (.str "value")) (wCons (wC (.str "x")) wNil))) (wCons (wVar 4) wNil)))) wNil)))) (wgName 5))
    (wAsg (wIf (wTest (wBin wEqL (wBin wIx (wVar 2) (wC (.int 0))) (wC (.str "exists")))) (wVar 2) (wCall 2 f_law_pick (wCons (wVar 0) (wCons (wVar 5) wNil)))) (wgName 3)))) wNext)
    (wSeq (wFor (sRng1 (wCall 2 f_law_draw (wCons (wVar 0) (wCons (wC (.int 3)) wNil)))) (wgName 6) (wSeq (wAsg (wTup (wCons (wC (.str "is")) (wCons (wTup (wCons (wC (.str "value")) (wCons (wVar 6) wNil))) (wCons (wC (.str "word")) wNil)))) (wgName 7))
    (wAsg (wCall 2 f_law_pick (wCons (wVar 0) (wCons (wLst (wCons (wTup (wCons (wC (.str "not")) (wCons (wVar 3) wNil))) (wCons (wTup (wCons (wC (.str "and")) (wCons (wVar 3) (wCons (wVar 7) wNil)))) (wCons (wTup (wCons (wC (.str "or")) (wCons (wVar 7) (wCons (wVar 3) wNil)))) wNil)))) wNil))) (wgName 3))))
    (wRet (wVar 3)))))

def w_law_drawn (f_law_draw : WF) (f_law_inner_part : WF) (f_law_condition : WF) (f_law_pick : WF) : WS :=
  (wSeq (wPar 4 5 (wCons (wC .none) (wCons (wTup (wCons (wTup (wCons (wC (.str "column")) (wCons (wBin wIx (wBin wIx (wVar 1) (wC (.int 0))) (wC (.int 0))) (wCons (wC (.str "c")) wNil)))) wNil)) wNil)))
    (wSeq (wFor (sRng1 (wCall 2 f_law_draw (wCons (wVar 0) (wCons (wC (.int 3)) wNil)))) (wgName 6) (wSeq (wAsg (wCall 4 f_law_inner_part (wCons (wVar 0) (wCons (wVar 1) (wCons (wVar 3) (wCons (wVar 2) wNil))))) (wgName 7))
    (wIfS (wAndT (wTest (wBin wNeL (wBin wIx (wVar 7) (wC (.int 0))) (wC (.str "exists")))) (wTest (wBin wEqL (wCall 2 f_law_draw (wCons (wVar 0) (wCons (wC (.int 3)) wNil))) (wC (.int 0))))) (wAsg (wBin wAdd (wVar 5) (wTup (wCons (wVar 7) wNil))) (wgName 5)) (wIfS (wTest (wBin wIsN (wVar 4) (wC .none))) (wAsg (wCall 3 f_law_condition (wCons (wVar 0) (wCons (wVar 1) (wCons (wVar 7) wNil)))) (wgName 4)) (wIfS (wAndT (wTest (wBin wEqL (wCall 2 f_law_draw (wCons (wVar 0) (wCons (wC (.int 2)) wNil))) (wC (.int 0)))) (wAndT (wTest (wBin wNeL (wBin wIx (wVar 7) (wC (.int 0))) (wC (.str "exists")))) (wTest (wBin wIn (wBin wIx (wVar 4) (wC (.int 0))) (wTup (wCons (wC (.str "less")) (wCons (wC (.str "most")) (wCons (wC (.str "same")) wNil)))))))) (wAsg (wTup (wCons (wBin wIx (wVar 4) (wC (.int 0))) (wCons (wVar 7) (wCons (wBin wIx (wLc (sTup (wSl (wVar 4) (wPart (wC (.int 1))) wNoPart)) (wgName 8) (wTest (wBin wIn (wBin wIx (wVar 8) (wC (.int 0))) (wTup (wCons (wC (.str "only")) (wCons (wC (.str "first")) (wCons (wC (.str "plus")) wNil)))))) (wVar 8) [8]) (wC (.int 0))) wNil)))) (wgName 4)) (wAsg (wTup (wCons (wC (.str "and")) (wCons (wVar 4) (wCons (wCall 3 f_law_condition (wCons (wVar 0) (wCons (wVar 1) (wCons (wVar 7) wNil)))) wNil)))) (wgName 4)))))))
    (wSeq (wPar 9 10 (wCons (wCall 2 f_law_pick (wCons (wVar 0) (wCons (wLst (wCons (wTup wNil) (wCons (wSl (wVar 5) wNoPart (wPart (wC (.int 1)))) wNil))) wNil))) (wCons (wCall 2 f_law_pick (wCons (wVar 0) (wCons (wLst (wCons (wC .none) (wCons (wC (.int 0)) (wCons (wC (.int 3)) wNil)))) wNil))) wNil)))
    (wRet (wTup (wCons (wVar 1) (wCons (wVar 4) (wCons (wVar 5) (wCons (wVar 9) (wCons (wVar 10) wNil))))))))))

def w_law_pair (f_law_names : WF) (f_law_draw : WF) (f_law_condition : WF) (f_law_pick : WF) (f_law_drawn : WF) : WS :=
  (wSeq (wAsg (wCall 2 f_law_names (wCons (wVar 0) (wCons (wC (.int 17)) wNil))) (wgName 1))
    (wSeq (wAsg (wLc (sRng1 (wC (.int 6))) (wgName 3) wYes (wUn wPop (wVar 1)) [3]) (wgName 2))
    (wSeq (wAsg (wBin wAdd (wC (.int 1)) (wCall 2 f_law_draw (wCons (wVar 0) (wCons (wC (.int 4)) wNil)))) (wgName 4))
    (wSeq (wIfS (wTest (wBin wEqL (wCall 2 f_law_draw (wCons (wVar 0) (wCons (wC (.int 4)) wNil))) (wC (.int 0)))) (wSeq (wAsg (wB wTuple (wCons (wLc (sRng1 (wVar 4)) (wgName 3) wYes (wTup (wCons (wUn wPop (wVar 1)) (wCons (wCall 2 f_law_pick (wCons (wVar 0) (wCons (wSl (wVar 2) wNoPart (wPart (wC (.int 2)))) wNil))) wNil))) [3]) wNil)) (wgName 5))
    (wRet (wLc (sRng1 (wC (.int 2))) (wgName 3) wYes (wTup (wCons (wVar 5) (wCons (wCall 3 f_law_condition (wCons (wVar 0) (wCons (wVar 5) (wCons (wC .none) wNil)))) (wCons (wTup (wCons (wTup (wCons (wC (.str "value")) (wCons (wC (.int 1)) wNil))) wNil)) (wCons (wTup wNil) (wCons (wC .none) wNil)))))) [3]))) wNext)
    (wSeq (wAsg (wB wTuple (wCons (wLc (sRng1 (wVar 4)) (wgName 3) wYes (wTup (wCons (wUn wPop (wVar 1)) (wCons (wBin wIx (wVar 2) (wVar 3)) wNil))) [3]) wNil)) (wgName 5))
    (wRet (wLc (sRng1 (wC (.int 2))) (wgName 3) wYes (wCall 4 f_law_drawn (wCons (wVar 0) (wCons (wVar 5) (wCons (wSl (wVar 2) (wPart (wC (.int 4))) wNoPart) (wCons (wB wListM (wCons (wVar 1) wNil)) wNil))))) [3])))))))

def w_law_main (f_law_deck : WF) (f_law_pair : WF) (f_law_shapes : WF) (f_shapes_of : WF) : WS :=
  (wSeq (wAsg (wCall 1 f_law_deck (wCons (wVar 0) wNil)) (wgName 1))
    (wSeq (wFor (sRng1 (wC (.int 12))) (wgName 2) (wSeq (wAsg (wCall 1 f_law_pair (wCons (wVar 1) wNil)) (wgLst 2 (wgCons (wgName 4) (wgCons (wgName 5) wgNil))))
    (wSeq (wIfS (wOrT (wTest (wBin wNeL (wB wRepr (wCons (wCallS f_shapes_of (wCons (wVar 4) wNil)) wNil)) (wB wRepr (wCons (wCall 2 f_law_shapes (wCons (wVar 4) (wCons (wLst wNil) wNil))) wNil)))) (wTest (wBin wNeL (wB wRepr (wCons (wCallS f_shapes_of (wCons (wVar 5) wNil)) wNil)) (wB wRepr (wCons (wCall 2 f_law_shapes (wCons (wVar 5) (wCons (wLst wNil) wNil))) wNil))))) (wRet (wC (.bool false))) wNext)
    (wSeq (wAsg (wB wRepr (wCons (wCall 2 f_law_shapes (wCons (wVar 4) (wCons (wLst (wCons (wVar 5) wNil)) wNil))) wNil)) (wgName 3))
    (wSeq (wIfS (wOrT (wTest (wBin wNeL (wB wRepr (wCons (wCallS f_shapes_of (wCons (wVar 4) (wCons (wVar 5) wNil))) wNil)) (wVar 3))) (wTest (wBin wNeL (wB wRepr (wCons (wCallS f_shapes_of (wCons (wVar 5) (wCons (wVar 4) wNil))) wNil)) (wVar 3)))) (wRet (wC (.bool false))) wNext)
    (wSeq (wIfS (wTest (wBin wNeL (wB wRepr (wCons (wCallS f_shapes_of (wCons (wVar 4) (wCons (wVar 4) wNil))) wNil)) (wB wRepr (wCons (wCall 2 f_law_shapes (wCons (wVar 4) (wCons (wLst (wCons (wVar 4) wNil)) wNil))) wNil)))) (wRet (wC (.bool false))) wNext)
    (wIfS (wTest (wBin wNeL (wB wRepr (wCons (wCallS f_shapes_of (wCons (wVar 4) (wCons (wVar 4) (wCons (wVar 5) wNil)))) wNil)) (wB wRepr (wCons (wCall 2 f_law_shapes (wCons (wVar 4) (wCons (wLst (wCons (wVar 4) (wCons (wVar 5) wNil))) wNil))) wNil)))) (wRet (wC (.bool false))) wNext)))))))
    (wRet (wC (.bool true)))))

end K55

set_option Elab.async false
set_option linter.all false
set_option maxRecDepth 100000
set_option maxHeartbeats 400000
/-! K55v: the derivations (printed by gen.py). -/
namespace K55
open PySem L2 Dz

def top (i : Nat) : Stmt := PySem.Challenge.pw_failsalike_k55_shapes.main.body.getD i (.Pass ⟨0, 0, 0, 0⟩)
abbrev s_sub_parts : Stmt := top 1
abbrev s_inner_parts : Stmt := top 4
abbrev s_inner_tables : Stmt := top 5
abbrev s_shapes_of : Stmt := top 6
abbrev s_law_deck : Stmt := top 8
abbrev s_law_draw : Stmt := top 9
abbrev s_law_pick : Stmt := top 10
abbrev s_law_names : Stmt := top 11
abbrev s_law_inners : Stmt := top 12
abbrev s_law_shapes : Stmt := top 13
abbrev s_law_inner_part : Stmt := top 14
abbrev s_law_condition : Stmt := top 15
abbrev s_law_drawn : Stmt := top 16
abbrev s_law_pair : Stmt := top 17
abbrev s_law_main : Stmt := top 18
abbrev N_sub_parts : List Str := ["part"]
theorem sc_sub_parts : FnScope N_sub_parts ["part"] (defScope s_sub_parts) := ⟨rfl, rfl, rfl, by decide +kernel, rfl, by decide +kernel, by decide +kernel⟩
abbrev N_inner_parts : List Str := ["question", "waiting", "found", "part"]
theorem sc_inner_parts : FnScope N_inner_parts ["question"] (defScope s_inner_parts) := ⟨rfl, rfl, rfl, by decide +kernel, rfl, by decide +kernel, by decide +kernel⟩
abbrev N_inner_tables : List Str := ["question", "found", "part", "tables", "alias", "table"]
theorem sc_inner_tables : FnScope N_inner_tables ["question"] (defScope s_inner_tables) := ⟨rfl, rfl, rfl, by decide +kernel, rfl, by decide +kernel, by decide +kernel⟩
abbrev N_shapes_of : List Str := ["questions", "outer", "alias", "table", "inner", "question", "shapes", "least", "most", "shape", "count"]
theorem sc_shapes_of : FnScope N_shapes_of ["questions"] (defScope s_shapes_of) := ⟨rfl, rfl, rfl, by decide +kernel, rfl, by decide +kernel, by decide +kernel⟩
abbrev N_law_deck : List Str := ["_law_script", "_law_cells", "_law_total", "_law_cell"]
theorem sc_law_deck : FnScope N_law_deck ["_law_script"] (defScope s_law_deck) := ⟨rfl, rfl, rfl, by decide +kernel, rfl, by decide +kernel, by decide +kernel⟩
abbrev N_law_draw : List Str := ["_law_deck_here", "_law_many", "_law_turn", "_law_cell", "_law_mixed"]
theorem sc_law_draw : FnScope N_law_draw ["_law_deck_here", "_law_many"] (defScope s_law_draw) := ⟨rfl, rfl, rfl, by decide +kernel, rfl, by decide +kernel, by decide +kernel⟩
abbrev N_law_pick : List Str := ["_law_deck_here", "_law_some"]
theorem sc_law_pick : FnScope N_law_pick ["_law_deck_here", "_law_some"] (defScope s_law_pick) := ⟨rfl, rfl, rfl, by decide +kernel, rfl, by decide +kernel, by decide +kernel⟩
abbrev N_law_names : List Str := ["_law_deck_here", "_law_many", "_law_first", "_law_way", "_law_words", "_law_k"]
theorem sc_law_names : FnScope N_law_names ["_law_deck_here", "_law_many"] (defScope s_law_names) := ⟨rfl, rfl, rfl, by decide +kernel, rfl, by decide +kernel, by decide +kernel⟩
abbrev N_law_inners : List Str := ["_law_part", "_law_found", "_law_one"]
theorem sc_law_inners : FnScope N_law_inners ["_law_part"] (defScope s_law_inners) := ⟨rfl, rfl, rfl, by decide +kernel, rfl, by decide +kernel, by decide +kernel⟩
abbrev N_law_shapes : List Str := ["_law_asked", "_law_more", "_law_outer", "_law_inner", "_law_alias", "_law_table", "_law_one", "_law_part", "_law_found", "_law_shapes_here", "_law_shape", "_law_least", "_law_longer", "_law_many", "_law_k"]
theorem sc_law_shapes : FnScope N_law_shapes ["_law_asked", "_law_more"] (defScope s_law_shapes) := ⟨rfl, rfl, rfl, by decide +kernel, rfl, by decide +kernel, by decide +kernel⟩
abbrev N_law_inner_part : List Str := ["_law_deck_here", "_law_refs", "_law_names_here", "_law_tables", "_law_own", "_law_k", "_law_inner", "_law_word"]
theorem sc_law_inner_part : FnScope N_law_inner_part ["_law_deck_here", "_law_refs", "_law_names_here", "_law_tables"] (defScope s_law_inner_part) := ⟨rfl, rfl, rfl, by decide +kernel, rfl, by decide +kernel, by decide +kernel⟩
abbrev N_law_condition : List Str := ["_law_deck_here", "_law_refs", "_law_part", "_law_found", "_law_one", "_law_some", "_law_k", "_law_leaf"]
theorem sc_law_condition : FnScope N_law_condition ["_law_deck_here", "_law_refs", "_law_part"] (defScope s_law_condition) := ⟨rfl, rfl, rfl, by decide +kernel, rfl, by decide +kernel, by decide +kernel⟩
abbrev N_law_drawn : List Str := ["_law_deck_here", "_law_refs", "_law_tables", "_law_names_here", "_law_where", "_law_heard", "_law_k", "_law_part", "_law_one", "_law_order", "_law_limit"]
theorem sc_law_drawn : FnScope N_law_drawn ["_law_deck_here", "_law_refs", "_law_tables", "_law_names_here"] (defScope s_law_drawn) := ⟨rfl, rfl, rfl, by decide +kernel, rfl, by decide +kernel, by decide +kernel⟩
abbrev N_law_pair : List Str := ["_law_deck_here", "_law_names_here", "_law_tables", "_law_k", "_law_count", "_law_refs"]
theorem sc_law_pair : FnScope N_law_pair ["_law_deck_here"] (defScope s_law_pair) := ⟨rfl, rfl, rfl, by decide +kernel, rfl, by decide +kernel, by decide +kernel⟩
abbrev N_law_main : List Str := ["_law_script", "_law_deck_here", "_law_turn", "_law_due", "_law_one", "_law_other"]
theorem sc_law_main : FnScope N_law_main ["_law_script"] (defScope s_law_main) := ⟨rfl, rfl, rfl, by decide +kernel, rfl, by decide +kernel, by decide +kernel⟩
structure Tops (K : PySem.W.Frag) (mg : Str → Option Value) (base : Heap) : Prop where
  a_sub_parts : At1 K mg "sub_parts" s_sub_parts
  a_inner_parts : At1 K mg "inner_parts" s_inner_parts
  a_inner_tables : At1 K mg "inner_tables" s_inner_tables
  a_shapes_of : At1 K mg "shapes_of" s_shapes_of
  a_law_deck : At1 K mg "_law_deck" s_law_deck
  a_law_draw : At1 K mg "_law_draw" s_law_draw
  a_law_pick : At1 K mg "_law_pick" s_law_pick
  a_law_names : At1 K mg "_law_names" s_law_names
  a_law_inners : At1 K mg "_law_inners" s_law_inners
  a_law_shapes : At1 K mg "_law_shapes" s_law_shapes
  a_law_inner_part : At1 K mg "_law_inner_part" s_law_inner_part
  a_law_condition : At1 K mg "_law_condition" s_law_condition
  a_law_drawn : At1 K mg "_law_drawn" s_law_drawn
  a_law_pair : At1 K mg "_law_pair" s_law_pair
  a_law_main : At1 K mg "law" s_law_main
  b_int : mg "int" = none
  b_isinstance : mg "isinstance" = none
  b_len : mg "len" = none
  b_list : mg "list" = none
  b_range : mg "range" = none
  b_repr : mg "repr" = none
  b_set : mg "set" = none
  b_sorted : mg "sorted" = none
  b_tuple : mg "tuple" = none
  c_INNER_WORDS : GlobIs K mg "INNER_WORDS" (.tup [(.str "exists"), (.str "only"), (.str "first")])
  sm : ∃ o, base.get? sysModules = some o
section
variable {P : Program} {w0 : World} {K : PySem.W.Frag} {mg : Str → Option Value} {base : Heap}
theorem dv_sub_parts (T : Tops K mg base) (f : Addr) (cdv : Value) (A : Around) (outer : List Env) (s : Shared) (H : Hp) (E : XK) (hgd : A.guards = some []) (hr : Room 0 (A.deeper (PyProof.Rows.envOfC "sub_parts" (defScope s_sub_parts) s.heap.objs.size f cdv))) :
  PSs (cxOf CX0 P w0 K mg base N_sub_parts "sub_parts" (defScope s_sub_parts) f cdv A outer s H E).nox (defBody s_sub_parts) (tDS K (w_sub_parts)) :=
  (dss_cons (ds_match (d_ix (d_var 0) d_int) (dm_cons (cs := ["column", "value"]) (pat_or (first_cons pat_val (first_cons pat_val first_nil))) (dss_one (ds_ret (d_tup da_nil))) (dm_cons (cs := ["plus", "is", "not"]) (pat_or (first_cons pat_val (first_cons pat_val (first_cons pat_val first_nil)))) (dss_one (ds_ret (d_tup (da_cons (d_ix (d_var 0) d_int) da_nil)))) (dm_cons (cs := ["exists"]) pat_val (dss_one (ds_ret (d_tup (da_cons (d_ix (d_ix (d_var 0) d_int) d_int) da_nil)))) (dm_cons (cs := ["only", "first"]) (pat_or (first_cons pat_val (first_cons pat_val first_nil))) (dss_one (ds_ret (d_tup (da_cons (d_ix (d_ix (d_var 0) d_int) d_int) (da_cons (d_ix (d_var 0) d_int) da_nil))))) dm_nil)))))
    (dss_one (ds_ret (d_slice (d_var 0) (do_some d_int) do_none))))
theorem dv_inner_parts (T : Tops K mg base) {f_sub_parts : WF} (D_sub_parts : Def P w0 K mg base 1 "sub_parts" s_sub_parts ["part"] f_sub_parts) (f : Addr) (cdv : Value) (A : Around) (outer : List Env) (s : Shared) (H : Hp) (E : XK) (hgd : A.guards = some []) (hr : Room 1 (A.deeper (PyProof.Rows.envOfC "inner_parts" (defScope s_inner_parts) s.heap.objs.size f cdv))) :
  PSs (cxOf CX0 P w0 K mg base N_inner_parts "inner_parts" (defScope s_inner_parts) f cdv A outer s H E).nox (defBody s_inner_parts) (tDS K (w_inner_parts f_sub_parts)) :=
  (dss_pure (dss_cons (ds_set (i := 1) sc_inner_parts.nd rfl (Or.inl rfl) (d_listM (by rfl) T.b_list (d_ix (d_var 0) d_int)))
    (dss_cons (ds_if (t_isnot (d_ix (d_var 0) d_int) d_non) (dss_one (ds_expr (d_append (d_var 1) (d_ix (d_var 0) d_int)))) dss_nil)
    (dss_cons (ds_set (i := 2) sc_inner_parts.nd rfl (Or.inl rfl) (d_lstM da_nil))
    (dss_cons (ds_while (t_ne hr (d_var 1) (d_lst da_nil)) (dss_cons (ds_set (i := 3) sc_inner_parts.nd rfl (Or.inl rfl) (d_pop (d_var 1)))
    (dss_cons (ds_if (t_in hr (d_ix (d_var 3) d_int) (d_globE (by rfl) T.c_INNER_WORDS) (by rfl)) (dss_one (ds_expr (d_append (d_var 2) (d_var 3)))) dss_nil)
    (dss_one (ds_expr (d_extendT (d_var 1) (d_f D_sub_parts hgd hr (by decide) (by rfl) (fun _ _ _ _ _ _ us hl => match us, hl with | [_], _ => rfl) (da_cons (d_var 3) da_nil))))))))
    (dss_one (ds_ret (d_frz (d_var 2)))))))))
theorem dv_inner_tables (T : Tops K mg base) {f_inner_parts : WF} (D_inner_parts : Def P w0 K mg base 2 "inner_parts" s_inner_parts ["question"] f_inner_parts) (f : Addr) (cdv : Value) (A : Around) (outer : List Env) (s : Shared) (H : Hp) (E : XK) (hgd : A.guards = some []) (hr : Room 2 (A.deeper (PyProof.Rows.envOfC "inner_tables" (defScope s_inner_tables) s.heap.objs.size f cdv))) :
  PSs (cxOf CX0 P w0 K mg base N_inner_tables "inner_tables" (defScope s_inner_tables) f cdv A outer s H E).nox (defBody s_inner_tables) (tDS K (w_inner_tables f_inner_parts)) :=
  (dss_pure (dss_cons (ds_set (i := 1) sc_inner_tables.nd rfl (Or.inl rfl) (d_lstM da_nil))
    (dss_cons (ds_for (di_list (d_f D_inner_parts hgd hr (by decide) (by rfl) (fun _ _ _ _ _ _ us hl => match us, hl with | [_], _ => rfl) (da_cons (d_var 0) da_nil))) (dg_name (i := 2) sc_inner_tables.nd rfl (Or.inl rfl)) (dss_cons (ds_setLc (own := [("alias", 4), ("table", 5)]) (i := 3) rfl rfl (sw_true rfl rfl rfl (by decide +kernel)) (di_tup (d_ix (d_ix (d_var 2) d_int) d_int)) (blkOk_by (own := [("alias", 4), ("table", 5)]) (N := N_inner_tables) (sc := defScope s_inner_tables) (by decide +kernel)) (fun _ _ _ _ _ => dg_tup (n := 2) rfl (dgs_cons (dg_name (i := 4) sc_inner_tables.nd rfl (Or.inl rfl)) (dgs_cons (dg_name (i := 5) sc_inner_tables.nd rfl (Or.inl rfl)) dgs_nil))) (fun _ _ _ _ _ => dts_nil) (fun _ _ _ _ _ => (d_var 5)) sc_inner_tables.nd)
    (dss_one (ds_expr (d_extend (d_var 1) (d_if (t_eq hr (d_ix (d_var 2) d_int) d_str) (d_add (d_var 3) (d_var 3)) (d_var 3)))))))
    (dss_one (ds_ret (d_frz (d_var 1)))))))
theorem dv_shapes_of (T : Tops K mg base) {f_inner_tables : WF} (D_inner_tables : Def P w0 K mg base 3 "inner_tables" s_inner_tables ["question"] f_inner_tables) (f : Addr) (cdv : Value) (A : Around) (outer : List Env) (s : Shared) (H : Hp) (E : XK) (hgd : A.guards = some []) (hr : Room 3 (A.deeper (PyProof.Rows.envOfC "shapes_of" (defScope s_shapes_of) s.heap.objs.size f cdv))) :
  PSs (cxOf CX0 P w0 K mg base N_shapes_of "shapes_of" (defScope s_shapes_of) f cdv A outer s H E).nox (defBody s_shapes_of) (tDS K (w_shapes_of f_inner_tables)) :=
  (dss_pure (dss_cons (ds_setLc (own := [("alias", 2), ("table", 3)]) (i := 1) rfl rfl (sw_true rfl rfl rfl (by decide +kernel)) (di_tup (d_ix (d_ix (d_var 0) d_int) d_int)) (blkOk_by (own := [("alias", 2), ("table", 3)]) (N := N_shapes_of) (sc := defScope s_shapes_of) (by decide +kernel)) (fun _ _ _ _ _ => dg_tup (n := 2) rfl (dgs_cons (dg_name (i := 2) sc_shapes_of.nd rfl (Or.inl rfl)) (dgs_cons (dg_name (i := 3) sc_shapes_of.nd rfl (Or.inl rfl)) dgs_nil))) (fun _ _ _ _ _ => dts_nil) (fun _ _ _ _ _ => (d_var 3)) sc_shapes_of.nd)
    (dss_cons (ds_set (i := 4) sc_shapes_of.nd rfl (Or.inl rfl) (d_lstM da_nil))
    (dss_cons (ds_for (di_tup (d_var 0)) (dg_name (i := 5) sc_shapes_of.nd rfl (Or.inl rfl)) (dss_one (ds_expr (d_extend (d_var 4) (d_f D_inner_tables hgd hr (by decide) (by rfl) (fun _ _ _ _ _ _ us hl => match us, hl with | [_], _ => rfl) (da_cons (d_var 5) da_nil))))))
    (dss_frzv 4 (dss_cons (ds_set (i := 6) sc_shapes_of.nd rfl (Or.inl rfl) (d_lst (da_cons (d_tup da_nil) da_nil)))
    (dss_cons (ds_for (di_list (d_sortSet (by rfl) T.b_sorted (by rfl) T.b_set (d_add (d_var 1) (d_var 4)))) (dg_name (i := 3) sc_shapes_of.nd rfl (Or.inr rfl)) (dss_cons (ds_asg (d_tup (da_cons (d_int1 (by rfl) T.b_int (c_in hr (d_var 3) (d_var 1) (by rfl))) (da_cons (d_add (d_count hr (d_var 1) (d_var 3)) (d_count hr (d_var 4) (d_var 3))) da_nil))) (dg_tup (n := 2) rfl (dgs_cons (dg_name (i := 7) sc_shapes_of.nd rfl (Or.inr rfl)) (dgs_cons (dg_name (i := 8) sc_shapes_of.nd rfl (Or.inr rfl)) dgs_nil))))
    (dss_one (ds_setLc2 (own := [("shape", 9), ("count", 10)]) (i := 6) rfl rfl (sw_true rfl rfl rfl (by decide +kernel)) (vs1 := [10]) (di_list (d_var 6)) (blkOk_by (own := [("shape", 9), ("count", 10)]) (N := N_shapes_of) (sc := defScope s_shapes_of) (by decide +kernel)) (fun _ _ _ _ _ => dg_name (i := 9) sc_shapes_of.nd rfl (Or.inl rfl)) (fun _ _ _ _ _ => dts_nil) (fun _ _ _ _ _ => (di_range2 (by rfl) T.b_range (d_var 7) (d_add (d_var 8) d_int))) (fun _ _ _ _ _ => dg_name (i := 10) sc_shapes_of.nd rfl (Or.inl rfl)) (fun _ _ _ _ _ => dts_nil) (fun _ _ _ _ _ => (d_add (d_var 9) (d_tup (da_cons (d_tup (da_cons (d_var 3) (da_cons (d_var 10) da_nil))) da_nil)))) sc_shapes_of.nd))))
    (dss_one (ds_ret (d_tuple (by rfl) T.b_tuple (d_var 6)))))))))))
theorem dv_law_deck (T : Tops K mg base) (f : Addr) (cdv : Value) (A : Around) (outer : List Env) (s : Shared) (H : Hp) (E : XK) (hgd : A.guards = some []) (hr : Room 0 (A.deeper (PyProof.Rows.envOfC "_law_deck" (defScope s_law_deck) s.heap.objs.size f cdv))) :
  PSs (cxOf CX0 P w0 K mg base N_law_deck "_law_deck" (defScope s_law_deck) f cdv A outer s H E).nox (defBody s_law_deck) (tDS K (w_law_deck)) :=
  (dss_cons (ds_par (i := 1) (j := 2) sc_law_deck.nd rfl rfl (by decide) rfl rfl (da_cons (d_list (by rfl) T.b_list (d_slice (d_var 0) do_none (do_some d_int))) (da_cons d_int da_nil)) (by rfl))
    (dss_cons (ds_for (di_list (d_var 1)) (dg_name (i := 3) sc_law_deck.nd rfl (Or.inl rfl)) (dss_one (ds_set (i := 2) sc_law_deck.nd rfl (Or.inl rfl) (d_mod (d_add (d_add (d_mul (d_var 2) d_int) (d_mod (d_var 3) d_int)) d_int) d_int))))
    (dss_one (ds_ret (d_dctM _ (pps_cons pe_str (d_revM (d_var 1)) (pps_cons pe_str (d_var 2) (pps_cons pe_str d_int pps_nil))))))))
theorem dv_law_draw (T : Tops K mg base) (f : Addr) (cdv : Value) (A : Around) (outer : List Env) (s : Shared) (H : Hp) (E : XK) (hgd : A.guards = some []) (hr : Room 0 (A.deeper (PyProof.Rows.envOfC "_law_draw" (defScope s_law_draw) s.heap.objs.size f cdv))) :
  PSs (cxOf CX0 P w0 K mg base N_law_draw "_law_draw" (defScope s_law_draw) f cdv A outer s H E).nox (defBody s_law_draw) (tDS K (w_law_draw)) :=
  (dss_cons (ds_par (i := 2) (j := 3) sc_law_draw.nd rfl rfl (by decide) rfl rfl (da_cons (d_add (d_dget hr (d_var 0) d_str) d_int) (da_cons (d_dget hr (d_var 0) d_str) da_nil)) (by rfl))
    (dss_cons (ds_dput hr (d_var 0) d_str (d_var 2))
    (dss_cons (ds_if (t_ne hr (d_dget hr (d_var 0) d_str) (d_lst da_nil)) (dss_cons (ds_set (i := 3) sc_law_draw.nd rfl (Or.inl rfl) (d_pop (d_dget hr (d_var 0) d_str)))
    (dss_cons (ds_if (t_ge (d_var 3) (d_pow d_int d_int)) (dss_cons (ds_expr (d_append (d_dget hr (d_var 0) d_str) (d_div (d_var 3) (d_var 1))))
    (dss_one (ds_ret (d_mod (d_var 3) (d_var 1))))) dss_nil)
    (dss_one (ds_set (i := 3) sc_law_draw.nd rfl (Or.inl rfl) (d_add (d_var 3) (d_dget hr (d_var 0) d_str)))))) dss_nil)
    (dss_cons (ds_set (i := 4) sc_law_draw.nd rfl (Or.inl rfl) (d_mod (d_mul (d_add (d_add (d_mod (d_var 3) d_int) (d_mul (d_mul d_int (d_var 2)) (d_var 2))) d_int) d_int) d_int))
    (dss_cons (ds_set (i := 4) sc_law_draw.nd rfl (Or.inl rfl) (d_mod (d_add (d_add (d_mul (d_var 4) (d_var 4)) (d_mul d_int (d_var 2))) d_int) d_int))
    (dss_one (ds_ret (d_mod (d_div (d_mod (d_mul (d_var 4) d_int) d_int) d_int) (d_var 1)))))))))
theorem dv_law_pick (T : Tops K mg base) {f_law_draw : WF} (D_law_draw : Def P w0 K mg base 1 "_law_draw" s_law_draw ["_law_deck_here", "_law_many"] f_law_draw) (f : Addr) (cdv : Value) (A : Around) (outer : List Env) (s : Shared) (H : Hp) (E : XK) (hgd : A.guards = some []) (hr : Room 1 (A.deeper (PyProof.Rows.envOfC "_law_pick" (defScope s_law_pick) s.heap.objs.size f cdv))) :
  PSs (cxOf CX0 P w0 K mg base N_law_pick "_law_pick" (defScope s_law_pick) f cdv A outer s H E).nox (defBody s_law_pick) (tDS K (w_law_pick f_law_draw)) :=
  (dss_one (ds_ret (d_ix (d_var 1) (d_f D_law_draw hgd hr (by decide) (by rfl) (fun _ _ _ _ _ _ us hl => match us, hl with | [_, _], _ => rfl) (da_cons (d_var 0) (da_cons (d_len (by rfl) T.b_len (d_var 1)) da_nil))))))
theorem dv_law_names (T : Tops K mg base) {f_law_draw : WF} (D_law_draw : Def P w0 K mg base 1 "_law_draw" s_law_draw ["_law_deck_here", "_law_many"] f_law_draw) (f : Addr) (cdv : Value) (A : Around) (outer : List Env) (s : Shared) (H : Hp) (E : XK) (hgd : A.guards = some []) (hr : Room 1 (A.deeper (PyProof.Rows.envOfC "_law_names" (defScope s_law_names) s.heap.objs.size f cdv))) :
  PSs (cxOf CX0 P w0 K mg base N_law_names "_law_names" (defScope s_law_names) f cdv A outer s H E).nox (defBody s_law_names) (tDS K (w_law_names f_law_draw)) :=
  (dss_cons (ds_asg (d_tup (da_cons (d_f D_law_draw hgd hr (by decide) (by rfl) (fun _ _ _ _ _ _ us hl => match us, hl with | [_, _], _ => rfl) (da_cons (d_var 0) (da_cons d_int da_nil))) (da_cons (d_f D_law_draw hgd hr (by decide) (by rfl) (fun _ _ _ _ _ _ us hl => match us, hl with | [_, _], _ => rfl) (da_cons (d_var 0) (da_cons d_int da_nil))) da_nil))) (dg_tup (n := 2) rfl (dgs_cons (dg_name (i := 2) sc_law_names.nd rfl (Or.inr rfl)) (dgs_cons (dg_name (i := 3) sc_law_names.nd rfl (Or.inr rfl)) dgs_nil))))
    (dss_cons (ds_set (i := 4) sc_law_names.nd rfl (Or.inr rfl) (d_split d_str d_str))
    (dss_one (ds_ret (d_lcM (own := [("_law_k", 5)]) (di_range1 (by rfl) T.b_range (d_var 1)) (blkOk_by (own := [("_law_k", 5)]) (N := N_law_names) (sc := defScope s_law_names) (by decide +kernel)) (fun _ _ _ _ _ => dg_name (i := 5) sc_law_names.nd rfl (Or.inl rfl)) (fun _ _ _ _ _ => dts_nil) (fun _ _ _ _ _ => (d_ix (d_ix (d_lst (da_cons (d_var 4) (da_cons d_str da_nil))) (d_var 3)) (d_mod (d_add (d_var 2) (d_mul d_int (d_var 5))) d_int))) sc_law_names.nd)))))
theorem dv_law_inners (T : Tops K mg base) {kk lv : Nat} (hlv : 0 ≤ lv) (hkk : kk ≤ lv) {f_law_inners : WF} (D_law_inners : Def P w0 K mg base kk "_law_inners" s_law_inners ["_law_part"] f_law_inners) (f : Addr) (cdv : Value) (A : Around) (outer : List Env) (s : Shared) (H : Hp) (E : XK) (hgd : A.guards = some []) (hr : Room lv (A.deeper (PyProof.Rows.envOfC "_law_inners" (defScope s_law_inners) s.heap.objs.size f cdv))) :
  PSs (cxOf CX0 P w0 K mg base N_law_inners "_law_inners" (defScope s_law_inners) f cdv A outer s H E).nox (defBody s_law_inners) (tDS K (w_law_inners f_law_inners)) :=
  (dss_cons (ds_if (t_in hr (d_ix (d_var 0) d_int) (d_tup (da_cons d_str (da_cons d_str (da_cons d_str da_nil)))) (by rfl)) (dss_one (ds_ret (d_lst (da_cons (d_var 0) da_nil)))) dss_nil)
    (dss_cons (ds_if (t_in hr (d_ix (d_var 0) d_int) (d_tup (da_cons d_str (da_cons d_str da_nil))) (by rfl)) (dss_one (ds_ret (d_lst da_nil))) dss_nil)
    (dss_cons (ds_set (i := 1) sc_law_inners.nd rfl (Or.inl rfl) (d_lst da_nil))
    (dss_cons (ds_for (di_tup (d_slice (d_var 0) (do_some d_int) do_none)) (dg_name (i := 2) sc_law_inners.nd rfl (Or.inl rfl)) (dss_one (ds_set (i := 1) sc_law_inners.nd rfl (Or.inl rfl) (d_add (d_var 1) (d_if (dt_val (d_isi tyTup hf_tup (by rfl) T.b_isinstance (by rfl) T.b_tuple boot_tup (d_var 2))) (d_f D_law_inners hgd hr (by omega) (by rfl) (fun _ _ _ _ _ _ us hl => match us, hl with | [_], _ => rfl) (da_cons (d_var 2) da_nil)) (d_lst da_nil))))))
    (dss_one (ds_ret (d_var 1)))))))
theorem dv_law_shapes (T : Tops K mg base) {f_law_inners : WF} (D_law_inners : Def P w0 K mg base 20 "_law_inners" s_law_inners ["_law_part"] f_law_inners) (f : Addr) (cdv : Value) (A : Around) (outer : List Env) (s : Shared) (H : Hp) (E : XK) (hgd : A.guards = some []) (hr : Room 20 (A.deeper (PyProof.Rows.envOfC "_law_shapes" (defScope s_law_shapes) s.heap.objs.size f cdv))) :
  PSs (cxOf CX0 P w0 K mg base N_law_shapes "_law_shapes" (defScope s_law_shapes) f cdv A outer s H E).nox (defBody s_law_shapes) (tDS K (w_law_shapes f_law_inners)) :=
  (dss_cons (ds_par (i := 2) (j := 3) sc_law_shapes.nd rfl rfl (by decide) rfl rfl (da_cons (d_lc (own := [("_law_alias", 4), ("_law_table", 5)]) (di_tup (d_ix (d_var 0) d_int)) (blkOk_by (own := [("_law_alias", 4), ("_law_table", 5)]) (N := N_law_shapes) (sc := defScope s_law_shapes) (by decide +kernel)) (fun _ _ _ _ _ => dg_tup (n := 2) rfl (dgs_cons (dg_name (i := 4) sc_law_shapes.nd rfl (Or.inl rfl)) (dgs_cons (dg_name (i := 5) sc_law_shapes.nd rfl (Or.inl rfl)) dgs_nil))) (fun _ _ _ _ _ => dts_nil) (fun _ _ _ _ _ => (d_var 5)) sc_law_shapes.nd) (da_cons (d_lst da_nil) da_nil)) (by rfl))
    (dss_cons (ds_for (di_list (d_add (d_lst (da_cons (d_var 0) da_nil)) (d_var 1))) (dg_name (i := 6) sc_law_shapes.nd rfl (Or.inl rfl)) (dss_one (ds_for (di_list (d_add (d_if (t_is (d_ix (d_var 6) d_int) d_non) (d_lst da_nil) (d_lst (da_cons (d_ix (d_var 6) d_int) da_nil))) (d_list (by rfl) T.b_list (d_ix (d_var 6) d_int)))) (dg_name (i := 7) sc_law_shapes.nd rfl (Or.inl rfl)) (dss_one (ds_for (di_list (d_f D_law_inners hgd hr (by decide) (by rfl) (fun _ _ _ _ _ _ us hl => match us, hl with | [_], _ => rfl) (da_cons (d_var 7) da_nil))) (dg_name (i := 8) sc_law_shapes.nd rfl (Or.inl rfl)) (dss_one (ds_set (i := 3) sc_law_shapes.nd rfl (Or.inl rfl) (d_add (d_var 3) (d_mul (d_lc (own := [("_law_alias", 4), ("_law_table", 5)]) (di_tup (d_ix (d_ix (d_var 8) d_int) d_int)) (blkOk_by (own := [("_law_alias", 4), ("_law_table", 5)]) (N := N_law_shapes) (sc := defScope s_law_shapes) (by decide +kernel)) (fun _ _ _ _ _ => dg_tup (n := 2) rfl (dgs_cons (dg_name (i := 4) sc_law_shapes.nd rfl (Or.inl rfl)) (dgs_cons (dg_name (i := 5) sc_law_shapes.nd rfl (Or.inl rfl)) dgs_nil))) (fun _ _ _ _ _ => dts_nil) (fun _ _ _ _ _ => (d_var 5)) sc_law_shapes.nd) (d_add d_int (d_int1 (by rfl) T.b_int (c_eq hr (d_ix (d_var 8) d_int) d_str))))))))))))
    (dss_cons (ds_set (i := 9) sc_law_shapes.nd rfl (Or.inl rfl) (d_lst (da_cons (d_tup da_nil) da_nil)))
    (dss_cons (ds_for (di_list (d_sortSet (by rfl) T.b_sorted (by rfl) T.b_set (d_add (d_var 2) (d_var 3)))) (dg_name (i := 5) sc_law_shapes.nd rfl (Or.inr rfl)) (dss_cons (ds_asg (d_tup (da_cons (d_int1 (by rfl) T.b_int (c_in hr (d_var 5) (d_var 2) (by rfl))) (da_cons (d_lst da_nil) da_nil))) (dg_tup (n := 2) rfl (dgs_cons (dg_name (i := 11) sc_law_shapes.nd rfl (Or.inr rfl)) (dgs_cons (dg_name (i := 12) sc_law_shapes.nd rfl (Or.inl rfl)) dgs_nil))))
    (dss_cons (ds_for (di_list (d_var 9)) (dg_name (i := 10) sc_law_shapes.nd rfl (Or.inr rfl)) (dss_cons (ds_set (i := 13) sc_law_shapes.nd rfl (Or.inl rfl) (d_sub (d_add (d_add (d_count hr (d_var 2) (d_var 5)) (d_count hr (d_var 3) (d_var 5))) d_int) (d_var 11)))
    (dss_one (ds_set (i := 12) sc_law_shapes.nd rfl (Or.inl rfl) (d_add (d_var 12) (d_lc (own := [("_law_k", 14)]) (di_range1 (by rfl) T.b_range (d_var 13)) (blkOk_by (own := [("_law_k", 14)]) (N := N_law_shapes) (sc := defScope s_law_shapes) (by decide +kernel)) (fun _ _ _ _ _ => dg_name (i := 14) sc_law_shapes.nd rfl (Or.inl rfl)) (fun _ _ _ _ _ => dts_nil) (fun _ _ _ _ _ => (d_add (d_var 10) (d_tup (da_cons (d_tup (da_cons (d_var 5) (da_cons (d_add (d_var 11) (d_var 14)) da_nil))) da_nil)))) sc_law_shapes.nd))))))
    (dss_one (ds_set (i := 9) sc_law_shapes.nd rfl (Or.inl rfl) (d_var 12))))))
    (dss_one (ds_ret (d_tuple (by rfl) T.b_tuple (d_var 9))))))))
theorem dv_law_inner_part (T : Tops K mg base) {f_law_pick : WF} (D_law_pick : Def P w0 K mg base 2 "_law_pick" s_law_pick ["_law_deck_here", "_law_some"] f_law_pick) {f_law_draw : WF} (D_law_draw : Def P w0 K mg base 1 "_law_draw" s_law_draw ["_law_deck_here", "_law_many"] f_law_draw) (f : Addr) (cdv : Value) (A : Around) (outer : List Env) (s : Shared) (H : Hp) (E : XK) (hgd : A.guards = some []) (hr : Room 2 (A.deeper (PyProof.Rows.envOfC "_law_inner_part" (defScope s_law_inner_part) s.heap.objs.size f cdv))) :
  PSs (cxOf CX0 P w0 K mg base N_law_inner_part "_law_inner_part" (defScope s_law_inner_part) f cdv A outer s H E).nox (defBody s_law_inner_part) (tDS K (w_law_inner_part f_law_pick f_law_draw)) :=
  (dss_cons (ds_set (i := 4) sc_law_inner_part.nd rfl (Or.inl rfl) (d_tuple (by rfl) T.b_tuple (d_lc (own := [("_law_k", 5)]) (di_range1 (by rfl) T.b_range (d_add d_int (d_f D_law_draw hgd hr (by decide) (by rfl) (fun _ _ _ _ _ _ us hl => match us, hl with | [_, _], _ => rfl) (da_cons (d_var 0) (da_cons d_int da_nil))))) (blkOk_by (own := [("_law_k", 5)]) (N := N_law_inner_part) (sc := defScope s_law_inner_part) (by decide +kernel)) (fun _ _ _ _ _ => dg_name (i := 5) sc_law_inner_part.nd rfl (Or.inl rfl)) (fun _ _ _ _ _ => dts_nil) (fun _ _ _ _ _ => (d_tup (da_cons (d_pop (d_var 2)) (da_cons (d_f D_law_pick hgd hr (by decide) (by rfl) (fun _ _ _ _ _ _ us hl => match us, hl with | [_, _], _ => rfl) (da_cons (d_var 0) (da_cons (d_var 3) da_nil))) da_nil)))) sc_law_inner_part.nd)))
    (dss_cons (ds_set (i := 6) sc_law_inner_part.nd rfl (Or.inl rfl) (d_tup (da_cons (d_var 4) (da_cons (d_tup (da_cons d_str (da_cons (d_tup (da_cons d_str (da_cons (d_ix (d_ix (d_var 4) (d_neg d_int)) d_int) (da_cons d_str da_nil)))) (da_cons (d_tup (da_cons d_str (da_cons (d_ix (d_ix (d_var 1) d_int) d_int) (da_cons d_str da_nil)))) da_nil)))) da_nil))))
    (dss_cons (ds_set (i := 7) sc_law_inner_part.nd rfl (Or.inl rfl) (d_f D_law_pick hgd hr (by decide) (by rfl) (fun _ _ _ _ _ _ us hl => match us, hl with | [_, _], _ => rfl) (da_cons (d_var 0) (da_cons (d_lst (da_cons d_str (da_cons d_str (da_cons d_str da_nil)))) da_nil))))
    (dss_one (ds_ret (d_if (t_eq hr (d_var 7) d_str) (d_tup (da_cons (d_var 7) (da_cons (d_var 6) da_nil))) (d_tup (da_cons (d_var 7) (da_cons (d_var 6) (da_cons (d_tup (da_cons d_str (da_cons (d_tup (da_cons d_str (da_cons (d_ix (d_ix (d_var 4) d_int) d_int) (da_cons d_str da_nil)))) (da_cons d_int da_nil)))) da_nil))))))))))
theorem dv_law_condition (T : Tops K mg base) {f_law_pick : WF} (D_law_pick : Def P w0 K mg base 2 "_law_pick" s_law_pick ["_law_deck_here", "_law_some"] f_law_pick) {f_law_draw : WF} (D_law_draw : Def P w0 K mg base 1 "_law_draw" s_law_draw ["_law_deck_here", "_law_many"] f_law_draw) (f : Addr) (cdv : Value) (A : Around) (outer : List Env) (s : Shared) (H : Hp) (E : XK) (hgd : A.guards = some []) (hr : Room 2 (A.deeper (PyProof.Rows.envOfC "_law_condition" (defScope s_law_condition) s.heap.objs.size f cdv))) :
  PSs (cxOf CX0 P w0 K mg base N_law_condition "_law_condition" (defScope s_law_condition) f cdv A outer s H E).nox (defBody s_law_condition) (tDS K (w_law_condition f_law_pick f_law_draw)) :=
  (dss_cons (ds_set (i := 3) sc_law_condition.nd rfl (Or.inl rfl) (d_tup (da_cons d_str (da_cons (d_tup (da_cons d_str (da_cons (d_ix (d_ix (d_var 1) d_int) d_int) (da_cons d_str da_nil)))) (da_cons (d_tup (da_cons d_str (da_cons d_int da_nil))) da_nil)))))
    (dss_cons (ds_if (t_isnot (d_var 2) d_non) (dss_cons (ds_set (i := 4) sc_law_condition.nd rfl (Or.inl rfl) (d_if (PW.pt (dw_and (t_ne hr (d_ix (d_var 2) d_int) d_str) (dw_and1 (t_eq hr (d_f D_law_draw hgd hr (by decide) (by rfl) (fun _ _ _ _ _ _ us hl => match us, hl with | [_, _], _ => rfl) (da_cons (d_var 0) (da_cons d_int da_nil))) d_int)))) (d_tup (da_cons d_str (da_cons (d_var 2) (da_cons (d_neg d_int) da_nil)))) (d_var 2)))
    (dss_cons (ds_set (i := 5) sc_law_condition.nd rfl (Or.inl rfl) (d_lst (da_cons (d_tup (da_cons d_str (da_cons (d_var 4) (da_cons d_str da_nil)))) (da_cons (d_tup (da_cons d_str (da_cons (d_var 4) (da_cons (d_tup (da_cons d_str (da_cons d_non da_nil))) da_nil)))) (da_cons (d_tup (da_cons d_str (da_cons (d_tup (da_cons d_str (da_cons d_str da_nil))) (da_cons (d_var 4) da_nil)))) da_nil)))))
    (dss_one (ds_set (i := 3) sc_law_condition.nd rfl (Or.inl rfl) (d_if (t_eq hr (d_ix (d_var 2) d_int) d_str) (d_var 2) (d_f D_law_pick hgd hr (by decide) (by rfl) (fun _ _ _ _ _ _ us hl => match us, hl with | [_, _], _ => rfl) (da_cons (d_var 0) (da_cons (d_var 5) da_nil)))))))) dss_nil)
    (dss_cons (ds_for (di_range1 (by rfl) T.b_range (d_f D_law_draw hgd hr (by decide) (by rfl) (fun _ _ _ _ _ _ us hl => match us, hl with | [_, _], _ => rfl) (da_cons (d_var 0) (da_cons d_int da_nil)))) (dg_name (i := 6) sc_law_condition.nd rfl (Or.inl rfl)) (dss_cons (ds_set (i := 7) sc_law_condition.nd rfl (Or.inl rfl) (d_tup (da_cons d_str (da_cons (d_tup (da_cons d_str (da_cons (d_var 6) da_nil))) (da_cons d_str da_nil)))))
    (dss_one (ds_set (i := 3) sc_law_condition.nd rfl (Or.inl rfl) (d_f D_law_pick hgd hr (by decide) (by rfl) (fun _ _ _ _ _ _ us hl => match us, hl with | [_, _], _ => rfl) (da_cons (d_var 0) (da_cons (d_lst (da_cons (d_tup (da_cons d_str (da_cons (d_var 3) da_nil))) (da_cons (d_tup (da_cons d_str (da_cons (d_var 3) (da_cons (d_var 7) da_nil)))) (da_cons (d_tup (da_cons d_str (da_cons (d_var 7) (da_cons (d_var 3) da_nil)))) da_nil)))) da_nil)))))))
    (dss_one (ds_ret (d_var 3))))))
theorem dv_law_drawn (T : Tops K mg base) {f_law_draw : WF} (D_law_draw : Def P w0 K mg base 1 "_law_draw" s_law_draw ["_law_deck_here", "_law_many"] f_law_draw) {f_law_inner_part : WF} (D_law_inner_part : Def P w0 K mg base 3 "_law_inner_part" s_law_inner_part ["_law_deck_here", "_law_refs", "_law_names_here", "_law_tables"] f_law_inner_part) {f_law_condition : WF} (D_law_condition : Def P w0 K mg base 3 "_law_condition" s_law_condition ["_law_deck_here", "_law_refs", "_law_part"] f_law_condition) {f_law_pick : WF} (D_law_pick : Def P w0 K mg base 2 "_law_pick" s_law_pick ["_law_deck_here", "_law_some"] f_law_pick) (f : Addr) (cdv : Value) (A : Around) (outer : List Env) (s : Shared) (H : Hp) (E : XK) (hgd : A.guards = some []) (hr : Room 3 (A.deeper (PyProof.Rows.envOfC "_law_drawn" (defScope s_law_drawn) s.heap.objs.size f cdv))) :
  PSs (cxOf CX0 P w0 K mg base N_law_drawn "_law_drawn" (defScope s_law_drawn) f cdv A outer s H E).nox (defBody s_law_drawn) (tDS K (w_law_drawn f_law_draw f_law_inner_part f_law_condition f_law_pick)) :=
  (dss_cons (ds_par (i := 4) (j := 5) sc_law_drawn.nd rfl rfl (by decide) rfl rfl (da_cons d_non (da_cons (d_tup (da_cons (d_tup (da_cons d_str (da_cons (d_ix (d_ix (d_var 1) d_int) d_int) (da_cons d_str da_nil)))) da_nil)) da_nil)) (by rfl))
    (dss_cons (ds_for (di_range1 (by rfl) T.b_range (d_f D_law_draw hgd hr (by decide) (by rfl) (fun _ _ _ _ _ _ us hl => match us, hl with | [_, _], _ => rfl) (da_cons (d_var 0) (da_cons d_int da_nil)))) (dg_name (i := 6) sc_law_drawn.nd rfl (Or.inl rfl)) (dss_cons (ds_set (i := 7) sc_law_drawn.nd rfl (Or.inl rfl) (d_f D_law_inner_part hgd hr (by decide) (by rfl) (fun _ _ _ _ _ _ us hl => match us, hl with | [_, _, _, _], _ => rfl) (da_cons (d_var 0) (da_cons (d_var 1) (da_cons (d_var 3) (da_cons (d_var 2) da_nil))))))
    (dss_one (ds_if (PW.pt (dw_and (t_ne hr (d_ix (d_var 7) d_int) d_str) (dw_and1 (t_eq hr (d_f D_law_draw hgd hr (by decide) (by rfl) (fun _ _ _ _ _ _ us hl => match us, hl with | [_, _], _ => rfl) (da_cons (d_var 0) (da_cons d_int da_nil))) d_int)))) (dss_one (ds_set (i := 5) sc_law_drawn.nd rfl (Or.inl rfl) (d_add (d_var 5) (d_tup (da_cons (d_var 7) da_nil))))) (dss_one (ds_if (t_is (d_var 4) d_non) (dss_one (ds_set (i := 4) sc_law_drawn.nd rfl (Or.inl rfl) (d_f D_law_condition hgd hr (by decide) (by rfl) (fun _ _ _ _ _ _ us hl => match us, hl with | [_, _, _], _ => rfl) (da_cons (d_var 0) (da_cons (d_var 1) (da_cons (d_var 7) da_nil)))))) (dss_one (ds_if (PW.pt (dw_and (t_eq hr (d_f D_law_draw hgd hr (by decide) (by rfl) (fun _ _ _ _ _ _ us hl => match us, hl with | [_, _], _ => rfl) (da_cons (d_var 0) (da_cons d_int da_nil))) d_int) (dw_and (t_ne hr (d_ix (d_var 7) d_int) d_str) (dw_and1 (t_in hr (d_ix (d_var 4) d_int) (d_tup (da_cons d_str (da_cons d_str (da_cons d_str da_nil)))) (by rfl)))))) (dss_one (ds_set (i := 4) sc_law_drawn.nd rfl (Or.inl rfl) (d_tup (da_cons (d_ix (d_var 4) d_int) (da_cons (d_var 7) (da_cons (d_ix (d_lc (own := [("_law_one", 8)]) (di_tup (d_slice (d_var 4) (do_some d_int) do_none)) (blkOk_by (own := [("_law_one", 8)]) (N := N_law_drawn) (sc := defScope s_law_drawn) (by decide +kernel)) (fun _ _ _ _ _ => dg_name (i := 8) sc_law_drawn.nd rfl (Or.inl rfl)) (fun _ _ _ _ _ => (dts_one (t_in hr (d_ix (d_var 8) d_int) (d_tup (da_cons d_str (da_cons d_str (da_cons d_str da_nil)))) (by rfl)))) (fun _ _ _ _ _ => (d_var 8)) sc_law_drawn.nd) d_int) da_nil)))))) (dss_one (ds_set (i := 4) sc_law_drawn.nd rfl (Or.inl rfl) (d_tup (da_cons d_str (da_cons (d_var 4) (da_cons (d_f D_law_condition hgd hr (by decide) (by rfl) (fun _ _ _ _ _ _ us hl => match us, hl with | [_, _, _], _ => rfl) (da_cons (d_var 0) (da_cons (d_var 1) (da_cons (d_var 7) da_nil)))) da_nil))))))))))))))
    (dss_cons (ds_par (i := 9) (j := 10) sc_law_drawn.nd rfl rfl (by decide) rfl rfl (da_cons (d_f D_law_pick hgd hr (by decide) (by rfl) (fun _ _ _ _ _ _ us hl => match us, hl with | [_, _], _ => rfl) (da_cons (d_var 0) (da_cons (d_lst (da_cons (d_tup da_nil) (da_cons (d_slice (d_var 5) do_none (do_some d_int)) da_nil))) da_nil))) (da_cons (d_f D_law_pick hgd hr (by decide) (by rfl) (fun _ _ _ _ _ _ us hl => match us, hl with | [_, _], _ => rfl) (da_cons (d_var 0) (da_cons (d_lst (da_cons d_non (da_cons d_int (da_cons d_int da_nil)))) da_nil))) da_nil)) (by rfl))
    (dss_one (ds_ret (d_tup (da_cons (d_var 1) (da_cons (d_var 4) (da_cons (d_var 5) (da_cons (d_var 9) (da_cons (d_var 10) da_nil)))))))))))
theorem dv_law_pair (T : Tops K mg base) {f_law_names : WF} (D_law_names : Def P w0 K mg base 2 "_law_names" s_law_names ["_law_deck_here", "_law_many"] f_law_names) {f_law_draw : WF} (D_law_draw : Def P w0 K mg base 1 "_law_draw" s_law_draw ["_law_deck_here", "_law_many"] f_law_draw) {f_law_condition : WF} (D_law_condition : Def P w0 K mg base 3 "_law_condition" s_law_condition ["_law_deck_here", "_law_refs", "_law_part"] f_law_condition) {f_law_pick : WF} (D_law_pick : Def P w0 K mg base 2 "_law_pick" s_law_pick ["_law_deck_here", "_law_some"] f_law_pick) {f_law_drawn : WF} (D_law_drawn : Def P w0 K mg base 4 "_law_drawn" s_law_drawn ["_law_deck_here", "_law_refs", "_law_tables", "_law_names_here"] f_law_drawn) (f : Addr) (cdv : Value) (A : Around) (outer : List Env) (s : Shared) (H : Hp) (E : XK) (hgd : A.guards = some []) (hr : Room 4 (A.deeper (PyProof.Rows.envOfC "_law_pair" (defScope s_law_pair) s.heap.objs.size f cdv))) :
  PSs (cxOf CX0 P w0 K mg base N_law_pair "_law_pair" (defScope s_law_pair) f cdv A outer s H E).nox (defBody s_law_pair) (tDS K (w_law_pair f_law_names f_law_draw f_law_condition f_law_pick f_law_drawn)) :=
  (dss_cons (ds_set (i := 1) sc_law_pair.nd rfl (Or.inr rfl) (d_f D_law_names hgd hr (by decide) (by rfl) (fun _ _ _ _ _ _ us hl => match us, hl with | [_, _], _ => rfl) (da_cons (d_var 0) (da_cons d_int da_nil))))
    (dss_cons (ds_set (i := 2) sc_law_pair.nd rfl (Or.inr rfl) (d_lc (own := [("_law_k", 3)]) (di_range1 (by rfl) T.b_range d_int) (blkOk_by (own := [("_law_k", 3)]) (N := N_law_pair) (sc := defScope s_law_pair) (by decide +kernel)) (fun _ _ _ _ _ => dg_name (i := 3) sc_law_pair.nd rfl (Or.inl rfl)) (fun _ _ _ _ _ => dts_nil) (fun _ _ _ _ _ => (d_pop (d_var 1))) sc_law_pair.nd))
    (dss_cons (ds_set (i := 4) sc_law_pair.nd rfl (Or.inl rfl) (d_add d_int (d_f D_law_draw hgd hr (by decide) (by rfl) (fun _ _ _ _ _ _ us hl => match us, hl with | [_, _], _ => rfl) (da_cons (d_var 0) (da_cons d_int da_nil)))))
    (dss_cons (ds_if (t_eq hr (d_f D_law_draw hgd hr (by decide) (by rfl) (fun _ _ _ _ _ _ us hl => match us, hl with | [_, _], _ => rfl) (da_cons (d_var 0) (da_cons d_int da_nil))) d_int) (dss_cons (ds_set (i := 5) sc_law_pair.nd rfl (Or.inr rfl) (d_tuple (by rfl) T.b_tuple (d_lc (own := [("_law_k", 3)]) (di_range1 (by rfl) T.b_range (d_var 4)) (blkOk_by (own := [("_law_k", 3)]) (N := N_law_pair) (sc := defScope s_law_pair) (by decide +kernel)) (fun _ _ _ _ _ => dg_name (i := 3) sc_law_pair.nd rfl (Or.inl rfl)) (fun _ _ _ _ _ => dts_nil) (fun _ _ _ _ _ => (d_tup (da_cons (d_pop (d_var 1)) (da_cons (d_f D_law_pick hgd hr (by decide) (by rfl) (fun _ _ _ _ _ _ us hl => match us, hl with | [_, _], _ => rfl) (da_cons (d_var 0) (da_cons (d_slice (d_var 2) do_none (do_some d_int)) da_nil))) da_nil)))) sc_law_pair.nd)))
    (dss_one (ds_ret (d_lc (own := [("_law_k", 3)]) (di_range1 (by rfl) T.b_range d_int) (blkOk_by (own := [("_law_k", 3)]) (N := N_law_pair) (sc := defScope s_law_pair) (by decide +kernel)) (fun _ _ _ _ _ => dg_name (i := 3) sc_law_pair.nd rfl (Or.inl rfl)) (fun _ _ _ _ _ => dts_nil) (fun _ _ _ _ _ => (d_tup (da_cons (d_var 5) (da_cons (d_f D_law_condition hgd hr (by decide) (by rfl) (fun _ _ _ _ _ _ us hl => match us, hl with | [_, _, _], _ => rfl) (da_cons (d_var 0) (da_cons (d_var 5) (da_cons d_non da_nil)))) (da_cons (d_tup (da_cons (d_tup (da_cons d_str (da_cons d_int da_nil))) da_nil)) (da_cons (d_tup da_nil) (da_cons d_non da_nil))))))) sc_law_pair.nd)))) dss_nil)
    (dss_cons (ds_set (i := 5) sc_law_pair.nd rfl (Or.inr rfl) (d_tuple (by rfl) T.b_tuple (d_lc (own := [("_law_k", 3)]) (di_range1 (by rfl) T.b_range (d_var 4)) (blkOk_by (own := [("_law_k", 3)]) (N := N_law_pair) (sc := defScope s_law_pair) (by decide +kernel)) (fun _ _ _ _ _ => dg_name (i := 3) sc_law_pair.nd rfl (Or.inl rfl)) (fun _ _ _ _ _ => dts_nil) (fun _ _ _ _ _ => (d_tup (da_cons (d_pop (d_var 1)) (da_cons (d_ix (d_var 2) (d_var 3)) da_nil)))) sc_law_pair.nd)))
    (dss_one (ds_ret (d_lc (own := [("_law_k", 3)]) (di_range1 (by rfl) T.b_range d_int) (blkOk_by (own := [("_law_k", 3)]) (N := N_law_pair) (sc := defScope s_law_pair) (by decide +kernel)) (fun _ _ _ _ _ => dg_name (i := 3) sc_law_pair.nd rfl (Or.inl rfl)) (fun _ _ _ _ _ => dts_nil) (fun _ _ _ _ _ => (d_f D_law_drawn hgd hr (by decide) (by rfl) (fun _ _ _ _ _ _ us hl => match us, hl with | [_, _, _, _], _ => rfl) (da_cons (d_var 0) (da_cons (d_var 5) (da_cons (d_slice (d_var 2) (do_some d_int) do_none) (da_cons (d_listM (by rfl) T.b_list (d_var 1)) da_nil)))))) sc_law_pair.nd))))))))
theorem dv_law_main (T : Tops K mg base) {f_law_deck : WF} (D_law_deck : Def P w0 K mg base 1 "_law_deck" s_law_deck ["_law_script"] f_law_deck) {f_law_pair : WF} (D_law_pair : Def P w0 K mg base 5 "_law_pair" s_law_pair ["_law_deck_here"] f_law_pair) {f_law_shapes : WF} (D_law_shapes : Def P w0 K mg base 21 "_law_shapes" s_law_shapes ["_law_asked", "_law_more"] f_law_shapes) {f_shapes_of : WF} (D_shapes_of : DefS P w0 K mg base 4 "shapes_of" s_shapes_of f_shapes_of) (f : Addr) (cdv : Value) (A : Around) (outer : List Env) (s : Shared) (H : Hp) (E : XK) (hgd : A.guards = some []) (hr : Room 21 (A.deeper (PyProof.Rows.envOfC "law" (defScope s_law_main) s.heap.objs.size f cdv))) :
  PSs (cxOf CX0 P w0 K mg base N_law_main "law" (defScope s_law_main) f cdv A outer s H E).nox (defBody s_law_main) (tDS K (w_law_main f_law_deck f_law_pair f_law_shapes f_shapes_of)) :=
  (dss_cons (ds_set (i := 1) sc_law_main.nd rfl (Or.inl rfl) (d_f D_law_deck hgd hr (by decide) (by rfl) (fun _ _ _ _ _ _ us hl => match us, hl with | [_], _ => rfl) (da_cons (d_var 0) da_nil)))
    (dss_cons (ds_for (di_range1 (by rfl) T.b_range d_int) (dg_name (i := 2) sc_law_main.nd rfl (Or.inl rfl)) (dss_cons (ds_asg (d_f D_law_pair hgd hr (by decide) (by rfl) (fun _ _ _ _ _ _ us hl => match us, hl with | [_], _ => rfl) (da_cons (d_var 1) da_nil)) (dg_lst (n := 2) rfl (dgs_cons (dg_name (i := 4) sc_law_main.nd rfl (Or.inl rfl)) (dgs_cons (dg_name (i := 5) sc_law_main.nd rfl (Or.inl rfl)) dgs_nil))))
    (dss_cons (ds_if (PW.pt (dw_or (t_ne hr (d_repr hgd hr T.sm (by rfl) T.b_repr (d_fS D_shapes_of hgd hr (by decide) (by rfl) (da_cons (d_var 4) da_nil))) (d_repr hgd hr T.sm (by rfl) T.b_repr (d_f D_law_shapes hgd hr (by decide) (by rfl) (fun _ _ _ _ _ _ us hl => match us, hl with | [_, _], _ => rfl) (da_cons (d_var 4) (da_cons (d_lst da_nil) da_nil))))) (dw_or1 (t_ne hr (d_repr hgd hr T.sm (by rfl) T.b_repr (d_fS D_shapes_of hgd hr (by decide) (by rfl) (da_cons (d_var 5) da_nil))) (d_repr hgd hr T.sm (by rfl) T.b_repr (d_f D_law_shapes hgd hr (by decide) (by rfl) (fun _ _ _ _ _ _ us hl => match us, hl with | [_, _], _ => rfl) (da_cons (d_var 5) (da_cons (d_lst da_nil) da_nil)))))))) (dss_one (ds_ret d_bl)) dss_nil)
    (dss_cons (ds_set (i := 3) sc_law_main.nd rfl (Or.inl rfl) (d_repr hgd hr T.sm (by rfl) T.b_repr (d_f D_law_shapes hgd hr (by decide) (by rfl) (fun _ _ _ _ _ _ us hl => match us, hl with | [_, _], _ => rfl) (da_cons (d_var 4) (da_cons (d_lst (da_cons (d_var 5) da_nil)) da_nil)))))
    (dss_cons (ds_if (PW.pt (dw_or (t_ne hr (d_repr hgd hr T.sm (by rfl) T.b_repr (d_fS D_shapes_of hgd hr (by decide) (by rfl) (da_cons (d_var 4) (da_cons (d_var 5) da_nil)))) (d_var 3)) (dw_or1 (t_ne hr (d_repr hgd hr T.sm (by rfl) T.b_repr (d_fS D_shapes_of hgd hr (by decide) (by rfl) (da_cons (d_var 5) (da_cons (d_var 4) da_nil)))) (d_var 3))))) (dss_one (ds_ret d_bl)) dss_nil)
    (dss_cons (ds_if (t_ne hr (d_repr hgd hr T.sm (by rfl) T.b_repr (d_fS D_shapes_of hgd hr (by decide) (by rfl) (da_cons (d_var 4) (da_cons (d_var 4) da_nil)))) (d_repr hgd hr T.sm (by rfl) T.b_repr (d_f D_law_shapes hgd hr (by decide) (by rfl) (fun _ _ _ _ _ _ us hl => match us, hl with | [_, _], _ => rfl) (da_cons (d_var 4) (da_cons (d_lst (da_cons (d_var 4) da_nil)) da_nil))))) (dss_one (ds_ret d_bl)) dss_nil)
    (dss_one (ds_if (t_ne hr (d_repr hgd hr T.sm (by rfl) T.b_repr (d_fS D_shapes_of hgd hr (by decide) (by rfl) (da_cons (d_var 4) (da_cons (d_var 4) (da_cons (d_var 5) da_nil))))) (d_repr hgd hr T.sm (by rfl) T.b_repr (d_f D_law_shapes hgd hr (by decide) (by rfl) (fun _ _ _ _ _ _ us hl => match us, hl with | [_, _], _ => rfl) (da_cons (d_var 4) (da_cons (d_lst (da_cons (d_var 4) (da_cons (d_var 5) da_nil))) da_nil))))) (dss_one (ds_ret d_bl)) dss_nil))))))))
    (dss_one (ds_ret d_bl))))
end
end K55

set_option Elab.async false
set_option linter.all false
set_option maxRecDepth 100000
set_option maxHeartbeats 1000000
/-! K55p: inner questions of parts. -/
namespace K55
open PySem L2 Dz Qz

def isIn (d : DV) : Bool := match d with
  | .tup (.str w :: _) => inF (.str w) [.str "exists", .str "only", .str "first"]
  | _ => false
def innF : Nat → DV → List DV
  | 0, _ => []
  | n + 1, d => if isIn d then [d] else (downs d).flatMap fun p => innF n p.2
theorem flat_same {α β : Type} {f g : α → List β} : ∀ {l : List α}, (∀ x ∈ l, f x = g x) → l.flatMap f = l.flatMap g
  | [], _ => rfl
  | x :: l, h => by
    rw [List.flatMap_cons, List.flatMap_cons, h x List.mem_cons_self, flat_same fun y hy => h y (List.mem_cons_of_mem _ hy)]
theorem innF_le : ∀ {n m : Nat} {d : DV}, Part n d → n ≤ m → innF m d = innF n d
  | 0, _, _, h, _ => by obtain ⟨k, e, _⟩ := h.inv; cases e
  | n + 1, 0, _, _, l => absurd l (Nat.not_succ_le_zero n)
  | n + 1, m + 1, d, h, l => by
    obtain ⟨k, e, _, r⟩ := h.inv
    cases e
    show (if isIn d then _ else _) = (if isIn d then _ else _)
    rw [flat_same fun p hp => innF_le (r p hp) (Nat.le_of_succ_le_succ l)]
def innD (d : DV) : List DV := innF 15 d
theorem innD_eq {n : Nat} {d : DV} (h : Part n d) (hn : n ≤ 14) : innD d = if isIn d then [d] else (downs d).flatMap fun p => innD p.2 := by
  obtain ⟨k, rfl, _, r⟩ := h.inv
  unfold innD
  show (if isIn d then _ else _) = (if isIn d then _ else _)
  rw [flat_same fun p hp => (innF_le (m := 14) (r p hp) (by omega)).trans (innF_le (m := 15) (r p hp) (by omega)).symm]
theorem allF_lenl : ∀ (n : Nat) (d : DV) (l r : List Nat), (allF n d l).length = (allF n d r).length
  | 0, _, _, _ => rfl
  | n + 1, d, l, r => by
    show ((l, d) :: _).length = ((r, d) :: _).length
    rw [List.length_cons, List.length_cons, List.length_flatMap, List.length_flatMap]
    congr 2
    refine List.map_congr_left fun p _ => allF_lenl n p.2 _ _
/-- how many parts -/
def many (d : DV) : Nat := (allD d []).length
def manyL (l : List DV) : Nat := (l.map many).sum
theorem many_eq {n : Nat} {d : DV} (h : Part n d) (hn : n ≤ 14) : many d = 1 + manyL ((downs d).map (·.2)) := by
  unfold many manyL
  rw [allD_eq h hn, List.length_cons, List.length_flatMap, List.map_map]
  have : (downs d).map (fun p => (allD p.2 ([] ++ p.1)).length) = (downs d).map (many ∘ (·.2)) := List.map_congr_left fun p _ => allF_lenl 15 p.2 _ _
  rw [this]
  show _ + 1 = 1 + _
  omega
theorem manyL_append (l m : List DV) : manyL (l ++ m) = manyL l + manyL m := by
  unfold manyL
  rw [List.map_append, List.sum_append]
/-! ### inner questions as they are drawn -/
structure GIn (T : List Str) (d : DV) : Prop where
  ex : ∃ (w : Str) (own rest : List DV) (c : DV), d = .tup (.str w :: .tup [.tup own, c] :: rest) ∧ (w = "exists" ∨ w = "only" ∨ w = "first") ∧ 0 < own.length ∧ own.length ≤ 2 ∧ ∀ r ∈ own, ∃ a t : Str, r = .tup [.str a, .str t] ∧ t ∈ T ∧ plainS t = true ∧ t.length ≤ 8
  inn : isIn d = true
  sub : ∀ p ∈ downs d, innD p.2 = []
  part : Part 4 d
/-- the tables of an inner question, twice for only -/
def tabOf (r : DV) : Str := match r with | .tup [_, .str t] => t | _ => ⟨#[]⟩
def tabs1 (d : DV) : List Str := match d with | .tup (.str _ :: .tup [.tup own, _] :: _) => own.map tabOf | _ => []
def isOnly (d : DV) : Bool := match d with | .tup (.str w :: _) => decide (w = "only") | _ => false
def tabsO (d : DV) : List Str := if isOnly d then tabs1 d ++ tabs1 d else tabs1 d
/-- what follows the term of a sum, or of a kind asked for, is no tuple -/
def isTupD (d : DV) : Bool := match d with | .tup _ => true | _ => false
def isThing (d : DV) : Bool := match d with | .fix _ => false | .obj _ => false | _ => true
def ntok (d : DV) : Bool := match d with
  | .tup [.str w, _, y] => if w = "plus" ∨ w = "is" then !isTupD y && isThing y else true
  | _ => true
def ntF : Nat → DV → Bool
  | 0, _ => true
  | n + 1, d => ntok d && (downs d).all fun p => ntF n p.2
theorem nt_mk {d : DV} {l : List (List Nat × DV)} (b : Below d l) (h : ntok d = true) (hl : ∀ p ∈ l, ∀ n, ntF n p.2 = true) : ∀ n, ntF n d = true
  | 0 => rfl
  | n + 1 => by
    show (ntok d && (downs d).all fun p => ntF n p.2) = true
    rw [h, b.fn, Bool.true_and, List.all_eq_true]
    exact fun p hp => hl p hp n
theorem nt_downs {d : DV} (h : ∀ n, ntF n d = true) : ntok d = true ∧ ∀ p ∈ downs d, ∀ n, ntF n p.2 = true := by
  refine ⟨?_, fun p hp n => ?_⟩
  · have := h 1
    have : (ntok d && _) = true := this
    exact (Bool.and_eq_true_iff.mp this).1
  · have : (ntok d && (downs d).all fun p => ntF n p.2) = true := h (n + 1)
    exact List.all_eq_true.mp (Bool.and_eq_true_iff.mp this).2 p hp
/-- what is asked of a part -/
structure POk (T : List Str) (d : DV) : Prop where
  part : Part 12 d
  siz : Siz 60000 40 d
  nd : noDct d = true
  inn : ∀ x ∈ innD d, GIn T x
  nt : ∀ n, ntF n d = true
theorem POk.downs {T : List Str} {d : DV} (h : POk T d) : ∀ p ∈ downs d, POk T p.2 := fun p hp => by
  obtain ⟨m, e, b, r⟩ := h.part.inv
  obtain ⟨_, _, hat⟩ := b.props.2 p hp
  have pp := r p hp
  refine ⟨pp.le (by omega), siz_at _ h.siz hat, nd_at _ h.nd hat, fun x hx => ?_, (nt_downs h.nt).2 p hp⟩
  have he := innD_eq h.part (by decide)
  by_cases hi : isIn d = true
  · rw [hi, if_pos rfl] at he
    have hg := h.inn d (by rw [he]; exact List.mem_singleton.mpr rfl)
    rw [hg.sub p hp] at hx
    cases hx
  · rw [if_neg hi] at he
    refine h.inn x ?_
    rw [he]
    exact List.mem_flatMap.mpr ⟨p, hp, hx⟩
def POks (T : List Str) (l : List DV) : Prop := ∀ d ∈ l, POk T d
theorem POks.shaped {T : List Str} {l : List DV} (h : POks T l) : shapedD (.lst l) = true := shaped_all (p := 40) (fun d hd => ⟨⟨_, (h d hd).siz⟩, (h d hd).nd⟩) (by decide)
/-! ### the program's defs -/
def wfSub : WF := fun ds μ Q => ∃ d, ds = [d] ∧ Below d (downs d) ∧ Q (.tup ((downs d).map (·.2))) μ
theorem mat_o {w : WE} {cs : List (List Str × WS)} {E : DEnds} {ρ : Rho} {μ : Mh} {z : Str} (hw : ∀ P : DV → Mh → Prop, P (.str z) μ → w ρ μ P) (k : mW z cs E ρ μ) : wMatch w cs E ρ μ := hw _ k
theorem mW_hit {z : Str} {cs : List Str} {b : WS} {r : List (List Str × WS)} {E : DEnds} {ρ : Rho} {μ : Mh} (h : cs.contains z = true) (k : b E ρ μ) : mW z ((cs, b) :: r) E ρ μ := by
  show (if cs.contains z = true then b E ρ μ else mW z r E ρ μ)
  rw [if_pos h]
  exact k
theorem mW_miss {z : Str} {cs : List Str} {b : WS} {r : List (List Str × WS)} {E : DEnds} {ρ : Rho} {μ : Mh} (h : cs.contains z = false) (k : mW z r E ρ μ) : mW z ((cs, b) :: r) E ρ μ := by
  show (if cs.contains z = true then b E ρ μ else mW z r E ρ μ)
  rw [if_neg (by rw [h]; exact Bool.false_ne_true)]
  exact k
theorem p_sub_parts (ds : List DV) (μ : Mh) (Q : DV → Mh → Prop) (hl : ds.length = 1) (h : wfSub ds μ Q) :
    w_sub_parts { nx := fun _ μ' => Q .none μ', rt := Q } (ds.map some ++ List.replicate 0 none) μ := by
  obtain ⟨d, rfl, b, q⟩ := h
  obtain ⟨w, r, rfl⟩ := b.head
  have hw : ∀ P : DV → Mh → Prop, P (.str w) μ → wBin wIx (wVar 0) (wC (.int 0)) [some (.tup (.str w :: r))] μ P := fun P hP => by
    show atW (atI (DV.str w :: r) 0) _
    rw [atI_zero]
    exact hP
  refine mat_o hw ?_
  have s2 : ∀ {n : Nat}, n ≤ 1000 → n ≤ sizeLine := fun h => sl (by omega)
  have tl : ∀ (w : Str) (r : List DV), Q (.tup r) μ → Q (.tup (cutD (.str w :: r) (some 1) none)) μ := fun w r q => by
    rw [show cutD (DV.str w :: r) (some 1) none = r from cut_from (ds := DV.str w :: r) 1]
    exact q
  generalize downs (.tup (.str w :: r)) = l at b q
  cases b with
  | col => exact mW_hit (by decide +kernel) ⟨s2 (Nat.zero_le _), q⟩
  | val => exact mW_hit (by decide +kernel) ⟨s2 (Nat.zero_le _), q⟩
  | b1 h => rcases h with rfl | rfl <;> exact mW_miss (by decide +kernel) (mW_hit (by decide +kernel) ⟨s2 (Nat.le_of_ble_eq_true rfl), q⟩)
  | no => exact mW_miss (by decide +kernel) (mW_hit (by decide +kernel) ⟨s2 (Nat.le_of_ble_eq_true rfl), q⟩)
  | b2 => exact mW_miss (by decide +kernel) (mW_miss (by decide +kernel) (mW_hit (by decide +kernel) ⟨s2 (Nat.le_of_ble_eq_true rfl), q⟩))
  | b3 h => rcases h with rfl | rfl <;> exact mW_miss (by decide +kernel) (mW_miss (by decide +kernel) (mW_miss (by decide +kernel) (mW_hit (by decide +kernel) ⟨s2 (Nat.le_of_ble_eq_true rfl), q⟩)))
  | b4 h => rcases h with rfl | rfl | rfl | rfl | rfl <;> exact mW_miss (by decide +kernel) (mW_miss (by decide +kernel) (mW_miss (by decide +kernel) (mW_miss (by decide +kernel) (tl _ _ q))))
end K55

set_option Elab.async false
set_option linter.all false
set_option maxRecDepth 100000
set_option maxHeartbeats 2000000
/-! K55q: the program's defs: parts with inner questions, their tables, shapes. -/
namespace K55
open PySem L2 Dz Qz

abbrev quest (refs : List DV) (wh : DV) (heard : List DV) (order lim : DV) : DV := .tup [.tup refs, wh, .tup heard, order, lim]
/-- where, if there is one -/
def wl (wh : DV) : List DV := if isNone wh then [] else [wh]
structure QOk (T : List Str) (refs : List DV) (wh : DV) (heard : List DV) : Prop where
  hw : wh = .none ∨ POk T wh
  hs : POks T heard
  hlen : heard.length ≤ 4
  two : (((wl wh) ++ heard).flatMap innD).length ≤ 2
theorem innD_le {T : List Str} {d : DV} (h : POk T d) : (innD d).length ≤ many d := by
  have : ∀ (n : Nat) (d : DV) (l : List Nat), (innF n d).length ≤ (allF n d l).length := by
    intro n
    induction n with
    | zero => intro d l; exact Nat.zero_le _
    | succ n ih =>
      intro d l
      show (if isIn d then [d] else (downs d).flatMap fun p => innF n p.2).length ≤ ((l, d) :: (downs d).flatMap fun p => allF n p.2 (l ++ p.1)).length
      rw [List.length_cons]
      split
      · rw [List.length_singleton]; omega
      · have : ∀ ps : List (List Nat × DV), (ps.flatMap fun p => innF n p.2).length ≤ (ps.flatMap fun p => allF n p.2 (l ++ p.1)).length := by
          intro ps
          induction ps with
          | nil => exact Nat.le_refl _
          | cons p ps ihp =>
            rw [List.flatMap_cons, List.flatMap_cons, List.length_append, List.length_append]
            have := ih p.2 (l ++ p.1)
            omega
        have := this (downs d)
        omega
  exact this 15 d []
theorem many_le {T : List Str} {d : DV} (h : POk T d) : many d + 1 ≤ 4096 := allD_len (lead := []) h.part (by decide)
theorem manyL_le {T : List Str} : ∀ {l : List DV}, POks T l → manyL l ≤ 4096 * l.length
  | [], _ => Nat.zero_le _
  | d :: l, h => by
    have h1 := many_le (h d List.mem_cons_self)
    have h2 := manyL_le (l := l) fun x hx => h x (List.mem_cons_of_mem _ hx)
    unfold manyL at h2 ⊢
    rw [List.map_cons, List.sum_cons, List.length_cons]
    omega
theorem extT_o {ρ : Rho} {μ : Mh} {i : Nat} {p : Addr} {zs ys : List DV} {we : WE} {E : DEnds} (hv : ρ[i]? = some (some (.obj p))) (h : μ p = some (.lst zs)) (hw : ∀ P : DV → Mh → Prop, P (.tup ys) μ → we ρ μ P) (l : zs.length + ys.length ≤ sizeLine) (k : E.nx ρ (updM μ p (.lst (zs ++ ys)))) : wDrop (wExtT (wVar i) we) E ρ μ := by
  show (match ρ[i]? with | some (some d) => isLstM d μ ∧ we ρ μ fun y μ2 => _ | _ => False)
  rw [hv]
  refine ⟨?_, hw _ ?_⟩
  · show (match μ p with | some (.lst _) => True | _ => False)
    rw [h]
    trivial
  · show (match μ p with | some (.lst ds) => _ | _ => False)
    rw [h]
    exact ⟨l, k⟩
theorem pop_snocD {μ : Mh} {p : Addr} {l : List DV} {e : DV} {P : DV → Mh → Prop} (h : μ p = some (.lst (l ++ [e]))) (q : P e (updM μ p (.lst l))) : wPop (.obj p) μ P := by
  refine pop_o h (y := e) ?_ ?_
  · rw [List.length_append, List.length_singleton, Nat.add_sub_cancel, List.getElem?_append_right (Nat.le_refl _), Nat.sub_self]
    rfl
  · rw [List.dropLast_concat]
    exact q
def wfInnP : WF := fun ds μ Q => ∃ T refs wh heard order lim, ds = [quest refs wh heard order lim] ∧ QOk T refs wh heard ∧ ∀ l : List DV, l.Perm (((wl wh) ++ heard).flatMap innD) → Q (.lst l) μ
theorem p_inner_parts (ds : List DV) (μ : Mh) (Q : DV → Mh → Prop) (hl : ds.length = 1) (h : wfInnP ds μ Q) :
    w_inner_parts wfSub { nx := fun _ μ' => Q .none μ', rt := Q } (ds.map some ++ List.replicate 3 none) μ := by
  obtain ⟨T, refs, wh, heard, order, lim, rfl, hq, q⟩ := h
  have NE := @neL_empty
  have PO := @pop_snocD
  have IN := @in_tup
  have h4 := hq.hlen
  have h2 := hq.two
  unfold w_inner_parts
  generalize wNeL = g1 at NE ⊢
  generalize wPop = g2 at PO ⊢
  generalize wIn = g3 at IN ⊢
  intro pw hw
  -- behind where
  have rest : ∀ (l : List DV) (μ1 : Mh), POks T l → l.length ≤ 5 → (l.flatMap innD).Perm (((wl wh) ++ heard).flatMap innD) → μ1 pw = some (.lst l) → NewOf μ μ1 →
      (wSeq (wAsg (wLstM wNil) (wgName 2))
    (wSeq (wWhile (wTest (wBin g1 (wVar 1) (wLst wNil))) (wSeq (wAsg (wUn g2 (wVar 1)) (wgName 3))
    (wSeq (wIfS (wTest (wBin g3 (wBin wIx (wVar 3) (wC (.int 0))) (wC (.tup [(.str "exists"), (.str "only"), (.str "first")])))) (wDrop (wApp (wVar 2) (wVar 3))) wNext)
    (wDrop (wExtT (wVar 1) (wCall 1 wfSub (wCons (wVar 3) wNil)))))))
    (wRet (wFrz (wVar 2))))) { nx := fun ρ' μ' => NewOf μ μ' ∧ Q .none μ, rt := fun d μ' => NewOf μ μ' ∧ Q d μ } [some (quest refs wh heard order lim), some (.obj pw), none, none] μ1 := by
    intro l μ1 hpl hl5 hperm e1 nw
    refine ⟨sl (Nat.zero_le _), fun pf hf => ?_⟩
    have pwf : pf ≠ pw := fun e => by rw [e, e1] at hf; cases hf
    have hf0 : μ pf = none := nw.none hf
    have hML := manyL_le hpl
    let Wi : Nat → Rho → Mh → Prop := fun m ρ μ' => ∃ (acc stk : List DV) (z3 : Option DV), ρ = [some (quest refs wh heard order lim), some (.obj pw), some (.obj pf), z3] ∧ μ' pf = some (.lst acc) ∧ μ' pw = some (.lst stk) ∧ NewOf μ μ' ∧ POks T stk ∧ stk.length + manyL stk ≤ 50000 ∧ (acc ++ stk.flatMap innD).Perm (((wl wh) ++ heard).flatMap innD) ∧ m = manyL stk
    refine ⟨Wi, ⟨_, [], l, none, rfl, updM_same, ?_, nw.lst hf0, hpl, ?_, hperm, rfl⟩, ?_⟩
    · rw [updM_ne fun z => pwf z.symm]
      exact e1
    · omega
    · rintro m ρ μ2 ⟨acc, stk, z3, rfl, e2, e3, nw2, pl, hsz, hpm, rfl⟩
      have hacc : acc.length ≤ 2 := by
        have := hpm.length_eq
        rw [List.length_append] at this
        omega
      refine ⟨sl (Nat.zero_le _), NE e3 pl.shaped ?_⟩
      rcases snoc_of stk with rfl | ⟨init, e, rfl⟩
      · have hq2 : Q (.lst acc) μ := q acc (by simpa using hpm)
        exact frz_o (i := 2) (ρ := [some (quest refs wh heard order lim), some (.obj pw), some (.obj pf), z3]) (P := fun d' μ' => NewOf μ μ' ∧ Q d' μ) rfl e2 ⟨nw2.del hf0, hq2⟩
      · have hemp : (!(init ++ [e]).isEmpty) = true := by cases init <;> rfl
        rw [hemp]
        have pe := pl e (List.mem_append_right _ List.mem_cons_self)
        obtain ⟨k, ek, b, hr⟩ := pe.part.inv
        have hme := many_eq pe.part (by decide)
        have hie := innD_eq pe.part (by decide)
        have hb2 := b.props.1
        have hw0 : μ pw = none := by
          rcases nw2 pw with z | ⟨z, _⟩
          · exfalso
            have := nw pw
            rw [hw] at this
            rw [z, hw] at e3
            cases e3
          · exact z
        obtain ⟨w, r, her⟩ := pe.part.head
        have hm1 : manyL (init ++ [e]) = manyL init + many e := by
          rw [manyL_append]
          unfold manyL
          simp
        have hm2 : manyL (init ++ (downs e).map (·.2)) = manyL init + manyL ((downs e).map (·.2)) := manyL_append _ _
        rw [hm1, List.length_append, List.length_singleton] at hsz
        refine PO e3 ?_
        have hix : ∀ P : DV → Mh → Prop, ∀ μ, P (.str w) μ → wIx e (.int 0) μ P := fun P μ hP => by
          subst her
          show atW (atI (DV.str w :: r) 0) _
          rw [atI_zero]
          exact hP
        show wIx e (.int 0) _ _
        refine hix _ _ ?_
        refine IN _ rfl rfl ?_
        have hjo : isIn e = inF (.str w) [.str "exists", .str "only", .str "first"] := by rw [her]; rfl
        rw [← hjo]
        -- the parts below
        have fin : ∀ (acc' : List DV) (μ3 : Mh), μ3 pf = some (.lst acc') → μ3 pw = some (.lst init) → NewOf μ μ3 → (acc' ++ (init ++ (downs e).map (·.2)).flatMap innD).Perm (((wl wh) ++ heard).flatMap innD) →
            wDrop (wExtT (wVar 1) (wCall 1 wfSub (wCons (wVar 3) wNil))) { nx := fun ρ' μ' => ∃ m', m' < manyL (init ++ [e]) ∧ Wi m' ρ' μ', rt := fun d μ' => NewOf μ μ' ∧ Q d μ, bk := wRet (wFrz (wVar 2)) { nx := fun ρ' μ' => NewOf μ μ' ∧ Q .none μ, rt := fun d μ' => NewOf μ μ' ∧ Q d μ }, ct := fun ρ' μ' => ∃ m', m' < manyL (init ++ [e]) ∧ Wi m' ρ' μ' } [some (quest refs wh heard order lim), some (.obj pw), some (.obj pf), some e] μ3 := by
          intro acc' μ3 f1 f2 f3 f4
          refine extT_o (zs := init) (ys := (downs e).map (·.2)) rfl f2 (fun P hP => ⟨rfl, e, rfl, b, hP⟩) ?_ ?_
          · rw [List.length_map]
            exact sl (by omega)
          · refine ⟨_, ?_, acc', init ++ (downs e).map (·.2), _, rfl, ?_, updM_same, f3.lst hw0, ?_, ?_, f4, rfl⟩
            · rw [hm1, hm2]
              omega
            · rw [updM_ne pwf]
              exact f1
            · intro x hx
              rcases List.mem_append.mp hx with hx | hx
              · exact pl x (List.mem_append_left _ hx)
              · rw [List.mem_map] at hx
                obtain ⟨p, hp, rfl⟩ := hx
                exact pe.downs p hp
            · rw [hm2, List.length_append, List.length_map]
              have h3 : (downs e).length ≤ manyL ((downs e).map (·.2)) := by
                have : ∀ l : List (List Nat × DV), (∀ p ∈ l, Part k p.2) → l.length ≤ manyL (l.map (·.2)) := by
                  intro l
                  induction l with
                  | nil => exact fun _ => Nat.le_refl _
                  | cons p l ih =>
                    intro hl
                    have h1 := ih fun q hq => hl q (List.mem_cons_of_mem _ hq)
                    have h2 := many_eq (hl p List.mem_cons_self) (by omega)
                    unfold manyL at h1 ⊢
                    rw [List.map_cons, List.map_cons, List.sum_cons, List.length_cons]
                    omega
                exact this _ hr
              omega
        have hsplit : (init ++ (downs e).map (·.2)).flatMap innD = init.flatMap innD ++ (downs e).flatMap fun p => innD p.2 := by
          rw [List.flatMap_append, List.flatMap_map]
        have hold : (init ++ [e]).flatMap innD = init.flatMap innD ++ innD e := by
          rw [List.flatMap_append, List.flatMap_cons, List.flatMap_nil, List.append_nil]
        rw [hold] at hpm
        cases hi : isIn e with
        | false =>
          rw [hi, if_neg Bool.false_ne_true] at hie
          refine fin acc _ (by rw [updM_ne pwf]; exact e2) updM_same (nw2.lst hw0) ?_
          rw [hsplit, ← hie]
          exact hpm
        | true =>
          rw [hi, if_pos rfl] at hie
          have hg := pe.inn e (by rw [hie]; exact List.mem_singleton.mpr rfl)
          have hnil : ((downs e).flatMap fun p => innD p.2) = [] := by
            rw [List.flatMap_eq_nil_iff]
            exact hg.sub
          refine app_o (i := 2) (t := e) rfl (show updM μ2 pw (.lst init) pf = some (.lst acc) by rw [updM_ne pwf]; exact e2) (fun P hP => hP) (Nat.lt_of_lt_of_le (show acc.length < 1000 by omega) (sl (by decide))) ?_
          refine fin (acc ++ [e]) _ updM_same (by rw [updM_ne (fun z => pwf z.symm), updM_same]) ((nw2.lst hw0).lst hf0) ?_
          rw [hsplit, hnil, List.append_nil]
          refine List.Perm.trans ?_ hpm
          rw [hie, List.append_assoc]
          exact (List.perm_append_comm).append_left acc
  rcases hq.hw with rfl | hp
  · exact rest heard _ hq.hs (by omega) (List.Perm.refl _) updM_same (NewOf.refl.lst hw)
  · obtain ⟨w, r, hwh⟩ := hp.part.head
    subst hwh
    show wDrop (wApp (wVar 1) (wBin wIx (wVar 0) (wC (.int 1)))) _ [some (quest refs (.tup (.str w :: r)) heard order lim), some (.obj pw), none, none] _
    refine app_o (i := 1) (t := .tup (.str w :: r)) rfl updM_same (fun P hP => hP) (Nat.lt_of_lt_of_le (show heard.length < 1000 by omega) (sl (by decide))) ?_
    refine rest (heard ++ [.tup (.str w :: r)]) _ (fun x hx => ?_) (by rw [List.length_append, List.length_singleton]; omega) ?_ updM_same ((NewOf.refl.lst hw).lst hw)
    · rcases List.mem_append.mp hx with hx | hx
      · exact hq.hs x hx
      · rw [List.mem_singleton] at hx
        rw [hx]
        exact hp
    · show ((heard ++ [DV.tup (.str w :: r)]).flatMap innD).Perm (([DV.tup (.str w :: r)] ++ heard).flatMap innD)
      rw [List.flatMap_append, List.flatMap_append]
      exact List.perm_append_comm
end K55

set_option Elab.async false
set_option linter.all false
set_option maxRecDepth 100000
set_option maxHeartbeats 2000000
/-! K55r: tables of inner questions; shapes. -/
namespace K55
open PySem L2 Dz Qz

theorem ext_oW {ρ : Rho} {μ : Mh} {i : Nat} {p : Addr} {zs ys : List DV} {we : WE} {E : DEnds} (hv : ρ[i]? = some (some (.obj p))) (h : μ p = some (.lst zs)) (hw : ∀ P : DV → Mh → Prop, P (.lst ys) μ → we ρ μ P) (l : zs.length + ys.length ≤ sizeLine) (k : E.nx ρ (updM μ p (.lst (zs ++ ys)))) : wDrop (wExt (wVar i) we) E ρ μ := ext_o hv h hw l k
def innL (wh : DV) (heard : List DV) : List DV := ((wl wh) ++ heard).flatMap innD
theorem QOk.gin {T : List Str} {refs heard : List DV} {wh : DV} (h : QOk T refs wh heard) : ∀ x ∈ innL wh heard, GIn T x := fun x hx => by
  unfold innL at hx
  rw [List.mem_flatMap] at hx
  obtain ⟨d, hd, hx⟩ := hx
  rcases List.mem_append.mp hd with hd | hd
  · unfold wl at hd
    rcases h.hw with rfl | hp
    · cases hd
    · split at hd
      · cases hd
      · rw [List.mem_singleton] at hd
        subst hd
        exact hp.inn x hx
  · exact (h.hs d hd).inn x hx
theorem GIn.tabs {T : List Str} {d : DV} (h : GIn T d) : (tabs1 d).length ≤ 2 ∧ (tabsO d).length ≤ 4 ∧ ∀ t ∈ tabsO d, t ∈ T ∧ plainS t = true ∧ t.length ≤ 8 := by
  obtain ⟨w, own, rest, c, rfl, hw, o0, o2, ho⟩ := h.ex
  have h1 : (tabs1 (.tup (.str w :: .tup [.tup own, c] :: rest))).length ≤ 2 := by
    show (own.map _).length ≤ 2
    rw [List.length_map]
    exact o2
  have hm : ∀ t ∈ tabs1 (.tup (.str w :: .tup [.tup own, c] :: rest)), t ∈ T ∧ plainS t = true ∧ t.length ≤ 8 := fun t ht => by
    have ht : t ∈ own.map tabOf := ht
    rw [List.mem_map] at ht
    obtain ⟨r, hr, rfl⟩ := ht
    obtain ⟨a, t, rfl, h1, h2, h3⟩ := ho r hr
    exact ⟨h1, h2, h3⟩
  refine ⟨h1, ?_, fun t ht => ?_⟩
  · unfold tabsO
    split
    · rw [List.length_append]; omega
    · omega
  · unfold tabsO at ht
    split at ht
    · rcases List.mem_append.mp ht with ht | ht <;> exact hm t ht
    · exact hm t ht
/-- [table for alias, table in own] -/
theorem tabs_comp {own : List DV} {ρ : Rho} {μ : Mh} {i j : Nat} (ho : ∀ r ∈ own, ∃ a t : Str, r = .tup [.str a, .str t]) (hl : own.length ≤ 1000) (hij : i ≠ j) (hj : j < ρ.length) (P : List DV → Mh → Prop)
    (hP : P ((own.map tabOf).map .str) μ) : compW (wgTup 2 (wgCons (wgName i) (wgCons (wgName j) wgNil))) wYes (wVar j) ρ own [] μ P := by
  refine comp_pure (fun _ => true) (fun r => DV.str (tabOf r)) own [] _ (fun x hx acc P hacc hP => ?_) (by rw [List.length_nil]; exact sl (by omega)) (by rw [List.filter_eq_self.mpr fun _ _ => rfl, List.nil_append]; rw [List.map_map] at hP; exact hP)
  obtain ⟨a, t, rfl⟩ := ho x hx
  refine ⟨rfl, rfl, ?_⟩
  show (match ((ρ.set i (some (.str a))).set j (some (.str t)))[j]? with | some (some d) => _ | _ => False)
  rw [List.getElem?_set_self (by rw [List.length_set]; exact hj)]
  exact ⟨hacc, hP⟩
def wfInnT : WF := fun ds μ Q => ∃ T refs wh heard order lim, ds = [quest refs wh heard order lim] ∧ QOk T refs wh heard ∧ ∀ l : List Str, l.Perm ((innL wh heard).flatMap tabsO) → Q (.lst (l.map .str)) μ
theorem p_inner_tables (ds : List DV) (μ : Mh) (Q : DV → Mh → Prop) (hl : ds.length = 1) (h : wfInnT ds μ Q) :
    w_inner_tables wfInnP { nx := fun _ μ' => Q .none μ', rt := Q } (ds.map some ++ List.replicate 5 none) μ := by
  obtain ⟨T, refs, wh, heard, order, lim, rfl, hq, q⟩ := h
  have EQ := @Qz.eq_str
  unfold w_inner_tables
  generalize wEqL = g1 at EQ ⊢
  refine ⟨sl (Nat.zero_le _), fun pf hf => ⟨rfl, T, refs, wh, heard, order, lim, rfl, hq, fun l pm => ?_⟩⟩
  have hgl : ∀ x ∈ l, GIn T x := fun x hx => hq.gin x (pm.mem_iff.mp hx)
  have hll : l.length ≤ 2 := by rw [pm.length_eq]; exact hq.two
  have go : ∀ (rest done : List DV) (μ1 : Mh) (z2 z3 : Option DV), done ++ rest = l → μ1 pf = some (.lst ((done.flatMap tabsO).map .str)) → NewOf μ μ1 →
      forW (wgName 2) (wSeq (wAsg (wLc (sTup (wBin wIx (wBin wIx (wVar 2) (wC (.int 1))) (wC (.int 0)))) (wgTup 2 (wgCons (wgName 4) (wgCons (wgName 5) wgNil))) wYes (wVar 5) [4, 5]) (wgName 3))
    (wDrop (wExt (wVar 1) (wIf (wTest (wBin g1 (wBin wIx (wVar 2) (wC (.int 0))) (wC (.str "only")))) (wBin wAdd (wVar 3) (wVar 3)) (wVar 3)))))
      { nx := wRet (wFrz (wVar 1)) { nx := fun ρ' μ' => NewOf μ μ' ∧ Q .none μ, rt := fun d μ' => NewOf μ μ' ∧ Q d μ }, rt := fun d μ' => NewOf μ μ' ∧ Q d μ } rest [some (quest refs wh heard order lim), some (.obj pf), z2, z3, none, none] μ1 := by
    intro rest
    induction rest with
    | nil =>
      intro done μ1 z2 z3 hd e1 nw
      rw [List.append_nil] at hd
      subst hd
      exact frz_o (i := 1) (ρ := [some (quest refs wh heard order lim), some (.obj pf), z2, z3, none, none]) (P := fun d' μ' => NewOf μ μ' ∧ Q d' μ) rfl e1 ⟨nw.del hf, q _ (pm.flatMap_right tabsO)⟩
    | cons x rest ih =>
      intro done μ1 z2 z3 hd e1 nw
      have hg := hgl x (by rw [← hd]; exact List.mem_append_right _ List.mem_cons_self)
      have ht := hg.tabs
      obtain ⟨w, own, rs, c, rfl, hw, o0, o2, ho⟩ := hg.ex
      have hdl : (done.flatMap tabsO).length ≤ 4 * done.length := by
        have : ∀ ds : List DV, (∀ x ∈ ds, x ∈ l) → (ds.flatMap tabsO).length ≤ 4 * ds.length := by
          intro ds
          induction ds with
          | nil => exact fun _ => Nat.le_refl _
          | cons d ds ihd =>
            intro hm
            rw [List.flatMap_cons, List.length_append, List.length_cons]
            have h1 := (hgl d (hm d List.mem_cons_self)).tabs.2.1
            have h2 := ihd fun y hy => hm y (List.mem_cons_of_mem _ hy)
            omega
        exact this done fun y hy => by rw [← hd]; exact List.mem_append_left _ hy
      have hdd : done.length ≤ 2 := by
        have := congrArg List.length hd
        rw [List.length_append] at this
        omega
      have e10 : atI (DV.str w :: .tup [.tup own, c] :: rs) 1 = some (.tup [.tup own, c]) := atI_of (i := 1) rfl
      show atW (atI (DV.str w :: .tup [.tup own, c] :: rs) 1) _
      rw [e10]
      refine tabs_comp (i := 4) (j := 5) (fun r hr => let ⟨a, t, e, _⟩ := ho r hr; ⟨a, t, e⟩) (by omega) (by decide) (by show 5 < 6; decide) _ ?_
      let x : DV := .tup (.str w :: .tup [.tup own, c] :: rs)
      have ht : (tabs1 x).length ≤ 2 ∧ (tabsO x).length ≤ 4 ∧ ∀ t ∈ tabsO x, t ∈ T ∧ plainS t = true ∧ t.length ≤ 8 := ht
      have hwi : ∀ P : DV → Mh → Prop, P (.lst ((tabsO x).map .str)) μ1 → (wIf (wTest (wBin g1 (wBin wIx (wVar 2) (wC (.int 0))) (wC (.str "only")))) (wBin wAdd (wVar 3) (wVar 3)) (wVar 3)) [some (quest refs wh heard order lim), some (.obj pf), some x, some (.lst ((tabs1 x).map .str)), none, none] μ1 P := fun P hP => by
        show atW (atI (DV.str w :: .tup [.tup own, c] :: rs) 0) _
        rw [atI_zero]
        have e : tabsO x = if isOnly x then tabs1 x ++ tabs1 x else tabs1 x := rfl
        cases hb : decide (w = "only") with
        | true =>
          rw [e, show isOnly x = true from hb, if_pos rfl, List.map_append] at hP
          refine EQ true hb ⟨?_, hP⟩
          rw [List.length_map]
          have := ht.1
          exact sl (by omega)
        | false =>
          rw [e, show isOnly x = false from hb, if_neg Bool.false_ne_true] at hP
          exact EQ false hb hP
      show wDrop (wExt (wVar 1) _) _ [some (quest refs wh heard order lim), some (.obj pf), some x, some (.lst ((tabs1 x).map .str)), none, none] μ1
      refine ext_o (zs := (done.flatMap tabsO).map .str) (ys := (tabsO x).map .str) rfl e1 hwi ?_ ?_
      · rw [List.length_map, List.length_map]
        have := ht.2.1
        exact sl (by omega)
      · refine ih (done ++ [x]) _ _ _ (by rw [List.append_assoc]; exact hd) ?_ (nw.lst hf)
        rw [updM_same, List.flatMap_append, List.map_append]
        show _ = some (MO.lst (_ ++ List.map DV.str (tabsO x ++ [])))
        rw [List.append_nil]
  exact go l [] _ none none rfl updM_same (NewOf.refl.lst hf)
end K55

set_option Elab.async false
set_option linter.all false
set_option maxRecDepth 100000
set_option maxHeartbeats 2000000
/-! K55s: shapes. -/
namespace K55
open PySem L2 Dz Qz

def entry (t : Str) (c : Int) : DV := .tup [.str t, .int c]
/-- the least number and how many numbers -/
def lst (outer : List Str) (t : Str) : Nat := if t ∈ outer then 1 else 0
def mny (outer inner : List Str) (t : Str) : Nat := outer.count t + inner.count t + 1 - lst outer t
def stepS (l m : Nat) (t : Str) (S : List (List DV)) : List (List DV) := S.flatMap fun s => (List.range m).map fun k => s ++ [entry t ((l : Int) + (k : Nat))]
def shapesF (outer inner : List Str) : List Str → List (List DV) → List (List DV)
  | [], S => S
  | t :: ts, S => shapesF outer inner ts (stepS (lst outer t) (mny outer inner t) t S)
theorem stepS_len (l m : Nat) (t : Str) : ∀ S : List (List DV), (stepS l m t S).length = S.length * m
  | [] => by simp [stepS]
  | s :: S => by
    have := stepS_len l m t S
    unfold stepS at this ⊢
    rw [List.flatMap_cons, List.length_append, this, List.length_map, List.length_range, List.length_cons, Nat.succ_mul]
    omega
/-- few tables have more than one number -/
structure Few (A B : Str) (outer inner : List Str) : Prop where
  ol : outer.length ≤ 4
  il : inner.length ≤ 24
  one : ∀ t, t ≠ A → t ≠ B → mny outer inner t ≤ 1
  mem : ∀ t ∈ inner, t = A ∨ t = B
  pl : ∀ t, t ∈ outer ∨ t ∈ inner → plainS t = true ∧ t.length ≤ 8
theorem Few.many {A B : Str} {outer inner : List Str} (h : Few A B outer inner) (t : Str) : mny outer inner t ≤ 29 := by
  unfold mny
  have h1 : outer.count t ≤ outer.length := List.count_le_length
  have h2 : inner.count t ≤ inner.length := List.count_le_length
  have := h.ol
  have := h.il
  omega
theorem Few.perm {A B : Str} {outer inner inner' : List Str} (h : Few A B outer inner) (p : inner'.Perm inner) : Few A B outer inner' := by
  refine ⟨h.ol, by rw [p.length_eq]; exact h.il, fun t h1 h2 => ?_, fun t ht => h.mem t (p.mem_iff.mp ht), fun t ht => h.pl t (ht.imp id p.mem_iff.mp)⟩
  unfold mny
  rw [p.count_eq]
  exact h.one t h1 h2
theorem mny_perm {outer inner inner' : List Str} (p : inner'.Perm inner) (t : Str) : mny outer inner' t = mny outer inner t := by
  unfold mny
  rw [p.count_eq]
theorem shapesF_perm {outer inner inner' : List Str} (p : inner'.Perm inner) : ∀ (ts : List Str) (S : List (List DV)), shapesF outer inner' ts S = shapesF outer inner ts S
  | [], _ => rfl
  | t :: ts, S => by
    show shapesF outer inner' ts (stepS (lst outer t) (mny outer inner' t) t S) = shapesF outer inner ts (stepS (lst outer t) (mny outer inner t) t S)
    rw [mny_perm p, shapesF_perm p]
/-- how many shapes there are -/
def pw (A B : Str) (ts : List Str) : Nat := 29 ^ (ts.countP fun t => decide (t = A) || decide (t = B))
theorem step_bound {A B : Str} {outer inner : List Str} (h : Few A B outer inner) (t : Str) (ts : List Str) (S : List (List DV)) {N : Nat} (hs : S.length * pw A B (t :: ts) ≤ N) : (stepS (lst outer t) (mny outer inner t) t S).length * pw A B ts ≤ N := by
  rw [stepS_len]
  refine Nat.le_trans ?_ hs
  unfold pw
  rw [List.countP_cons]
  rw [Nat.mul_assoc]
  refine Nat.mul_le_mul_left _ ?_
  by_cases hc : (decide (t = A) || decide (t = B)) = true
  · rw [if_pos hc, Nat.pow_succ, Nat.mul_comm]
    exact Nat.mul_le_mul_left _ (h.many t)
  · rw [if_neg hc]
    have ha : t ≠ A := fun e => hc (by rw [decide_eq_true e]; rfl)
    have hb : t ≠ B := fun e => hc (by rw [decide_eq_true e, Bool.or_true])
    have := h.one t ha hb
    calc mny outer inner t * _ ≤ 1 * _ := Nat.mul_le_mul_right _ this
      _ = _ := by rw [Nat.one_mul, Nat.add_zero]
theorem pw_pos (A B : Str) (ts : List Str) : 1 ≤ pw A B ts := Nat.one_le_pow _ _ (by decide)
theorem count_one {α : Type} [DecidableEq α] {a : α} : ∀ {l : List α}, l.Nodup → l.count a ≤ 1
  | [], _ => Nat.zero_le _
  | b :: l, h => by
    have h' := List.nodup_cons.mp h
    rw [List.count_cons]
    by_cases e : b = a
    · subst e
      have : l.count b = 0 := List.count_eq_zero.mpr h'.1
      rw [this]
      split <;> omega
    · have := count_one (a := a) h'.2
      rw [if_neg (by simpa using e)]
      omega
theorem pw_le {A B : Str} {ts : List Str} (h : ts.Nodup) : pw A B ts ≤ 841 := by
  have h2 : ∀ l : List Str, (l.countP fun t => decide (t = A) || decide (t = B)) ≤ l.count A + l.count B := by
    intro l
    induction l with
    | nil => exact Nat.le_refl _
    | cons t l ih =>
      rw [List.countP_cons, List.count_cons, List.count_cons]
      by_cases ha : t = A
      · subst ha
        simp
        omega
      · by_cases hb : t = B
        · subst hb
          simp [ha]
          omega
        · simp [ha, hb]
          omega
  have h3 := h2 ts
  have h4 := count_one (a := A) h
  have h5 := count_one (a := B) h
  unfold pw
  exact Nat.le_trans (Nat.pow_le_pow_right (by decide) (show _ ≤ 2 by omega)) (by decide)
/-- lists without doubles within a list are no longer -/
theorem nodup_sub {α : Type} [DecidableEq α] : ∀ {l m : List α}, l.Nodup → (∀ x ∈ l, x ∈ m) → l.length ≤ m.length
  | [], _, _, _ => Nat.zero_le _
  | a :: l, m, h, hs => by
    have h' := List.nodup_cons.mp h
    have ha := hs a List.mem_cons_self
    have := nodup_sub (m := m.erase a) h'.2 fun x hx => (List.mem_erase_of_ne (fun e => by subst e; exact h'.1 hx)).mpr (hs x (List.mem_cons_of_mem _ hx))
    rw [List.length_erase_of_mem ha] at this
    have : 0 < m.length := List.length_pos_of_mem ha
    rw [List.length_cons]
    omega
/-- what the shapes are like -/
def ShOk (n : Nat) (S : List (List DV)) : Prop := ∀ s ∈ S, s.length = n ∧ ∀ e ∈ s, ∃ t c, e = entry t c ∧ plainS t = true ∧ t.length ≤ 8 ∧ 0 ≤ c ∧ c ≤ 1000
theorem ShOk.step {n l m : Nat} {t : Str} {S : List (List DV)} (h : ShOk n S) (pt : plainS t = true) (lt : t.length ≤ 8) (hlm : l + m ≤ 1000) : ShOk (n + 1) (stepS l m t S) := fun s hs => by
  unfold stepS at hs
  rw [List.mem_flatMap] at hs
  obtain ⟨s0, h0, hs⟩ := hs
  rw [List.mem_map] at hs
  obtain ⟨k, hk, rfl⟩ := hs
  rw [List.mem_range] at hk
  obtain ⟨h1, h2⟩ := h s0 h0
  refine ⟨by rw [List.length_append, List.length_singleton, h1], fun e he => ?_⟩
  rcases List.mem_append.mp he with he | he
  · exact h2 e he
  · rw [List.mem_singleton] at he
    exact ⟨t, _, he, pt, lt, by omega, by omega⟩
theorem ShOk.siz {n : Nat} {S : List (List DV)} (h : ShOk n S) : Siz (S.length * (n * 11 + 1)) 3 (.tup (S.map .tup)) := by
  have hs : ∀ d ∈ S.map DV.tup, Siz (n * 11) 2 d := fun d hd => by
    rw [List.mem_map] at hd
    obtain ⟨s, hs, rfl⟩ := hd
    obtain ⟨h1, h2⟩ := h s hs
    have := Sizs.all (N := 10) (p := 1) (ds := s) (fun e he => by
      obtain ⟨t, c, rfl, pt, lt, c0, c1⟩ := h2 e he
      exact (Siz.tup (Sizs.cons ((Siz.str pt).le lt (Nat.le_refl 0)) (Sizs.cons (Siz.int (i := c) (by omega)) nilS))).le (by omega) (by omega))
    exact (Siz.tup this).le (by rw [h1]; exact Nat.le_refl _) (by omega)
  refine (Siz.tup (Sizs.all hs)).le ?_ (by omega)
  rw [List.length_map]
  exact Nat.le_refl _
/-- the answer -/
def shapesD (outer inner ys : List Str) : DV := .tup ((shapesF outer inner ys [[]]).map .tup)
theorem shapesF_ok {A B : Str} {outer inner : List Str} (h : Few A B outer inner) : ∀ (ts : List Str) (n : Nat) (S : List (List DV)), (∀ t ∈ ts, plainS t = true ∧ t.length ≤ 8) → ShOk n S → ∀ N, S.length * pw A B ts ≤ N → ShOk (n + ts.length) (shapesF outer inner ts S) ∧ (shapesF outer inner ts S).length ≤ N
  | [], n, S, _, hs, N, hN => ⟨hs, by
      have : pw A B [] = 1 := rfl
      rw [this, Nat.mul_one] at hN
      exact hN⟩
  | t :: ts, n, S, hp, hs, N, hN => by
    obtain ⟨pt, lt⟩ := hp t List.mem_cons_self
    have hm := h.many t
    have hl : lst outer t ≤ 1 := by unfold lst; split <;> omega
    have := shapesF_ok h ts (n + 1) (stepS (lst outer t) (mny outer inner t) t S) (fun u hu => hp u (List.mem_cons_of_mem _ hu)) (hs.step pt lt (by omega)) N (step_bound h t ts S hN)
    rw [List.length_cons, show n + (ts.length + 1) = n + 1 + ts.length by omega]
    exact this
theorem shapes_shows {A B : Str} {outer inner ys : List Str} (h : Few A B outer inner) (d : Distinct ys (outer ++ inner)) : Shows (shapesD outer inner ys) := by
  have hy : ys.length ≤ 6 := by
    have := nodup_sub (m := outer ++ [A, B]) d.nd (fun x hx => by
      have := (d.mem x).mp hx
      rcases List.mem_append.mp this with h1 | h1
      · exact List.mem_append_left _ h1
      · refine List.mem_append_right _ ?_
        rcases h.mem x h1 with rfl | rfl
        · exact List.mem_cons_self
        · exact List.mem_cons_of_mem _ List.mem_cons_self)
    rw [List.length_append] at this
    have h4 := h.ol
    have : ([A, B] : List Str).length = 2 := rfl
    omega
  obtain ⟨h1, h2⟩ := shapesF_ok h ys 0 [[]] (fun t ht => h.pl t (List.mem_append.mp ((d.mem t).mp ht))) (fun s hs => by
    rw [List.mem_singleton] at hs
    subst hs
    exact ⟨rfl, fun e he => by cases he⟩) 841 (by
    show 1 * _ ≤ 841
    rw [Nat.one_mul]
    exact pw_le d.nd)
  refine h1.siz.shows ?_ (by decide)
  have : (shapesF outer inner ys [[]]).length * ((0 + ys.length) * 11 + 1) ≤ 841 * (6 * 11 + 1) := Nat.mul_le_mul h2 (by omega)
  exact Nat.le_trans this (by decide)
end K55

set_option Elab.async false
set_option linter.all false
set_option maxRecDepth 100000
set_option maxHeartbeats 2000000
/-! K55t: the program's shapes. -/
namespace K55
open PySem L2 Dz Qz PyProof.Rows

theorem shaped_plain {l : List Str} (h : ∀ t ∈ l, plainS t = true ∧ t.length ≤ 8) : shapedD (.lst (l.map .str)) = true := shaped_all (p := 1) (fun d hd => by
  rw [List.mem_map] at hd
  obtain ⟨t, ht, rfl⟩ := hd
  exact ⟨⟨_, (Siz.str (h t ht).1).le (Nat.le_refl _) (Nat.zero_le 1)⟩, rfl⟩) (by decide)
theorem shaped_str {t : Str} (h : plainS t = true) : shapedD (.str t) = true := ((Siz.str h).le (Nat.le_refl _) (Nat.zero_le 1)).shaped (by decide) rfl
theorem count_str (l : List Str) (t : Str) : ((l.map DV.str).countP fun z => deepEq z (.str t)) = l.count t := by
  rw [List.countP_map]
  rfl
theorem count_o {ρ : Rho} {μ : Mh} {i j : Nat} {l : List Str} {t : Str} {P : DV → Mh → Prop} (h1 : ρ[i]? = some (some (.lst (l.map .str)))) (h2 : ρ[j]? = some (some (.str t))) (hl : ∀ t ∈ l, plainS t = true ∧ t.length ≤ 8) (ht : plainS t = true) (k : P (.int (l.count t : Nat)) μ) : wCount (wVar i) (wVar j) ρ μ P := by
  show (match ρ[i]? with | some (some d) => _ | _ => False)
  rw [h1]
  show (match ρ[j]? with | some (some d) => _ | _ => False)
  rw [h2]
  refine ⟨shaped_plain hl, shaped_str ht, ?_⟩
  rw [count_str]
  exact k
theorem ext_a {ρ : Rho} {μ : Mh} {i : Nat} {p : Addr} {zs : List DV} {we : WE} {E : DEnds} {G : List DV → Prop} (hv : ρ[i]? = some (some (.obj p))) (h : μ p = some (.lst zs)) (hw : ∀ P : DV → Mh → Prop, (∀ ys, G ys → P (.lst ys) μ) → we ρ μ P) (k : ∀ ys, G ys → zs.length + ys.length ≤ sizeLine ∧ E.nx ρ (updM μ p (.lst (zs ++ ys)))) : wDrop (wExt (wVar i) we) E ρ μ := by
  show (match ρ[i]? with | some (some d) => isLstM d μ ∧ we ρ μ fun y μ2 => _ | _ => False)
  rw [hv]
  refine ⟨?_, hw _ fun ys g => ?_⟩
  · show (match μ p with | some (.lst _) => True | _ => False)
    rw [h]
    trivial
  · show (match μ p with | some (.lst ds) => _ | _ => False)
    rw [h]
    exact k ys g
theorem rng_map (l m : Nat) : rngD (l : Int) m = (List.range m).map fun k => DV.int ((l : Int) + (k : Nat)) := rfl
/-- [shape + ((table, count),) for shape in shapes for count in range(least, most + 1)] -/
theorem step_comp {a0 a1 a2 a4 a5 a6 : Option DV} {t : Str} {l m : Nat} {μ : Mh} {n : Nat} (hm : m + 1 - l ≤ 1000) (hlm : l ≤ m + 1) (hl1 : m ≤ 1000) (hn : n ≤ 1000) : ∀ (S : List (List DV)) (acc : List DV) (P : List DV → Mh → Prop), (∀ s ∈ S, s.length ≤ n) → acc.length + S.length * (m + 1 - l) ≤ 100000 → P (acc ++ (stepS l (m + 1 - l) t S).map .tup) μ →
    compW2 (wgName 9) wYes (sRng2 (wVar 7) (wBin wAdd (wVar 8) (wC (.int 1)))) (wgName 10) wYes (wBin wAdd (wVar 9) (wTup (wCons (wTup (wCons (wVar 3) (wCons (wVar 10) wNil))) wNil))) [10]
      [a0, a1, a2, some (.str t), a4, a5, a6, some (.int (l : Nat)), some (.int (m : Nat)), none, none] (S.map .tup) acc μ P
  | [], acc, P, _, _, h => by
    have e : acc ++ (stepS l (m + 1 - l) t []).map DV.tup = acc := List.append_nil _
    rw [e] at h
    exact h
  | s :: S, acc, P, hs, hl, h => by
    rw [List.length_cons, Nat.succ_mul] at hl
    have hsl := hs s List.mem_cons_self
    refine ⟨⟨by omega, by omega, by omega, by omega⟩, ?_⟩
    have e1 : ((m : Int) + 1 - (l : Int)).toNat = m + 1 - l := by omega
    rw [e1, rng_map]
    refine comp_pure (fun _ => true) (fun k => DV.tup (s ++ [.tup [.str t, k]])) _ acc _ (fun x hx acc P hacc hP => ?_) ?_ ?_
    · exact ⟨sl (Nat.le_of_ble_eq_true rfl), sl (Nat.le_of_ble_eq_true rfl), sl (show s.length + 1 ≤ _ by omega), hacc, hP⟩
    · rw [List.length_map, List.length_range]
      exact sl (by omega)
    · rw [List.filter_eq_self.mpr fun _ _ => rfl, List.map_map]
      refine step_comp hm hlm hl1 hn S _ P (fun s hs' => hs s (List.mem_cons_of_mem _ hs')) ?_ ?_
      · rw [List.length_append, List.length_map, List.length_range]
        omega
      · have e2 : stepS l (m + 1 - l) t (s :: S) = ((List.range (m + 1 - l)).map fun k => s ++ [entry t ((l : Int) + (k : Nat))]) ++ stepS l (m + 1 - l) t S := rfl
        rw [e2, List.map_append, ← List.append_assoc, List.map_map] at h
        exact h
theorem at_o {o : Option DV} {x : DV} {P : DV → Prop} (h : o = some x) (k : P x) : atW o P := by
  rw [h]
  exact k
/-- what is asked of questions whose shapes are asked for -/
structure QsOk (T : List Str) (A B : Str) (refs : List DV) (qs : List (DV × List DV × DV × DV)) : Prop where
  some : 0 < qs.length
  few : qs.length ≤ 3
  rs : ∀ r ∈ refs, ∃ a t : Str, r = .tup [.str a, .str t]
  ok : ∀ q ∈ qs, QOk T refs q.1 q.2.1
  few4 : Few A B (refs.map tabOf) (qs.flatMap fun q => (innL q.1 q.2.1).flatMap tabsO)
abbrev questD (refs : List DV) (q : DV × List DV × DV × DV) : DV := quest refs q.1 q.2.1 q.2.2.1 q.2.2.2
def inners (qs : List (DV × List DV × DV × DV)) : List Str := qs.flatMap fun q => (innL q.1 q.2.1).flatMap tabsO
def wfShapes : WF := fun ds μ Q => ∃ T A B refs qs, ds = qs.map (questD refs) ∧ QsOk T A B refs qs ∧ ∀ ys, Distinct ys (refs.map tabOf ++ inners qs) → Q (shapesD (refs.map tabOf) (inners qs) ys) μ
theorem few_shapes (ds : List DV) (μ : Mh) (Q : DV → Mh → Prop) (h : wfShapes ds μ Q) : 0 ≤ ds.length ∧ ds.length ≤ 1000 := by
  obtain ⟨T, A, B, refs, qs, rfl, ok, q⟩ := h
  rw [List.length_map]
  have := ok.few
  omega
abbrev sBodyW (g : W2) : WS := (wSeq (wAsg (wTup (wCons (wB wInt1 (wCons (wBin g (wVar 3) (wVar 1)) wNil)) (wCons (wBin wAdd (wCount (wVar 1) (wVar 3)) (wCount (wVar 4) (wVar 3))) wNil))) (wgTup 2 (wgCons (wgName 7) (wgCons (wgName 8) wgNil))))
    (wAsg (wLc2 (sLst (wVar 6)) (wgName 9) wYes (sRng2 (wVar 7) (wBin wAdd (wVar 8) (wC (.int 1)))) (wgName 10) wYes (wBin wAdd (wVar 9) (wTup (wCons (wTup (wCons (wVar 3) (wCons (wVar 10) wNil))) wNil))) [9, 10] [10]) (wgName 6)))
abbrev sEndW (g : W2) : WS := (wFrzV 4 (wSeq (wAsg (wLst (wCons (wTup wNil) wNil)) (wgName 6))
    (wSeq (wFor (sLst (wSortSet (wBin wAdd (wVar 1) (wVar 4)))) (wgName 3) (sBodyW g))
    (wRet (wB wTuple (wCons (wVar 6) wNil))))))
abbrev sBody : WS := sBodyW wIn
abbrev sEnd : WS := sEndW wIn
theorem p_shapes_of (ds rs : List DV) (μ : Mh) (Q : DV → Mh → Prop) (hl : ds.length = 0) (h : wfShapes (ds ++ rs) μ Q) :
    w_shapes_of wfInnT { nx := fun _ μ' => Q .none μ', rt := Q } ((ds ++ [DV.tup rs]).map some ++ List.replicate 10 none) μ := by
  have hd : ds = [] := List.eq_nil_of_length_eq_zero hl
  subst hd
  obtain ⟨T, A, B, refs, qs, e, ok, q⟩ := h
  have e : rs = qs.map (questD refs) := e
  subst e
  have hq3 := ok.few
  have fw := ok.few4
  have hol : refs.length ≤ 4 := by
    have := fw.ol
    rwa [List.length_map] at this
  have IN := @in_lst
  unfold w_shapes_of
  generalize wIn = g3 at IN ⊢
  obtain ⟨q0, qr, eq⟩ : ∃ q0 qr, qs = q0 :: qr := by
    cases qs with
    | nil => exact absurd ok.some (Nat.lt_irrefl _)
    | cons q0 qr => exact ⟨q0, qr, rfl⟩
  -- behind the first comprehension
  have rest : (wSeq (wAsg (wLstM wNil) (wgName 4))
    (wSeq (wFor (sTup (wVar 0)) (wgName 5) (wDrop (wExt (wVar 4) (wCall 1 wfInnT (wCons (wVar 5) wNil)))))
    (sEndW g3))) { nx := fun ρ' μ' => NewOf μ μ' ∧ Q .none μ, rt := fun d μ' => NewOf μ μ' ∧ Q d μ } [some (.tup (qs.map (questD refs))), some (.lst ((refs.map tabOf).map .str)), none, none, none, none, none, none, none, none, none] μ := by
    refine ⟨sl (Nat.zero_le _), fun pf hf => ?_⟩
    -- behind the loop over the questions
    have last : ∀ (inner : List Str) (μ1 : Mh) (z5 : Option DV), inner.Perm (inners qs) → μ1 pf = some (.lst (inner.map .str)) → NewOf μ μ1 → (sEndW g3) { nx := fun ρ' μ' => NewOf μ μ' ∧ Q .none μ, rt := fun d μ' => NewOf μ μ' ∧ Q d μ } [some (.tup (qs.map (questD refs))), some (.lst ((refs.map tabOf).map .str)), none, none, some (.obj pf), z5, none, none, none, none, none] μ1 := by
      intro inner μ1 z5 pm e1 nw
      have fw1 : Few A B (refs.map tabOf) inner := fw.perm pm
      show (match μ1 pf with | some (.lst ds) => _ | _ => False)
      rw [e1]
      refine ⟨sl (Nat.zero_le _), sl (Nat.le_of_ble_eq_true rfl), ?_⟩
      have hsum : (refs.map tabOf).length + inner.length ≤ 28 := by
        have := fw1.ol
        have := fw1.il
        omega
      refine ⟨by rw [List.length_map, List.length_map (f := DV.str)]; exact sl (by omega), (refs.map tabOf) ++ inner, by rw [List.map_append], by rw [List.length_append]; omega, fun ys hys => ?_⟩
      have hys' : Distinct ys (refs.map tabOf ++ inners qs) := ⟨hys.nd, hys.up, fun k => by rw [hys.mem, List.mem_append, List.mem_append, pm.mem_iff]⟩
      have q1 := q ys hys'
      unfold shapesD at q1
      rw [← shapesF_perm pm] at q1
      have hpl : ∀ t ∈ ys, plainS t = true ∧ t.length ≤ 8 := fun t ht => fw1.pl t (List.mem_append.mp ((hys.mem t).mp ht))
      have hp1 : ∀ t ∈ refs.map tabOf, plainS t = true ∧ t.length ≤ 8 := fun t ht => fw1.pl t (.inl ht)
      have hp2 : ∀ t ∈ inner, plainS t = true ∧ t.length ≤ 8 := fun t ht => fw1.pl t (.inr ht)
      have go : ∀ (ts : List Str) (n : Nat) (S : List (List DV)) (z3 z7 z8 : Option DV), (∀ t ∈ ts, t ∈ ys) → n + ts.length ≤ 900 → ShOk n S → S.length * pw A B ts ≤ 841 → shapesF (refs.map tabOf) inner ts S = shapesF (refs.map tabOf) inner ys [[]] →
          forW (wgName 3) (sBodyW g3)
            { nx := wRet (wB wTuple (wCons (wVar 6) wNil)) { nx := fun ρ' μ' => NewOf μ μ' ∧ Q .none μ, rt := fun d μ' => NewOf μ μ' ∧ Q d μ }, rt := fun d μ' => NewOf μ μ' ∧ Q d μ } (ts.map .str) [some (.tup (qs.map (questD refs))), some (.lst ((refs.map tabOf).map .str)), none, z3, some (.lst (inner.map .str)), z5, some (.lst (S.map .tup)), z7, z8, none, none] (delM μ1 pf) := by
        intro ts
        induction ts with
        | nil =>
          intro n S z3 z7 z8 _ _ _ _ he
          have he : S = _ := he
          refine ⟨nw.del hf, ?_⟩
          rw [he]
          exact q1
        | cons t ts ih =>
          intro n S z3 z7 z8 hts hn hS hp he
          have pt := hpl t (hts t List.mem_cons_self)
          have hmn := fw1.many t
          have hstep := step_bound fw1 t ts S hp
          have hpos := pw_pos A B ts
          have hle : (stepS (lst (refs.map tabOf) t) (mny (refs.map tabOf) inner t) t S).length ≤ 841 := by
            refine Nat.le_trans ?_ hstep
            exact Nat.le_mul_of_pos_right _ hpos
          rw [stepS_len] at hle
          rw [List.length_cons] at hn
          have hl1 : lst (refs.map tabOf) t ≤ 1 := by unfold lst; split <;> omega
          have hcl : lst (refs.map tabOf) t ≤ (refs.map tabOf).count t := by
            unfold lst
            split
            · rename_i hm
              exact List.count_pos_iff.mpr hm
            · exact Nat.zero_le _
          have hc1 : (refs.map tabOf).count t ≤ (refs.map tabOf).length := List.count_le_length
          have hc2 : inner.count t ≤ inner.length := List.count_le_length
          refine IN (decide (t ∈ refs.map tabOf)) (flat_strs _) (by rw [Bool.eq_iff_iff, inF_strs, decide_eq_true_iff]) ?_
          have el : (if decide (t ∈ refs.map tabOf) = true then (1 : Int) else 0) = ((lst (refs.map tabOf) t : Nat) : Int) := by
            unfold lst
            by_cases hc : t ∈ refs.map tabOf
            · rw [decide_eq_true hc, if_pos rfl, if_pos hc]; rfl
            · rw [decide_eq_false hc, if_neg Bool.false_ne_true, if_neg hc]; rfl
          show wBin wAdd (wCount (wVar 1) (wVar 3)) (wCount (wVar 4) (wVar 3)) [some (.tup (qs.map (questD refs))), some (.lst ((refs.map tabOf).map .str)), none, some (.str t), some (.lst (inner.map .str)), z5, some (.lst (S.map .tup)), z7, z8, none, none] (delM μ1 pf) _
          refine count_o (i := 1) (j := 3) rfl rfl hp1 pt.1 (count_o (i := 4) (j := 3) rfl rfl hp2 pt.1 ?_)
          refine ⟨sl (Nat.le_of_ble_eq_true rfl), rfl, ?_⟩
          have e3 : (((refs.map tabOf).count t : Nat) : Int) + ((inner.count t : Nat) : Int) = (((refs.map tabOf).count t + inner.count t : Nat) : Int) := by omega
          rw [el, e3]
          refine ⟨rfl, ?_⟩
          refine step_comp (n := n) (t := t) (l := lst (refs.map tabOf) t) (m := (refs.map tabOf).count t + inner.count t) (by omega) (by omega) (by omega) (by omega) S [] _ (fun s hs => by rw [(hS s hs).1]; exact Nat.le_refl _) (by rw [List.length_nil]; unfold mny at hle; omega) ?_
          rw [List.nil_append]
          exact ih (n + 1) _ _ _ _ (fun u hu => hts u (List.mem_cons_of_mem _ hu)) (by omega) (hS.step pt.1 pt.2 (by unfold mny at hmn; omega)) hstep he
      refine go ys 0 [[]] none none none (fun t ht => ht) ?_ (fun s hs => by
        rw [List.mem_singleton] at hs
        subst hs
        exact ⟨rfl, fun e he => by cases he⟩) (by
        show 1 * _ ≤ 841
        rw [Nat.one_mul]
        exact pw_le hys.nd) rfl
      have := nodup_sub hys.nd fun x hx => (hys.mem x).mp hx
      rw [List.length_append] at this
      omega
    have go : ∀ (rest done : List (DV × List DV × DV × DV)) (inner : List Str) (μ1 : Mh) (z5 : Option DV), done ++ rest = qs → inner.Perm (inners done) → μ1 pf = some (.lst (inner.map .str)) → NewOf μ μ1 →
        forW (wgName 5) (wDrop (wExt (wVar 4) (wCall 1 wfInnT (wCons (wVar 5) wNil)))) { nx := (sEndW g3) { nx := fun ρ' μ' => NewOf μ μ' ∧ Q .none μ, rt := fun d μ' => NewOf μ μ' ∧ Q d μ }, rt := fun d μ' => NewOf μ μ' ∧ Q d μ } (rest.map (questD refs)) [some (.tup (qs.map (questD refs))), some (.lst ((refs.map tabOf).map .str)), none, none, some (.obj pf), z5, none, none, none, none, none] μ1 := by
      intro rest
      induction rest with
      | nil =>
        intro done inner μ1 z5 hd pm e1 nw
        rw [List.append_nil] at hd
        subst hd
        exact last inner μ1 z5 pm e1 nw
      | cons qq rest ih =>
        intro done inner μ1 z5 hd pm e1 nw
        have hm : qq ∈ qs := by rw [← hd]; exact List.mem_append_right _ List.mem_cons_self
        show wDrop (wExt (wVar 4) (wCall 1 wfInnT (wCons (wVar 5) wNil))) _ [some (.tup (qs.map (questD refs))), some (.lst ((refs.map tabOf).map .str)), none, none, some (.obj pf), some (questD refs qq), none, none, none, none, none] μ1
        refine ext_a (i := 4) (G := fun ys => ∃ l : List Str, ys = l.map .str ∧ l.Perm ((innL qq.1 qq.2.1).flatMap tabsO)) rfl e1 (fun P hP => ⟨rfl, T, refs, qq.1, qq.2.1, qq.2.2.1, qq.2.2.2, rfl, ok.ok qq hm, fun l hl => hP _ ⟨l, rfl, hl⟩⟩) ?_
        rintro ys ⟨l, rfl, pl⟩
        have e4 : inners (done ++ [qq]) = inners done ++ (innL qq.1 qq.2.1).flatMap tabsO := by
          unfold inners
          rw [List.flatMap_append, List.flatMap_cons, List.flatMap_nil, List.append_nil]
        have pm2 : (inner ++ l).Perm (inners (done ++ [qq])) := by
          rw [e4]
          exact pm.append pl
        have hle : (inner ++ l).length ≤ 24 := by
          have h1 := fw.il
          have h2 : (inners (done ++ [qq])).length ≤ (inners qs).length := by
            rw [← hd, show done ++ qq :: rest = (done ++ [qq]) ++ rest by rw [List.append_assoc]; rfl]
            unfold inners
            rw [List.flatMap_append (xs := done ++ [qq]), List.length_append]
            omega
          rw [pm2.length_eq]
          exact Nat.le_trans h2 h1
        rw [List.length_append] at hle
        refine ⟨by rw [List.length_map, List.length_map]; exact sl (by omega), ?_⟩
        refine ih (done ++ [qq]) (inner ++ l) _ _ (by rw [List.append_assoc]; exact hd) pm2 ?_ (nw.lst hf)
        rw [updM_same, List.map_append]
    exact go qs [] [] _ none rfl (List.Perm.refl _) updM_same (NewOf.refl.lst hf)
  show atW (atI (qs.map (questD refs)) 0) _
  refine at_o (x := questD refs q0) (by rw [eq, List.map_cons, atI_zero]) ?_
  refine tabs_comp (i := 2) (j := 3) ok.rs (by omega) (by decide) (by show 3 < 11; decide) _ ?_
  exact rest
end K55

set_option Elab.async false
set_option linter.all false
set_option maxRecDepth 100000
set_option maxHeartbeats 2000000
/-! K55x: the law's inner questions and shapes. -/
namespace K55
open PySem L2 Dz Qz PyProof.Rows

theorem for_done {g : WG} {b : WS} {E : DEnds} {α : Type} (f : α → DV) (I : List α → Rho → Mh → Prop) : ∀ (l done : List α) (ρ : Rho) (μ : Mh),
    (∀ (d : List α) (x : α) (r : List α) (ρ : Rho) (μ : Mh) (F : DEnds), d ++ x :: r = done ++ l → I d ρ μ → F.rt = E.rt → (∀ ρ' μ', I (d ++ [x]) ρ' μ' → F.nx ρ' μ') → (∀ ρ' μ', I (d ++ [x]) ρ' μ' → F.ct ρ' μ') → g (f x) ρ fun ρ1 => b F ρ1 μ) →
    I done ρ μ → (∀ ρ' μ', I (done ++ l) ρ' μ' → E.nx ρ' μ') → forW g b E (l.map f) ρ μ
  | [], done, ρ, μ, _, i, k => by
    rw [List.append_nil] at k
    exact k ρ μ i
  | x :: l, done, ρ, μ, h, i, k => by
    have e : done ++ x :: l = (done ++ [x]) ++ l := by rw [List.append_assoc]; rfl
    have go : ∀ ρ' μ', I (done ++ [x]) ρ' μ' → forW g b E (l.map f) ρ' μ' := fun ρ' μ' i' => for_done f I l (done ++ [x]) ρ' μ' (fun d y r ρ μ F e' => h d y r ρ μ F (e'.trans e.symm)) i' (by rw [← e]; exact k)
    exact h done x l ρ μ _ rfl i rfl go go
theorem innD_many {n : Nat} {d : DV} (h : Part n d) (hn : n ≤ 12) : (innD d).length ≤ 4096 := by
  have h1 := allD_len (lead := []) (h.le hn) (by decide)
  have : ∀ (n : Nat) (d : DV) (l : List Nat), (innF n d).length ≤ (allF n d l).length := by
    intro n
    induction n with
    | zero => intro d l; exact Nat.zero_le _
    | succ n ih =>
      intro d l
      show (if isIn d then [d] else (downs d).flatMap fun p => innF n p.2).length ≤ ((l, d) :: (downs d).flatMap fun p => allF n p.2 (l ++ p.1)).length
      rw [List.length_cons]
      split
      · rw [List.length_singleton]; omega
      · have : ∀ ps : List (List Nat × DV), (ps.flatMap fun p => innF n p.2).length ≤ (ps.flatMap fun p => allF n p.2 (l ++ p.1)).length := by
          intro ps
          induction ps with
          | nil => exact Nat.le_refl _
          | cons p ps ihp =>
            rw [List.flatMap_cons, List.flatMap_cons, List.length_append, List.length_append]
            have := ih p.2 (l ++ p.1)
            omega
        have := this (downs d)
        omega
  have h2 := this 15 d []
  unfold allD at h1
  unfold innD
  omega
theorem ne_of {b : Bool} (h : b = false) : ¬ b = true := by rw [h]; exact Bool.false_ne_true
def wfLI (n : Nat) : WF := fun ds μ Q => ∃ d, ds = [d] ∧ Part n d ∧ n ≤ 12 ∧ (∀ k, ntF k d = true) ∧ Q (.lst (innD d)) μ
theorem p_law_inners (F : WF) (n : Nat) (hF : ∀ n', n = n' + 1 → ∀ ds μ Q, wfLI n' ds μ Q → F ds μ Q) (ds : List DV) (μ : Mh) (Q : DV → Mh → Prop) (hl : ds.length = 1) (h : wfLI n ds μ Q) :
    w_law_inners F { nx := fun _ μ' => Q .none μ', rt := Q } (ds.map some ++ List.replicate 2 none) μ := by
  obtain ⟨d, rfl, hp, hn, hnt, q⟩ := h
  have IN := @in_tup
  have he := innD_eq hp (by omega)
  obtain ⟨n', rfl, b, hr⟩ := hp.inv
  obtain ⟨nt0, ntr⟩ := nt_downs hnt
  have s2 : ∀ {n : Nat}, n ≤ 1000 → n ≤ sizeLine := fun h => sl (by omega)
  have cf : ∀ (w : Str) (r : List DV), cutD (DV.str w :: r) (some 1) none = r := fun w r => cut_from (ds := DV.str w :: r) 1
  -- a part below
  have stp : ∀ (d0 x : DV) (acc : List DV) (E : DEnds), Part n' x → (∀ k, ntF k x = true) → acc.length ≤ 8000 → E.nx [some d0, some (.lst (acc ++ innD x)), some x] μ →
      (wAsg (wBin wAdd (wVar 1) (wIf (wTest (wIsi tyTup (wVar 2))) (wCall 1 F (wCons (wVar 2) wNil)) (wLst wNil))) (wgName 1)) E [some d0, some (.lst acc), some x] μ := fun d0 x acc E px nx ha k => by
    have hm := innD_many px (by omega)
    obtain ⟨w, r, hx⟩ := px.head
    subst hx
    exact ⟨rfl, hF n' rfl _ _ _ ⟨_, rfl, px, by omega, nx, sl (by omega), k⟩⟩
  have other : ∀ (d0 y : DV) (acc : List DV) (E : DEnds), isTupD y = false → isThing y = true → acc.length ≤ 8000 → E.nx [some d0, some (.lst acc), some y] μ →
      (wAsg (wBin wAdd (wVar 1) (wIf (wTest (wIsi tyTup (wVar 2))) (wCall 1 F (wCons (wVar 2) wNil)) (wLst wNil))) (wgName 1)) E [some d0, some (.lst acc), some y] μ := fun d0 y acc E hy hth ha k => by
    have k2 : E.nx [some d0, some (.lst (acc ++ [])), some y] μ := by rw [List.append_nil]; exact k
    cases y with
    | tup _ => cases hy
    | fix _ => cases hth
    | obj _ => cases hth
    | _ => exact ⟨s2 (Nat.zero_le _), sl (show acc.length + 0 ≤ _ by omega), k2⟩
  unfold w_law_inners
  generalize wIn = g1 at IN ⊢
  generalize hbe : downs d = l at b he hr ntr
  have fl0 : ∀ {x : DV} {j : List Nat}, ([(j, x)] : List (List Nat × DV)).flatMap (fun p => innD p.2) = innD x := fun {x j} => by
    rw [List.flatMap_cons, List.flatMap_nil, List.append_nil]
  have fl2 : ∀ {x y : DV} {j k : List Nat}, ([(j, x), (k, y)] : List (List Nat × DV)).flatMap (fun p => innD p.2) = innD x ++ innD y := fun {x y j k} => by
    rw [List.flatMap_cons, List.flatMap_cons, List.flatMap_nil, List.append_nil]
  cases b with
  | col | val =>
    rw [if_neg (ne_of (by kernel_rfl))] at he
    rw [he] at q
    exact ⟨s2 (Nat.le_of_ble_eq_true rfl), IN false rfl (by decide +kernel) ⟨s2 (Nat.le_of_ble_eq_true rfl), IN true rfl (by decide +kernel) ⟨s2 (Nat.zero_le _), q⟩⟩⟩
  | b2 =>
    rw [if_pos (by kernel_rfl)] at he
    rw [he] at q
    exact ⟨s2 (Nat.le_of_ble_eq_true rfl), IN true rfl (by decide +kernel) ⟨s2 (Nat.le_of_ble_eq_true rfl), q⟩⟩
  | b3 h =>
    rcases h with rfl | rfl
    all_goals
      rw [if_pos (by kernel_rfl)] at he
      rw [he] at q
      exact ⟨s2 (Nat.le_of_ble_eq_true rfl), IN true rfl (by decide +kernel) ⟨s2 (Nat.le_of_ble_eq_true rfl), q⟩⟩
  | @no x =>
    rw [if_neg (ne_of (by kernel_rfl)), fl0] at he
    rw [he] at q
    refine ⟨s2 (Nat.le_of_ble_eq_true rfl), IN false rfl (by decide +kernel) ⟨s2 (Nat.le_of_ble_eq_true rfl), IN false rfl (by decide +kernel) ⟨s2 (Nat.zero_le _), ?_⟩⟩⟩
    exact stp _ _ [] _ (hr _ List.mem_cons_self) (ntr _ List.mem_cons_self) (Nat.zero_le _) q
  | @b1 w x y h =>
    have hm : (innD x).length ≤ 4096 := innD_many (hr _ List.mem_cons_self) (by omega)
    have nt1 : isTupD y = false ∧ isThing y = true := by
      rcases h with rfl | rfl
      all_goals
        have : (!isTupD y && isThing y) = true := nt0
        rw [Bool.and_eq_true, Bool.not_eq_true'] at this
        exact this
    rcases h with rfl | rfl
    all_goals
      rw [if_neg (ne_of (by kernel_rfl)), fl0] at he
      rw [he] at q
      refine ⟨s2 (Nat.le_of_ble_eq_true rfl), IN false rfl (by decide +kernel) ⟨s2 (Nat.le_of_ble_eq_true rfl), IN false rfl (by decide +kernel) ⟨s2 (Nat.zero_le _), ?_⟩⟩⟩
      exact stp _ _ [] _ (hr _ List.mem_cons_self) (ntr _ List.mem_cons_self) (Nat.zero_le _) (other _ _ _ _ nt1.1 nt1.2 (show (innD x).length ≤ 8000 by omega) q)
  | @b4 w x y h =>
    have hm : (innD x).length ≤ 4096 := innD_many (hr _ List.mem_cons_self) (by omega)
    rcases h with rfl | rfl | rfl | rfl | rfl
    all_goals
      rw [if_neg (ne_of (by kernel_rfl)), fl2] at he
      rw [he] at q
      refine ⟨s2 (Nat.le_of_ble_eq_true rfl), IN false rfl (by decide +kernel) ⟨s2 (Nat.le_of_ble_eq_true rfl), IN false rfl (by decide +kernel) ⟨s2 (Nat.zero_le _), ?_⟩⟩⟩
      exact stp _ _ [] _ (hr _ List.mem_cons_self) (ntr _ List.mem_cons_self) (Nat.zero_le _) (stp _ _ (innD x) _ (hr _ (List.mem_cons_of_mem _ List.mem_cons_self)) (ntr _ (List.mem_cons_of_mem _ List.mem_cons_self)) (by omega) q)
end K55

set_option Elab.async false
set_option linter.all false
set_option maxRecDepth 100000
set_option maxHeartbeats 2000000
/-! K55y: the law's shapes. -/
namespace K55
open PySem L2 Dz Qz PyProof.Rows

abbrev lLoop (h : W2) : WS := (wFor (sLst (wBin wAdd (wLst (wCons (wVar 0) wNil)) (wVar 1))) (wgName 6) (wFor (sLst (wBin wAdd (wIf (wTest (wBin wIsN (wBin wIx (wVar 6) (wC (.int 1))) (wC .none))) (wLst wNil) (wLst (wCons (wBin wIx (wVar 6) (wC (.int 1))) wNil))) (wB wList (wCons (wBin wIx (wVar 6) (wC (.int 2))) wNil)))) (wgName 7) (wFor (sLst (wCall 1 (wfLI 12) (wCons (wVar 7) wNil))) (wgName 8) (wAsg (wBin wAdd (wVar 3) (wBin wMul (wLc (sTup (wBin wIx (wBin wIx (wVar 8) (wC (.int 1))) (wC (.int 0)))) (wgTup 2 (wgCons (wgName 4) (wgCons (wgName 5) wgNil))) wYes (wVar 5) [4, 5]) (wBin wAdd (wC (.int 1)) (wB wInt1 (wCons (wBin h (wBin wIx (wVar 8) (wC (.int 0))) (wC (.str "only"))) wNil))))) (wgName 3)))))
abbrev lBody (g : W2) : WS := (wSeq (wAsg (wTup (wCons (wB wInt1 (wCons (wBin g (wVar 5) (wVar 2)) wNil)) (wCons (wLst wNil) wNil))) (wgTup 2 (wgCons (wgName 11) (wgCons (wgName 12) wgNil))))
    (wSeq (wFor (sLst (wVar 9)) (wgName 10) (wSeq (wAsg (wBin wSub (wBin wAdd (wBin wAdd (wCount (wVar 2) (wVar 5)) (wCount (wVar 3) (wVar 5))) (wC (.int 1))) (wVar 11)) (wgName 13))
    (wAsg (wBin wAdd (wVar 12) (wLc (sRng1 (wVar 13)) (wgName 14) wYes (wBin wAdd (wVar 10) (wTup (wCons (wTup (wCons (wVar 5) (wCons (wBin wAdd (wVar 11) (wVar 14)) wNil))) wNil))) [14])) (wgName 12))))
    (wAsg (wVar 12) (wgName 9))))
abbrev lEnd (g : W2) : WS := (wSeq (wAsg (wLst (wCons (wTup wNil) wNil)) (wgName 9))
    (wSeq (wFor (sLst (wSortSet (wBin wAdd (wVar 2) (wVar 3)))) (wgName 5) (lBody g))
    (wRet (wB wTuple (wCons (wVar 9) wNil)))))
def wfLShapes : WF := fun ds μ Q => ∃ T A B refs q qs, ds = [questD refs q, .lst (qs.map (questD refs))] ∧ QsOk T A B refs (q :: qs) ∧ ∀ ys, Distinct ys (refs.map tabOf ++ inners (q :: qs)) → Q (shapesD (refs.map tabOf) (inners (q :: qs)) ys) μ
theorem bin_o {f : W2} {wa wb : WE} {ρ : Rho} {μ : Mh} {P : DV → Mh → Prop} (h : wa ρ μ fun x μ1 => wb ρ μ1 fun y μ2 => f x y μ2 P) : wBin f wa wb ρ μ P := h
section
variable {T : List Str} {A B : Str} {refs : List DV} {q : DV × List DV × DV × DV} {qs : List (DV × List DV × DV × DV)} {μ : Mh}
/-- behind the inner questions -/
theorem law_end_shapes (g : W2) (IN : ∀ {x : Str} {ds : List DV} (b : Bool) {μ : Mh} {P : DV → Mh → Prop}, ds.all flatD = true → inF (.str x) ds = b → P (.bool b) μ → g (.str x) (.lst ds) μ P)
    {outer inner : List Str} (fw : Few A B outer inner) {E : DEnds} {a0 a1 z4 z5 z6 z7 z8 : Option DV}
    (k : ∀ ys, Distinct ys (outer ++ inner) → E.rt (shapesD outer inner ys) μ) :
    lEnd g E [a0, a1, some (.lst (outer.map .str)), some (.lst (inner.map .str)), z4, z5, z6, z7, z8, none, none, none, none, none, none] μ := by
  have hsum : outer.length + inner.length ≤ 28 := by
    have := fw.ol
    have := fw.il
    omega
  refine ⟨sl (Nat.zero_le _), sl (Nat.le_of_ble_eq_true rfl), ?_⟩
  refine ⟨by rw [List.length_map, List.length_map]; exact sl (by omega), outer ++ inner, by rw [List.map_append], by rw [List.length_append]; omega, fun ys hys => ?_⟩
  have hpl : ∀ t ∈ ys, plainS t = true ∧ t.length ≤ 8 := fun t ht => fw.pl t (List.mem_append.mp ((hys.mem t).mp ht))
  have hp1 : ∀ t ∈ outer, plainS t = true ∧ t.length ≤ 8 := fun t ht => fw.pl t (.inl ht)
  have hp2 : ∀ t ∈ inner, plainS t = true ∧ t.length ≤ 8 := fun t ht => fw.pl t (.inr ht)
  have q1 := k ys hys
  unfold shapesD at q1
  have go : ∀ (ts : List Str) (n : Nat) (S : List (List DV)) (z5 z10 z11 z12 z13 : Option DV), (∀ t ∈ ts, t ∈ ys) → n + ts.length ≤ 900 → ShOk n S → S.length * pw A B ts ≤ 841 → shapesF outer inner ts S = shapesF outer inner ys [[]] →
      forW (wgName 5) (lBody g) { E with nx := wRet (wB wTuple (wCons (wVar 9) wNil)) E } (ts.map .str) [a0, a1, some (.lst (outer.map .str)), some (.lst (inner.map .str)), z4, z5, z6, z7, z8, some (.lst (S.map .tup)), z10, z11, z12, z13, none] μ := by
    intro ts
    induction ts with
    | nil =>
      intro n S z5 z10 z11 z12 z13 _ _ _ _ he
      have he : S = _ := he
      show E.rt (.tup (S.map .tup)) μ
      rw [he]
      exact q1
    | cons t ts ih =>
      intro n S z5 z10 z11 z12 z13 hts hn hS hp he
      have pt := hpl t (hts t List.mem_cons_self)
      have hmn := fw.many t
      have hstep := step_bound fw t ts S hp
      have hpos := pw_pos A B ts
      have hle : (stepS (lst outer t) (mny outer inner t) t S).length ≤ 841 := by
        refine Nat.le_trans ?_ hstep
        exact Nat.le_mul_of_pos_right _ hpos
      rw [stepS_len] at hle
      rw [List.length_cons] at hn
      have hl1 : lst outer t ≤ 1 := by unfold lst; split <;> omega
      have hcl : lst outer t ≤ outer.count t := by
        unfold lst
        split
        · rename_i hm
          exact List.count_pos_iff.mpr hm
        · exact Nat.zero_le _
      refine IN (decide (t ∈ outer)) (flat_strs _) (by rw [Bool.eq_iff_iff, inF_strs, decide_eq_true_iff]) ?_
      have el : (if decide (t ∈ outer) = true then (1 : Int) else 0) = ((lst outer t : Nat) : Int) := by
        unfold lst
        by_cases hc : t ∈ outer
        · rw [decide_eq_true hc, if_pos rfl, if_pos hc]; rfl
        · rw [decide_eq_false hc, if_neg Bool.false_ne_true, if_neg hc]; rfl
      refine ⟨sl (Nat.zero_le _), sl (Nat.le_of_ble_eq_true rfl), rfl, rfl, ?_⟩
      rw [el]
      have hm2 : mny outer inner t ≤ 29 := hmn
      refine for_done (DV.tup) (fun done ρ μ' => μ' = μ ∧ ∃ w10 w13 : Option DV, ρ = [a0, a1, some (.lst (outer.map .str)), some (.lst (inner.map .str)), z4, some (.str t), z6, z7, z8, some (.lst (S.map .tup)), w10, some (.int ((lst outer t : Nat) : Int)), some (.lst ((stepS (lst outer t) (mny outer inner t) t done).map .tup)), w13, none]) S [] _ μ ?_ ⟨rfl, z10, z13, rfl⟩ ?_
      · rintro d s r ρ μ' F hd ⟨rfl, w10, w13, rfl⟩ _ hF _
        have hs : s ∈ S := by
          have : s ∈ d ++ s :: r := List.mem_append_right _ List.mem_cons_self
          rw [hd] at this
          exact this
        have hsl := (hS s hs).1
        have hdl : d.length + 1 ≤ S.length := by
          have := congrArg List.length hd
          rw [List.length_append, List.length_cons, List.nil_append] at this
          omega
        have hdm : d.length * mny outer inner t + mny outer inner t ≤ 841 := by
          have : (d.length + 1) * mny outer inner t ≤ S.length * mny outer inner t := Nat.mul_le_mul_right _ hdl
          rw [Nat.succ_mul] at this
          omega
        refine bin_o (bin_o (bin_o ?_))
        show wCount (wVar 2) (wVar 5) [a0, a1, some (.lst (outer.map .str)), some (.lst (inner.map .str)), z4, some (.str t), z6, z7, z8, some (.lst (S.map .tup)), some (.tup s), some (.int ((lst outer t : Nat) : Int)), some (.lst ((stepS (lst outer t) (mny outer inner t) t d).map .tup)), w13, none] μ' _
        refine count_o (i := 2) (j := 5) rfl rfl hp1 pt.1 ?_
        show wCount (wVar 3) (wVar 5) [a0, a1, some (.lst (outer.map .str)), some (.lst (inner.map .str)), z4, some (.str t), z6, z7, z8, some (.lst (S.map .tup)), some (.tup s), some (.int ((lst outer t : Nat) : Int)), some (.lst ((stepS (lst outer t) (mny outer inner t) t d).map .tup)), w13, none] μ' _
        refine (count_o (i := 3) (j := 5) rfl rfl hp2 pt.1 ?_)
        have e3 : ((outer.count t : Nat) : Int) + ((inner.count t : Nat) : Int) + 1 - ((lst outer t : Nat) : Int) = ((mny outer inner t : Nat) : Int) := by
          unfold mny
          omega
        suffices fin : ∀ k : Int, k = ((mny outer inner t : Nat) : Int) → (wAsg (wBin wAdd (wVar 12) (wLc (sRng1 (wVar 13)) (wgName 14) wYes (wBin wAdd (wVar 10) (wTup (wCons (wTup (wCons (wVar 5) (wCons (wBin wAdd (wVar 11) (wVar 14)) wNil))) wNil))) [14])) (wgName 12)) F [a0, a1, some (.lst (outer.map .str)), some (.lst (inner.map .str)), z4, some (.str t), z6, z7, z8, some (.lst (S.map .tup)), some (.tup s), some (.int ((lst outer t : Nat) : Int)), some (.lst ((stepS (lst outer t) (mny outer inner t) t d).map .tup)), some (.int k), none] μ' from fin _ e3
        rintro k rfl
        refine ⟨by omega, by omega, ?_⟩
        show compW _ _ _ _ (rngD ((0 : Nat) : Int) (((mny outer inner t : Nat) : Int)).toNat) [] μ' _
        rw [Int.toNat_natCast, rng_map]
        refine comp_pure (fun _ => true) (fun k => match k with | .int j => DV.tup (s ++ [.tup [.str t, .int (((lst outer t : Nat) : Int) + j)]]) | _ => .none) _ [] _ (fun x hx acc P hacc hP => ?_) ?_ ?_
        · rw [List.mem_map] at hx
          obtain ⟨j, hj, rfl⟩ := hx
          exact ⟨sl (Nat.le_of_ble_eq_true rfl), sl (Nat.le_of_ble_eq_true rfl), sl (show s.length + 1 ≤ _ by omega), hacc, hP⟩
        · rw [List.length_map, List.length_range, List.length_nil]
          exact sl (by omega)
        · rw [List.filter_eq_self.mpr fun _ _ => rfl, List.map_map, List.nil_append]
          refine ⟨?_, hF _ _ ⟨rfl, some (.tup s), some (.int ((mny outer inner t : Nat) : Int)), ?_⟩⟩
          · rw [List.length_map, stepS_len, List.length_map, List.length_range]
            exact sl (by omega)
          · have e5 : stepS (lst outer t) (mny outer inner t) t (d ++ [s]) = stepS (lst outer t) (mny outer inner t) t d ++ (List.range (mny outer inner t)).map fun k => s ++ [entry t (((lst outer t : Nat) : Int) + (k : Nat))] := by
              unfold stepS
              rw [List.flatMap_append, List.flatMap_cons, List.flatMap_nil, List.append_nil]
            rw [e5, List.map_append, List.map_map]
            have e6 : ∀ m : Nat, (List.range m).map ((fun k => match k with | .int j => DV.tup (s ++ [.tup [.str t, .int (((lst outer t : Nat) : Int) + j)]]) | _ => .none) ∘ fun k : Nat => DV.int (((0 : Nat) : Int) + (k : Nat))) = (List.range m).map (DV.tup ∘ fun k : Nat => s ++ [entry t (((lst outer t : Nat) : Int) + (k : Nat))]) := fun m => List.map_congr_left fun k _ => by
              show DV.tup (s ++ [.tup [.str t, .int (((lst outer t : Nat) : Int) + (((0 : Nat) : Int) + (k : Nat)))]]) = DV.tup (s ++ [entry t (((lst outer t : Nat) : Int) + (k : Nat))])
              rw [show ((0 : Nat) : Int) + (k : Nat) = (k : Nat) from Int.zero_add _]
              rfl
            rw [e6]
            rfl
      · rintro ρ' μ' ⟨rfl, w10, w13, rfl⟩
        exact ih (n + 1) _ _ _ _ _ _ (fun u hu => hts u (List.mem_cons_of_mem _ hu)) (by omega) (hS.step pt.1 pt.2 (by omega)) hstep he
  refine go ys 0 [[]] z5 none none none none (fun t ht => ht) ?_ (fun s hs => by
    rw [List.mem_singleton] at hs
    subst hs
    exact ⟨rfl, fun e he => by cases he⟩) (by
    show 1 * _ ≤ 841
    rw [Nat.one_mul]
    exact pw_le hys.nd) rfl
  have := nodup_sub hys.nd fun x hx => (hys.mem x).mp hx
  rw [List.length_append] at this
  omega
theorem flat_len {α β : Type} {f : α → List β} {d r l : List α} {x : α} (h : d ++ x :: r = l) : (d.flatMap f).length + (f x).length ≤ (l.flatMap f).length := by
  rw [← h, List.flatMap_append, List.flatMap_cons, List.length_append, List.length_append]
  omega
theorem flat_snoc {α β : Type} {f : α → List β} {d : List α} {x : α} : (d ++ [x]).flatMap f = d.flatMap f ++ f x := by
  rw [List.flatMap_append, List.flatMap_cons, List.flatMap_nil, List.append_nil]
def inD2 (d : DV) : List Str := (innD d).flatMap tabsO
def innQ (q : DV × List DV × DV × DV) : List Str := (innL q.1 q.2.1).flatMap tabsO
theorem innQ_eq (q : DV × List DV × DV × DV) : innQ q = (wl q.1 ++ q.2.1).flatMap inD2 := by
  unfold innQ innL
  rw [List.flatMap_assoc]
  rfl
theorem p_law_shapes (ds : List DV) (μ : Mh) (Q : DV → Mh → Prop) (hl : ds.length = 2) (h : wfLShapes ds μ Q) :
    w_law_shapes (wfLI 12) { nx := fun _ μ' => Q .none μ', rt := Q } (ds.map some ++ List.replicate 13 none) μ := by
  obtain ⟨T, A, B, refs, q, qs, rfl, ok, k⟩ := h
  have IN := @in_lst
  have EQ := @Qz.eq_str
  have fw := ok.few4
  have hq3 := ok.few
  have hol : refs.length ≤ 4 := by
    have := fw.ol
    rwa [List.length_map] at this
  have hil : (inners (q :: qs)).length ≤ 24 := fw.il
  unfold w_law_shapes
  generalize wIn = g1 at IN ⊢
  generalize wEqL = g2 at EQ ⊢
  refine tabs_comp (i := 4) (j := 5) ok.rs (by omega) (by decide) (by show 5 < 15; decide) _ ⟨sl (Nat.zero_le _), ?_⟩
  refine ⟨sl (Nat.le_of_ble_eq_true rfl), sl ?_, ?_⟩
  · rw [List.length_map, List.length_singleton]
    rw [List.length_cons] at hq3
    omega
  let base (inner : List Str) (z6 z7 z8 : Option DV) : Rho := [some (questD refs q), some (.lst (qs.map (questD refs))), some (.lst ((refs.map tabOf).map .str)), some (.lst (inner.map .str)), none, none, z6, z7, z8, none, none, none, none, none, none]
  refine for_done (questD refs) (fun done ρ μ' => μ' = μ ∧ ∃ z6 z7 z8, ρ = base (inners done) z6 z7 z8) (q :: qs) [] _ μ ?_ ⟨rfl, none, none, none, rfl⟩ ?_
  · rintro d1 q1 r1 ρ μ1 F1 hd1 ⟨rfl, z6, z7, z8, rfl⟩ _ hF1 _
    have hm1 : q1 ∈ q :: qs := by
      have : q1 ∈ d1 ++ q1 :: r1 := List.mem_append_right _ List.mem_cons_self
      rw [hd1] at this
      exact this
    have qo := ok.ok q1 hm1
    have hlen1 := flat_len (f := innQ) hd1
    have hlen1 : (inners d1).length + (innQ q1).length ≤ (inners (q :: qs)).length := hlen1
    rw [innQ_eq] at hlen1
    have h4 := qo.hlen
    have loop : ∀ F : DEnds, (∀ ρ' μ', (μ' = μ1 ∧ ∃ z6 z7 z8, ρ' = base (inners d1 ++ (wl q1.1 ++ q1.2.1).flatMap inD2) z6 z7 z8) → F.nx ρ' μ') →
        forW (wgName 7) (wFor (sLst (wCall 1 (wfLI 12) (wCons (wVar 7) wNil))) (wgName 8) (wAsg (wBin wAdd (wVar 3) (wBin wMul (wLc (sTup (wBin wIx (wBin wIx (wVar 8) (wC (.int 1))) (wC (.int 0)))) (wgTup 2 (wgCons (wgName 4) (wgCons (wgName 5) wgNil))) wYes (wVar 5) [4, 5]) (wBin wAdd (wC (.int 1)) (wB wInt1 (wCons (wBin g2 (wBin wIx (wVar 8) (wC (.int 0))) (wC (.str "only"))) wNil))))) (wgName 3))) F ((wl q1.1 ++ q1.2.1).map id) (base (inners d1) (some (questD refs q1)) z7 z8) μ1 := by
      intro F hF
      refine for_done id (fun done ρ μ' => μ' = μ1 ∧ ∃ z6 z7 z8, ρ = base (inners d1 ++ done.flatMap inD2) z6 z7 z8) _ [] _ _ ?_ ⟨rfl, some (questD refs q1), z7, z8, by rw [List.flatMap_nil, List.append_nil]⟩ (fun ρ' μ' h => hF ρ' μ' (by rwa [List.nil_append] at h))
      rintro d2 x r2 ρ μ2 F2 hd2 ⟨rfl, y6, y7, y8, rfl⟩ _ hF2 _
      have hlen2 := flat_len (f := inD2) hd2
      rw [List.nil_append] at hlen2
      have hm2 : x ∈ wl q1.1 ++ q1.2.1 := by
        have : x ∈ d2 ++ x :: r2 := List.mem_append_right _ List.mem_cons_self
        rw [hd2] at this
        exact this
      have px : POk T x := by
        rcases List.mem_append.mp hm2 with hx | hx
        · unfold wl at hx
          rcases qo.hw with e | hp
          · rw [e] at hx; cases hx
          · split at hx
            · cases hx
            · rw [List.mem_singleton] at hx
              subst hx
              exact hp
        · exact qo.hs x hx
      refine ⟨rfl, x, rfl, px.part, by decide, px.nt, ?_⟩
      have loop3 : ∀ F : DEnds, (∀ ρ' μ', (μ' = μ2 ∧ ∃ z6 z7 z8, ρ' = base (inners d1 ++ d2.flatMap inD2 ++ (innD x).flatMap tabsO) z6 z7 z8) → F.nx ρ' μ') →
          forW (wgName 8) (wAsg (wBin wAdd (wVar 3) (wBin wMul (wLc (sTup (wBin wIx (wBin wIx (wVar 8) (wC (.int 1))) (wC (.int 0)))) (wgTup 2 (wgCons (wgName 4) (wgCons (wgName 5) wgNil))) wYes (wVar 5) [4, 5]) (wBin wAdd (wC (.int 1)) (wB wInt1 (wCons (wBin g2 (wBin wIx (wVar 8) (wC (.int 0))) (wC (.str "only"))) wNil))))) (wgName 3)) F ((innD x).map id) (base (inners d1 ++ d2.flatMap inD2) y6 (some x) y8) μ2 := by
        intro F hF
        refine for_done id (fun done ρ μ' => μ' = μ2 ∧ ∃ z6 z7 z8, ρ = base (inners d1 ++ d2.flatMap inD2 ++ done.flatMap tabsO) z6 z7 z8) _ [] _ _ ?_ ⟨rfl, y6, some x, y8, by rw [List.flatMap_nil, List.append_nil]⟩ (fun ρ' μ' h => hF ρ' μ' (by rwa [List.nil_append] at h))
        rintro d3 f r3 ρ μ3 F3 hd3 ⟨rfl, x6, x7, x8, rfl⟩ _ hF3 _
        have hlen3 := flat_len (f := tabsO) hd3
        rw [List.nil_append] at hlen3
        have hlen3 : (d3.flatMap tabsO).length + (tabsO f).length ≤ (inD2 x).length := hlen3
        have hm3 : f ∈ innD x := by
          have : f ∈ d3 ++ f :: r3 := List.mem_append_right _ List.mem_cons_self
          rw [hd3] at this
          exact this
        have gf := px.inn f hm3
        have ht := gf.tabs.1
        obtain ⟨w, own, rs, c, rfl, hw, o0, o2, ho⟩ := gf.ex
        have fin : ∀ l : List DV, l = (tabsO (.tup (.str w :: .tup [.tup own, c] :: rs))).map .str → F3.nx (base (inners d1 ++ d2.flatMap inD2 ++ d3.flatMap tabsO) x6 x7 (some (.tup (.str w :: .tup [.tup own, c] :: rs))) |>.set 3 (some (.lst ((inners d1 ++ d2.flatMap inD2 ++ d3.flatMap tabsO).map .str ++ l)))) μ3 := by
          rintro l rfl
          refine hF3 _ _ ⟨rfl, x6, x7, some (.tup (.str w :: .tup [.tup own, c] :: rs)), ?_⟩
          rw [flat_snoc, ← List.append_assoc, ← List.map_append]
          rfl
        have hacc : (inners d1 ++ d2.flatMap inD2 ++ d3.flatMap tabsO).length + (tabsO (.tup (.str w :: .tup [.tup own, c] :: rs))).length ≤ 24 := by
          rw [List.length_append, List.length_append]
          omega
        have e10 : atI (DV.str w :: .tup [.tup own, c] :: rs) 1 = some (.tup [.tup own, c]) := atI_of (i := 1) rfl
        show atW (atI (DV.str w :: .tup [.tup own, c] :: rs) 1) _
        rw [e10]
        refine tabs_comp (i := 4) (j := 5) (fun r hr => let ⟨a, t, e, _⟩ := ho r hr; ⟨a, t, e⟩) (by omega) (by decide) (by show 5 < 15; decide) _ ?_
        show atW (atI (DV.str w :: .tup [.tup own, c] :: rs) 0) _
        rw [atI_zero]
        have et : tabsO (.tup (.str w :: .tup [.tup own, c] :: rs)) = if isOnly (.tup (.str w :: .tup [.tup own, c] :: rs)) then own.map tabOf ++ own.map tabOf else own.map tabOf := rfl
        cases hb : decide (w = "only") with
        | true =>
          rw [show isOnly (.tup (.str w :: .tup [.tup own, c] :: rs)) = true from hb, if_pos rfl] at et
          refine EQ true hb ⟨by decide, by decide, ?_, ?_, ?_⟩
          · rw [List.length_map, List.length_map]
            exact sl (show own.length * 2 ≤ _ by omega)
          · rw [et] at hacc
            rw [List.length_append] at hacc
            show (List.map DV.str _).length + (List.replicate 2 ((own.map tabOf).map DV.str)).flatten.length ≤ _
            simp only [List.replicate, List.flatten_cons, List.flatten_nil, List.append_nil, List.length_append, List.length_map] at hacc ⊢
            exact sl (by omega)
          · refine fin _ ?_
            rw [et, List.map_append]
            show (List.replicate 2 ((own.map tabOf).map DV.str)).flatten = _
            simp only [List.replicate, List.flatten_cons, List.flatten_nil, List.append_nil]
        | false =>
          rw [show isOnly (.tup (.str w :: .tup [.tup own, c] :: rs)) = false from hb, if_neg Bool.false_ne_true] at et
          refine EQ false hb ⟨by decide, by decide, ?_, ?_, ?_⟩
          · rw [List.length_map, List.length_map]
            exact sl (show own.length * 1 ≤ _ by omega)
          · rw [et] at hacc
            show (List.map DV.str _).length + (List.replicate 1 ((own.map tabOf).map DV.str)).flatten.length ≤ _
            simp only [List.replicate, List.flatten_cons, List.flatten_nil, List.append_nil, List.length_append, List.length_map] at hacc ⊢
            exact sl (by omega)
          · refine fin _ ?_
            rw [et]
            show (List.replicate 1 ((own.map tabOf).map DV.str)).flatten = _
            simp only [List.replicate, List.flatten_cons, List.flatten_nil, List.append_nil]
      have := loop3 F2 (fun ρ' μ' ⟨e1, w6, w7, w8, e2⟩ => hF2 _ _ ⟨e1, w6, w7, w8, by rw [e2, flat_snoc, ← List.append_assoc]; rfl⟩)
      rw [List.map_id] at this
      exact this
    have := loop F1 (fun ρ' μ' ⟨e1, w6, w7, w8, e2⟩ => hF1 _ _ ⟨e1, w6, w7, w8, by
      have e3 : inners (d1 ++ [q1]) = inners d1 ++ (wl q1.1 ++ q1.2.1).flatMap inD2 := by
        rw [← innQ_eq]
        exact flat_snoc
      rw [e2, e3]⟩)
    rw [List.map_id] at this
    obtain ⟨wh, heard, o, lim⟩ := q1
    have h4 : heard.length ≤ 4 := h4
    rcases qo.hw with e | hp
    · have e : wh = .none := e
      subst e
      exact ⟨sl (Nat.zero_le _), sl (by rw [List.length_nil]; omega), this⟩
    · obtain ⟨w, r, e⟩ := hp.part.head
      have e : wh = .tup (.str w :: r) := e
      subst e
      exact ⟨sl (Nat.le_of_ble_eq_true rfl), sl (show 1 + heard.length ≤ _ by omega), this⟩
  · rintro ρ' μ' ⟨rfl, z6, z7, z8, rfl⟩
    exact law_end_shapes g1 IN fw k
end
end K55

set_option Elab.async false
set_option linter.all false
set_option maxRecDepth 100000
set_option maxHeartbeats 2000000
/-! K55d: names and inner questions drawn. -/
namespace K55
open PySem L2 Dz Qz PyProof.Rows

def wfNames : WF := fun ds μ Q => ∃ a c m, ds = [.obj a, .int 17] ∧ Dk μ a c (m + 2) ∧ ∀ (l : List DV) p μ', l.length = 17 → (∀ d ∈ l, IsNm d) → l.Nodup → Dk μ' a c m → p ≠ a → p ≠ c → μ' p = some (.lst l) → Q (.obj p) μ'
abbrev wordsA : Str := "less is plus from in only where not first value exists same t tell limit and order"
theorem words_ok : (Txt.split wordsA " ").length = 17 ∧ (Txt.split wordsA " ").all (fun x => plainS x && decide (x.length ≤ 8)) = true := by decide +kernel
theorem letters_ok : ("abcdefghijklmnopq" : Str).cps.toList.length = 17 ∧ plainS ("abcdefghijklmnopq" : Str) = true := by decide +kernel
theorem words_nd : (Txt.split wordsA " ").Nodup := by decide +kernel
theorem letters_nd : (("abcdefghijklmnopq" : Str).cps.toList.map fun c => (⟨#[c]⟩ : Str)).Nodup := by decide +kernel
theorem names_nd {tbl : List Str} {f : Int} (ht : tbl.Nodup) (hl : tbl.length = 17) (f0 : 0 ≤ f) {l : List DV} (h : l.length = 17) (hg : ∀ i : Nat, i < 17 → ∃ s, l[i]? = some (DV.str s) ∧ tbl[((f + 5 * (i : Int)) % 17).toNat]? = some s) : l.Nodup := by
  unfold List.Nodup
  rw [List.pairwise_iff_getElem]
  intro i j hi hj hij e
  rw [h] at hi hj
  obtain ⟨s, e1, t1⟩ := hg i hi
  obtain ⟨u, e2, t2⟩ := hg j hj
  have h1 : l[i]? = l[j]? := by rw [List.getElem?_eq_getElem (by omega), List.getElem?_eq_getElem (by omega), e]
  rw [e1, e2] at h1
  have hsu : s = u := by simpa using h1
  subst hsu
  have := getElem?_inj' ht t1 t2
  omega
theorem p_law_names (ds : List DV) (μ : Mh) (Q : DV → Mh → Prop) (hl : ds.length = 2) (h : wfNames ds μ Q) :
    K55.w_law_names drawW { nx := fun _ μ' => Q .none μ', rt := Q } (ds.map some ++ List.replicate 4 none) μ := by
  obtain ⟨a, c, m, rfl, hd, k⟩ := h
  refine ⟨rfl, draw_c (m := m + 1) (by decide) (by decide) hd fun f μ1 f0 f1 d1 o1 => ?_⟩
  refine ⟨rfl, draw_c (by decide) (by decide) d1 fun w μ2 w0 w1 d2 o2 => ⟨sl (Nat.le_of_ble_eq_true rfl), rfl, rfl, by decide +kernel, sl (by decide +kernel), ?_⟩⟩
  refine ⟨by decide, by decide, ?_⟩
  obtain ⟨hw1, hw2⟩ := words_ok
  obtain ⟨hl1, hl2⟩ := letters_ok
  rw [List.all_eq_true] at hw2
  let tbl : List Str := if w = 0 then Txt.split wordsA " " else ("abcdefghijklmnopq" : Str).cps.toList.map fun c => (⟨#[c]⟩ : Str)
  have t17 : tbl.length = 17 := by
    show (if w = 0 then Txt.split wordsA " " else ("abcdefghijklmnopq" : Str).cps.toList.map fun c => (⟨#[c]⟩ : Str)).length = 17
    split
    · exact hw1
    · rw [List.length_map]
      exact hl1
  have tnd : tbl.Nodup := by
    show (if w = 0 then Txt.split wordsA " " else ("abcdefghijklmnopq" : Str).cps.toList.map fun c => (⟨#[c]⟩ : Str)).Nodup
    split
    · exact words_nd
    · exact letters_nd
  refine comp_inv (J := fun acc rest μ' => μ' = μ2 ∧ (∀ y ∈ acc, IsNm y) ∧ (∀ i, i < acc.length → ∃ s, acc[i]? = some (.str s) ∧ tbl[((f + 5 * (i : Int)) % 17).toNat]? = some s) ∧ (rngD 0 17).drop acc.length = rest ∧ acc.length + rest.length = 17) (rngD 0 17) [] μ2 _ (fun x rest acc μ3 P hi hacc hP hP2 => ?_) (by rw [rngD_len, List.length_nil]; exact sl (by decide)) ⟨rfl, (fun y hy => by cases hy), (fun i hi => absurd hi (Nat.not_lt_zero _)), rfl, by rw [rngD_len]; rfl⟩ (fun l μ3 hi => ?_)
  · obtain ⟨rfl, hnm, hix, hdr, hlen⟩ := hi
    rw [List.length_cons] at hlen
    have hx : x = .int (acc.length : Nat) := by
      have h1 : ((rngD 0 17).drop acc.length)[0]? = some x := by rw [hdr]; rfl
      rw [List.getElem?_drop, Nat.add_zero] at h1
      unfold rngD at h1
      rw [List.getElem?_map, List.getElem?_range (by omega)] at h1
      have h2 : DV.int (0 + ((acc.length : Nat) : Int)) = x := by simpa using h1
      rw [← h2, Int.zero_add]
    subst hx
    have hdr2 : (rngD 0 17).drop (acc.length + 1) = rest := by
      rw [← List.drop_drop, hdr]
      rfl
    have j0 : 0 ≤ (f + 5 * (acc.length : Int)) % 17 := Int.emod_nonneg _ (by decide)
    have j1 : (f + 5 * (acc.length : Int)) % 17 < 17 := Int.emod_lt_of_pos _ (by decide)
    refine ⟨sl (Nat.le_of_ble_eq_true rfl), ?_⟩
    have fin : ∀ (s : Str), IsNm (.str s) → tbl[((f + 5 * (acc.length : Int)) % 17).toNat]? = some s → P (acc ++ [.str s]) μ3 := fun s h1 h2 => by
      refine hP _ _ ⟨rfl, fun y hy => ?_, fun i hi => ?_, by rw [List.length_append]; exact hdr2, by rw [List.length_append, List.length_singleton]; omega⟩
      · rcases List.mem_append.mp hy with hy | hy
        · exact hnm y hy
        · rw [List.mem_singleton] at hy
          rw [hy]
          exact h1
      · rw [List.length_append, List.length_singleton] at hi
        by_cases hlt : i < acc.length
        · rw [List.getElem?_append_left hlt]
          exact hix i hlt
        · have e : i = acc.length := by omega
          subst e
          exact ⟨s, by rw [List.getElem?_append_right (Nat.le_refl _), Nat.sub_self]; rfl, h2⟩
    have hw01 : w = 0 ∨ w = 1 := by omega
    have ew : atI [DV.lst ((Txt.split wordsA " ").map .str), .str "abcdefghijklmnopq"] w = some (if w = 0 then DV.lst ((Txt.split wordsA " ").map .str) else .str "abcdefghijklmnopq") := by
      rcases hw01 with rfl | rfl
      · exact atI_zero
      · exact atI_of (i := 1) rfl
    show atW (atI [DV.lst ((Txt.split wordsA " ").map .str), .str "abcdefghijklmnopq"] w) _
    rw [ew]
    refine ⟨cm_l ⟨by decide, by decide⟩, by decide, ?_⟩
    rcases hw01 with rfl | rfl
    · skip
      have hlt : ((f + 5 * (acc.length : Int)) % 17).toNat < (Txt.split wordsA " ").length := by rw [hw1]; omega
      have e1 := List.getElem?_eq_getElem hlt
      have e2 : atI ((Txt.split wordsA " ").map DV.str) ((f + 5 * (acc.length : Int)) % 17) = some (.str (Txt.split wordsA " ")[((f + 5 * (acc.length : Int)) % 17).toNat]) := by
        have := atI_of (xs := (Txt.split wordsA " ").map DV.str) (i := ((f + 5 * (acc.length : Int)) % 17).toNat) (x := .str (Txt.split wordsA " ")[((f + 5 * (acc.length : Int)) % 17).toNat]) (by rw [List.getElem?_map, e1]; rfl)
        rw [Int.toNat_of_nonneg j0] at this
        exact this
      show atW (atI ((Txt.split wordsA " ").map DV.str) _) _
      rw [e2]
      have := hw2 _ (List.getElem_mem hlt)
      rw [Bool.and_eq_true, decide_eq_true_eq] at this
      exact ⟨hacc, fin _ ⟨_, rfl, this.1, this.2⟩ e1⟩
    · refine ⟨sl (by decide +kernel), ?_⟩
      have hlt : ((f + 5 * (acc.length : Int)) % 17).toNat < ("abcdefghijklmnopq" : Str).cps.toList.length := by rw [hl1]; omega
      have e1 := List.getElem?_eq_getElem hlt
      have e2 := atI_of (xs := ("abcdefghijklmnopq" : Str).cps.toList) (i := ((f + 5 * (acc.length : Int)) % 17).toNat) e1
      rw [Int.toNat_of_nonneg j0] at e2
      rw [e2]
      exact ⟨hacc, fin _ ⟨_, rfl, plain_one (plain_iff.mp hl2 _ (List.getElem_mem hlt)), Nat.le_of_ble_eq_true rfl⟩ (by
        show (("abcdefghijklmnopq" : Str).cps.toList.map fun c => (⟨#[c]⟩ : Str))[_]? = _
        rw [List.getElem?_map, e1]
        rfl)⟩
  · obtain ⟨rfl, hnm, hix, _, hlen⟩ := hi
    rw [List.length_nil, Nat.add_zero] at hlen
    intro p hp
    obtain ⟨⟨oa, ha⟩, ⟨oc, hc⟩⟩ := d2.isSome
    have pa : p ≠ a := fun e => by rw [e, ha] at hp; cases hp
    have pc : p ≠ c := fun e => by rw [e, hc] at hp; cases hp
    exact k l p _ hlen hnm (names_nd tnd t17 f0 hlen fun i hi => hix i (by omega)) (d2.keep (updM_ne fun e => pa e.symm) (updM_ne fun e => pc e.symm)) pa pc updM_same
/-! ### a deck and a list of names -/
structure Hand (μ : Mh) (a c p : Addr) (n m : Nat) : Prop where
  dk : Dk μ a c m
  pa : p ≠ a
  pc : p ≠ c
  ex : ∃ pl, μ p = some (.lst pl) ∧ n ≤ pl.length ∧ pl.length ≤ 100 ∧ ∀ d ∈ pl, IsNm d
def Rest3 (μ μ' : Mh) (a c p : Addr) : Prop := ∀ b, b ≠ a → b ≠ c → b ≠ p → μ' b = μ b
section
variable {μ μ' μ'' : Mh} {a c p : Addr} {n m n' m' : Nat}
theorem Rest3.refl : Rest3 μ μ a c p := fun _ _ _ _ => rfl
theorem Rest3.trans (h : Rest3 μ μ' a c p) (h' : Rest3 μ' μ'' a c p) : Rest3 μ μ'' a c p := fun b x y z => (h' b x y z).trans (h b x y z)
theorem Rest3.deck (h : OnlyDeck μ μ' a c) : Rest3 μ μ' a c p := fun b x y _ => h b x y
theorem Rest3.put {o : MO} : Rest3 μ (updM μ p o) a c p := fun b _ _ z => updM_ne z
theorem Hand.le (h : Hand μ a c p n m) (l : n' ≤ n) (l' : m' ≤ m) : Hand μ a c p n' m' := ⟨h.dk.le l', h.pa, h.pc, let ⟨pl, e, r1, r2⟩ := h.ex; ⟨pl, e, Nat.le_trans l r1, r2⟩⟩
theorem Hand.step (h : Hand μ a c p n m) (d : Dk μ' a c m') (o : OnlyDeck μ μ' a c) : Hand μ' a c p n m' := ⟨d, h.pa, h.pc, let ⟨pl, e, r⟩ := h.ex; ⟨pl, (o p h.pa h.pc).trans e, r⟩⟩
theorem Hand.pop {P : DV → Mh → Prop} (h : Hand μ a c p (n + 1) m) (k : ∀ y μ', IsNm y → Hand μ' a c p n m → Rest3 μ μ' a c p → P y μ') : wPop (.obj p) μ P := by
  obtain ⟨pl, e, l, l2, hn⟩ := h.ex
  obtain ⟨y, ey, my⟩ := last_of (show 0 < pl.length by omega)
  exact pop_o e ey (k y _ (hn y my) ⟨h.dk.keep (updM_ne fun e => h.pa e.symm) (updM_ne fun e => h.pc e.symm), h.pa, h.pc, _, updM_same, by rw [List.length_dropLast]; omega, by rw [List.length_dropLast]; omega, fun d hd => hn d (mem_dl hd)⟩ Rest3.put)
end
/-- an inner question's part, drawn -/
structure GPart (T : List Str) (d : DV) : Prop where
  gin : GIn T d
  siz : Siz 120 5 d
  nd : noDct d = true
  nt : ∀ n, ntF n d = true
/-- own refs, drawn -/
structure Own (T : List Str) (own : List DV) : Prop where
  pos : 0 < own.length
  two : own.length ≤ 2
  all : ∀ r ∈ own, ∃ a t : Str, r = .tup [.str a, .str t] ∧ plainS a = true ∧ a.length ≤ 8 ∧ t ∈ T ∧ plainS t = true ∧ t.length ≤ 8
abbrev colD (a : Str) : DV := .tup [.str "column", .str a, .str "c"]
theorem col_siz {a : Str} (h : plainS a = true) (l : a.length ≤ 8) (p : Nat) : Siz 18 (p + 1) (colD a) :=
  (Siz.tup (Sizs.cons (wordS (x := "column") (n := 6) (by decide +kernel) (by decide +kernel) p) (Sizs.cons ((Siz.str h).le l (Nat.zero_le _)) (Sizs.cons (wordS (x := "c") (n := 1) (by decide +kernel) (by decide +kernel) p) nilS)))).le (by omega) (Nat.le_refl _)
theorem own_siz {T : List Str} {own : List DV} (h : Own T own) (p : Nat) : Siz 40 (p + 2) (.tup own) := by
  have := Sizs.all (N := 18) (p := p + 1) (ds := own) (fun r hr => by
    obtain ⟨a, t, rfl, h1, h2, h3, h4, h5⟩ := h.all r hr
    exact (Siz.tup (Sizs.cons ((Siz.str h1).le h2 (Nat.zero_le p)) (Sizs.cons ((Siz.str h4).le h5 (Nat.zero_le p)) nilS))).le (by omega) (Nat.le_refl _))
  refine (Siz.tup this).le ?_ (Nat.le_refl _)
  have := h.two
  omega
theorem own_nd {T : List Str} {own : List DV} (h : Own T own) : noDct (.tup own) = true := noDcts_of fun r hr => by
  obtain ⟨a, t, rfl, _⟩ := h.all r hr
  rfl
theorem gpart_ex {T : List Str} {own : List DV} {x y : Str} (h : Own T own) (px : plainS x = true) (lx : x.length ≤ 8) (py : plainS y = true) (ly : y.length ≤ 8) : GPart T (.tup [.str "exists", .tup [.tup own, .tup [.str "same", colD x, colD y]]]) := by
  have hc : Part 2 (.tup [.str "same", colD x, colD y]) := .mk (.b4 (.inr (.inr (.inl rfl)))) fun p hp => by
    simp only [List.mem_cons, List.not_mem_nil, or_false] at hp
    rcases hp with rfl | rfl <;> exact .mk .col fun p hp => by cases hp
  have hb : Below (.tup [.str "exists", .tup [.tup own, .tup [.str "same", colD x, colD y]]]) [([1, 1], .tup [.str "same", colD x, colD y])] := .b2
  have sc : Siz 44 2 (.tup [.str "same", colD x, colD y]) := (Siz.tup (Sizs.cons (wordS (x := "same") (n := 4) (by decide +kernel) (by decide +kernel) 1) (Sizs.cons (col_siz px lx 0) (Sizs.cons (col_siz py ly 0) nilS)))).le (by omega) (Nat.le_refl _)
  refine ⟨⟨⟨_, own, [], _, rfl, .inl rfl, h.pos, h.two, fun r hr => let ⟨a, t, e, _, _, h1, h2, h3⟩ := h.all r hr; ⟨a, t, e, h1, h2, h3⟩⟩, by kernel_rfl, ?_, ?_⟩, ?_, nd2 (nd22 (own_nd h) rfl), nt_mk hb rfl ?_⟩
  · rw [hb.fn]
    intro p hp
    rw [List.mem_singleton] at hp
    subst hp
    kernel_rfl
  · exact .mk hb fun p hp => by
      rw [List.mem_singleton] at hp
      subst hp
      exact hc.le (by decide)
  · exact (Siz.tup (Sizs.cons (wordS (x := "exists") (n := 6) (by decide +kernel) (by decide +kernel) 4) (Sizs.cons ((Siz.tup (Sizs.cons ((own_siz h 0).le (Nat.le_refl 40) (show 2 ≤ 3 by decide)) (Sizs.cons (sc.le (Nat.le_refl 44) (show 2 ≤ 3 by decide)) nilS))).le (Nat.le_refl _) (Nat.le_refl _)) nilS))).le (by omega) (by omega)
  · intro p hp
    rw [List.mem_singleton] at hp
    subst hp
    exact nt_mk (.b4 (.inr (.inr (.inl rfl)))) (by kernel_rfl) fun p hp => by
      simp only [List.mem_cons, List.not_mem_nil, or_false] at hp
      rcases hp with rfl | rfl <;> exact nt_mk .col (by kernel_rfl) fun p hp => by cases hp
theorem gpart_of {T : List Str} {own : List DV} {x y z w : Str} (hw : w = "only" ∨ w = "first") (h : Own T own) (px : plainS x = true) (lx : x.length ≤ 8) (py : plainS y = true) (ly : y.length ≤ 8) (pz : plainS z = true) (lz : z.length ≤ 8) :
    GPart T (.tup [.str w, .tup [.tup own, .tup [.str "same", colD x, colD y]], .tup [.str "plus", colD z, .int 1]]) := by
  have hc : Part 2 (.tup [.str "same", colD x, colD y]) := .mk (.b4 (.inr (.inr (.inl rfl)))) fun p hp => by
    simp only [List.mem_cons, List.not_mem_nil, or_false] at hp
    rcases hp with rfl | rfl <;> exact .mk .col fun p hp => by cases hp
  have hz : Part 2 (.tup [.str "plus", colD z, .int 1]) := .mk (.b1 (.inl rfl)) fun p hp => by
    rw [List.mem_singleton] at hp
    subst hp
    exact .mk .col fun p hp => by cases hp
  have hb : Below (.tup [.str w, .tup [.tup own, .tup [.str "same", colD x, colD y]], .tup [.str "plus", colD z, .int 1]]) [([1, 1], .tup [.str "same", colD x, colD y]), ([2], .tup [.str "plus", colD z, .int 1])] := .b3 hw
  have sc : Siz 44 2 (.tup [.str "same", colD x, colD y]) := (Siz.tup (Sizs.cons (wordS (x := "same") (n := 4) (by decide +kernel) (by decide +kernel) 1) (Sizs.cons (col_siz px lx 0) (Sizs.cons (col_siz py ly 0) nilS)))).le (by omega) (Nat.le_refl _)
  have sz : Siz 26 2 (.tup [.str "plus", colD z, .int 1]) := (Siz.tup (Sizs.cons (wordS (x := "plus") (n := 4) (by decide +kernel) (by decide +kernel) 1) (Sizs.cons (col_siz pz lz 0) (Sizs.cons ((Siz.int (i := 1) (by decide)).le (Nat.le_refl 0) (Nat.zero_le 1)) nilS)))).le (by omega) (Nat.le_refl _)
  have hwp : plainS w = true ∧ w.length ≤ 5 ∧ isIn (.tup [.str w, .tup [.tup own, .tup [.str "same", colD x, colD y]], .tup [.str "plus", colD z, .int 1]]) = true ∧ ntok (.tup [.str w, .tup [.tup own, .tup [.str "same", colD x, colD y]], .tup [.str "plus", colD z, .int 1]]) = true := by
    rcases hw with rfl | rfl <;> exact ⟨by decide +kernel, by decide +kernel, by kernel_rfl, by kernel_rfl⟩
  obtain ⟨pw1, pw2, pw3, pw4⟩ := hwp
  refine ⟨⟨⟨_, own, _, _, rfl, .inr hw, h.pos, h.two, fun r hr => let ⟨a, t, e, _, _, h1, h2, h3⟩ := h.all r hr; ⟨a, t, e, h1, h2, h3⟩⟩, pw3, ?_, ?_⟩, ?_, nd3 (nd22 (own_nd h) rfl) rfl, nt_mk hb pw4 ?_⟩
  · rw [hb.fn]
    intro p hp
    simp only [List.mem_cons, List.not_mem_nil, or_false] at hp
    rcases hp with rfl | rfl
    · kernel_rfl
    · kernel_rfl
  · exact .mk hb fun p hp => by
      simp only [List.mem_cons, List.not_mem_nil, or_false] at hp
      rcases hp with rfl | rfl
      · exact hc.le (by decide)
      · exact hz.le (by decide)
  · exact (Siz.tup (Sizs.cons ((Siz.str pw1).le pw2 (Nat.zero_le 4)) (Sizs.cons ((Siz.tup (Sizs.cons ((own_siz h 0).le (Nat.le_refl 40) (show 2 ≤ 3 by decide)) (Sizs.cons (sc.le (Nat.le_refl 44) (show 2 ≤ 3 by decide)) nilS))).le (Nat.le_refl _) (Nat.le_refl _)) (Sizs.cons (sz.le (Nat.le_refl 26) (show 2 ≤ 4 by decide)) nilS)))).le (by omega) (by omega)
  · intro p hp
    simp only [List.mem_cons, List.not_mem_nil, or_false] at hp
    rcases hp with rfl | rfl
    · exact nt_mk (.b4 (.inr (.inr (.inl rfl)))) (by kernel_rfl) fun p hp => by
        simp only [List.mem_cons, List.not_mem_nil, or_false] at hp
        rcases hp with rfl | rfl <;> exact nt_mk .col (by kernel_rfl) fun p hp => by cases hp
    · exact nt_mk (.b1 (.inl rfl)) (by kernel_rfl) fun p hp => by
        rw [List.mem_singleton] at hp
        subst hp
        exact nt_mk .col (by kernel_rfl) fun p hp => by cases hp
def wfInPart : WF := fun ds μ Q => ∃ (a c p : Addr) (n m : Nat) (al0 : Str) (t0 : DV) (rr : List DV) (tabs T : List Str), ds = [.obj a, .tup (.tup [.str al0, t0] :: rr), .obj p, .lst (tabs.map .str)] ∧ plainS al0 = true ∧ al0.length ≤ 8 ∧ 0 < tabs.length ∧ tabs.length ≤ 100 ∧ (∀ t ∈ tabs, t ∈ T ∧ plainS t = true ∧ t.length ≤ 8) ∧ Hand μ a c p (n + 2) (m + 4) ∧ ∀ d μ', GPart T d → Hand μ' a c p n m → Rest3 μ μ' a c p → Q d μ'
theorem p_law_inner_part (ds : List DV) (μ : Mh) (Q : DV → Mh → Prop) (hl : ds.length = 4) (h : wfInPart ds μ Q) :
    w_law_inner_part pickW drawW { nx := fun _ μ' => Q .none μ', rt := Q } (ds.map some ++ List.replicate 4 none) μ := by
  obtain ⟨a, c, p, n, m, al0, t0, rr, tabs, T, rfl, pl0, ll0, tp, tl, ht, hh, k⟩ := h
  have PO := @Hand.pop
  have EQ := @Qz.eq_str
  unfold w_law_inner_part
  generalize wPop = g1 at PO ⊢
  generalize wEqL = g2 at EQ ⊢
  refine ⟨rfl, draw_c (m := m + 3) (by decide) (by decide) hh.dk fun r μ1 r0 r1 d1 o1 => ⟨by omega, by omega, ?_⟩⟩
  have hh1 := hh.step d1 o1
  refine comp_inv (J := fun acc rest μ' => Hand μ' a c p (n + rest.length) (m + 1 + rest.length) ∧ Rest3 μ μ' a c p ∧ (∀ r ∈ acc, ∃ a t : Str, r = .tup [.str a, .str t] ∧ plainS a = true ∧ a.length ≤ 8 ∧ t ∈ T ∧ plainS t = true ∧ t.length ≤ 8) ∧ acc.length + rest.length = (1 + r).toNat) _ [] μ1 _ (fun x rest acc μ2 P hi hacc hP hP2 => ?_) (by rw [rngD_len, List.length_nil]; exact sl (by omega)) ⟨hh1.le (by rw [rngD_len]; omega) (by rw [rngD_len]; omega), Rest3.deck o1, (fun r hr => by cases hr), by rw [rngD_len, List.length_nil, Nat.zero_add]⟩ (fun own μ2 hi => ?_)
  · obtain ⟨h2, s2, ha2, hl2⟩ := hi
    rw [List.length_cons] at h2 hl2
    rw [← Nat.add_assoc, ← Nat.add_assoc] at h2
    refine PO h2 fun y μ3 hy h3 s3 => ?_
    refine ⟨rfl, pick_c (y := .lst (tabs.map .str)) (by show 0 < (tabs.map DV.str).length; rw [List.length_map]; exact tp) (by show (tabs.map DV.str).length ≤ _; rw [List.length_map]; omega) h3.dk fun t μ4 htm d4 o4 => ?_⟩
    have htm' : t ∈ tabs.map DV.str := htm
    rw [List.mem_map] at htm'
    obtain ⟨t, hm, rfl⟩ := htm'
    obtain ⟨y, rfl, py, ly⟩ := hy
    refine ⟨sl (Nat.le_of_ble_eq_true rfl), hacc, hP _ _ ⟨h3.step d4 o4, (s2.trans s3).trans (Rest3.deck o4), fun r hr => ?_, by rw [List.length_append, List.length_singleton]; omega⟩⟩
    rcases List.mem_append.mp hr with hr | hr
    · exact ha2 r hr
    · rw [List.mem_singleton] at hr
      obtain ⟨h1, h2, h3⟩ := ht t hm
      exact ⟨y, t, hr, py, ly, h1, h2, h3⟩
  · obtain ⟨h2, s2, ha2, hl2⟩ := hi
    rw [List.length_nil, Nat.add_zero] at h2 hl2
    have ho : Own T own := ⟨by omega, by omega, ha2⟩
    have hd2 : Dk μ2 a c (m + 1) := h2.dk.le (by omega)
    rcases snoc_of own with rfl | ⟨init, e, rfl⟩
    · exact absurd ho.pos (Nat.lt_irrefl 0)
    obtain ⟨x, tx, rfl, px, lx, _⟩ := ho.all e (List.mem_append_right _ List.mem_cons_self)
    have el : atI (init ++ [DV.tup [.str x, .str tx]]) (-1) = some (.tup [.str x, .str tx]) := by
      unfold atI ixN
      rw [if_neg (by decide), List.length_append, List.length_singleton]
      rw [if_pos (by omega)]
      show (init ++ [DV.tup [.str x, .str tx]])[(-1 + ((init.length + 1 : Nat) : Int)).toNat]? = _
      rw [show (-1 + ((init.length + 1 : Nat) : Int)).toNat = init.length by omega, List.getElem?_append_right (Nat.le_refl _), Nat.sub_self]
      rfl
    show atW (atI (init ++ [DV.tup [.str x, .str tx]]) (-1)) _
    rw [el]
    refine ⟨sl (Nat.le_of_ble_eq_true rfl), ?_⟩
    show atW (atI (DV.tup [.str al0, t0] :: rr) 0) _
    rw [atI_zero]
    refine ⟨sl (Nat.le_of_ble_eq_true rfl), sl (Nat.le_of_ble_eq_true rfl), sl (Nat.le_of_ble_eq_true rfl), sl (Nat.le_of_ble_eq_true rfl), rfl, pick_c (y := .lst [.str "exists", .str "only", .str "first"]) (by decide) (by decide) hd2 fun w μ3 hw d3 o3 => ?_⟩
    have hh3 : Hand μ3 a c p n m := (h2.le (by omega) (Nat.le_refl _)).step d3 o3
    have s3 := s2.trans (Rest3.deck (p := p) o3)
    have hw : w ∈ [DV.str "exists", .str "only", .str "first"] := hw
    have hx := gpart_ex ho px lx pl0 ll0
    -- own's first
    obtain ⟨e0, er, he0⟩ : ∃ e0 er, init ++ [DV.tup [.str x, .str tx]] = e0 :: er := by
      cases init with
      | nil => exact ⟨_, _, rfl⟩
      | cons e0 er => exact ⟨e0, _, rfl⟩
    obtain ⟨z, tz, rfl, pz, lz, _⟩ := ho.all e0 (by rw [he0]; exact List.mem_cons_self)
    have fin : ∀ w : Str, (w = "only" ∨ w = "first") → decide (w = "exists") = false → (wRet (wIf (wTest (wBin g2 (wVar 7) (wC (.str "exists")))) (wTup (wCons (wVar 7) (wCons (wVar 6) wNil))) (wTup (wCons (wVar 7) (wCons (wVar 6) (wCons (wTup (wCons (wC (.str "plus")) (wCons (wTup (wCons (wC (.str "column")) (wCons (wBin wIx (wBin wIx (wVar 4) (wC (.int 0))) (wC (.int 0))) (wCons (wC (.str "c")) wNil)))) (wCons (wC (.int 1)) wNil)))) wNil)))))) { nx := fun _ μ' => Q .none μ', rt := Q }
        [some (.obj a), some (.tup (.tup [.str al0, t0] :: rr)), some (.obj p), some (.lst (tabs.map .str)), some (.tup (init ++ [.tup [.str x, .str tx]])), none, some (.tup [.tup (init ++ [.tup [.str x, .str tx]]), .tup [.str "same", colD x, colD al0]]), some (.str w)] μ3 := fun w hw hd => by
      refine EQ false hd ?_
      show atW (atI (init ++ [DV.tup [.str x, .str tx]]) 0) _
      rw [he0, atI_zero, ← he0]
      exact ⟨sl (Nat.le_of_ble_eq_true rfl), sl (Nat.le_of_ble_eq_true rfl), sl (Nat.le_of_ble_eq_true rfl), k _ _ (gpart_of hw ho px lx pl0 ll0 pz lz) hh3 s3⟩
    simp only [List.mem_cons, List.not_mem_nil, or_false] at hw
    rcases hw with rfl | rfl | rfl
    · exact EQ true (by decide +kernel) ⟨sl (Nat.le_of_ble_eq_true rfl), k _ _ hx hh3 s3⟩
    · exact fin "only" (.inl rfl) (by decide +kernel)
    · exact fin "first" (.inr rfl) (by decide +kernel)
end K55

set_option Elab.async false
set_option linter.all false
set_option maxRecDepth 100000
set_option maxHeartbeats 2000000
/-! K55e: conditions drawn. -/
namespace K55
open PySem L2 Dz Qz PyProof.Rows

/-- an inner question's part, or a sum of it -/
structure One (inner : List DV) (d : DV) : Prop where
  ex : ∃ (w : Str) (r : List DV), d = .tup (.str w :: r) ∧ inF (.str w) [.str "only", .str "first", .str "plus"] = true
  part : Part 5 d
  siz : Siz 130 6 d
  nd : noDct d = true
  nt : ∀ n, ntF n d = true
  inn : innD d = inner
def WSh (inner : List DV) (d : DV) : Prop := ∀ (w : Str) (r : List DV), d = .tup (.str w :: r) → inF (.str w) [.str "less", .str "most", .str "same"] = true →
  ∃ one, One inner one ∧ (d = .tup [.str "most", one, .tup [.str "value", .none]] ∨ d = .tup [.str "same", .tup [.str "value", .str "x"], one])
structure GC (inner : List DV) (j : Nat) (d : DV) : Prop where
  part : Part (6 + j) d
  siz : Siz (150 + 50 * j) (8 + j) d
  nd : noDct d = true
  nt : ∀ n, ntF n d = true
  inn : innD d = inner
  sh : inner ≠ [] → WSh inner d
theorem GC.head {inner : List DV} {j : Nat} {d : DV} (h : GC inner j d) : ∃ w r, d = .tup (.str w :: r) := h.part.head
theorem GC.pok {T : List Str} {inner : List DV} {j : Nat} {d : DV} (h : GC inner j d) (hj : j ≤ 2) (hi : ∀ x ∈ inner, GIn T x) : POk T d := ⟨h.part.le (by omega), h.siz.le (by omega) (by omega), h.nd, fun x hx => hi x (by rw [h.inn] at hx; exact hx), h.nt⟩
theorem GC.le {inner : List DV} {j j' : Nat} {d : DV} (h : GC inner j d) (l : j ≤ j') : GC inner j' d := ⟨h.part.le (by omega), h.siz.le (by omega) (by omega), h.nd, h.nt, h.inn, h.sh⟩
theorem inn_b1 {n : Nat} {x y : DV} {w : Str} (hw : w = "plus" ∨ w = "is") (h : Part n x) (hn : n ≤ 13) : innD (.tup [.str w, x, y]) = innD x := by
  have b : Below (.tup [.str w, x, y]) [([1], x)] := .b1 hw
  have p : Part (n + 1) (.tup [.str w, x, y]) := .mk b fun p hp => by
    rw [List.mem_singleton] at hp
    subst hp
    exact h
  rw [innD_eq p (by omega), b.fn, if_neg (ne_of (by rcases hw with rfl | rfl <;> kernel_rfl)), List.flatMap_cons, List.flatMap_nil, List.append_nil]
theorem inn_no {n : Nat} {x : DV} (h : Part n x) (hn : n ≤ 13) : innD (.tup [.str "not", x]) = innD x := by
  have b : Below (.tup [.str "not", x]) [([1], x)] := .no
  have p : Part (n + 1) (.tup [.str "not", x]) := .mk b fun p hp => by
    rw [List.mem_singleton] at hp
    subst hp
    exact h
  rw [innD_eq p (by omega), b.fn, if_neg (ne_of (by kernel_rfl)), List.flatMap_cons, List.flatMap_nil, List.append_nil]
theorem part_b4 {n : Nat} {x y : DV} {w : Str} (hw : w = "less" ∨ w = "most" ∨ w = "same" ∨ w = "and" ∨ w = "or") (h : Part n x) (h' : Part n y) : Part (n + 1) (.tup [.str w, x, y]) := .mk (.b4 hw) fun p hp => by
  simp only [List.mem_cons, List.not_mem_nil, or_false] at hp
  rcases hp with rfl | rfl
  · exact h
  · exact h'
theorem inn_b4 {n : Nat} {x y : DV} {w : Str} (hw : w = "less" ∨ w = "most" ∨ w = "same" ∨ w = "and" ∨ w = "or") (h : Part n x) (h' : Part n y) (hn : n ≤ 13) : innD (.tup [.str w, x, y]) = innD x ++ innD y := by
  have b : Below (.tup [.str w, x, y]) [([1], x), ([2], y)] := .b4 hw
  rw [innD_eq (part_b4 hw h h') (by omega), b.fn, if_neg (ne_of (by rcases hw with rfl | rfl | rfl | rfl | rfl <;> kernel_rfl)), List.flatMap_cons, List.flatMap_cons, List.flatMap_nil, List.append_nil]
theorem nt_b4 {x y : DV} {w : Str} (hw : w = "less" ∨ w = "most" ∨ w = "same" ∨ w = "and" ∨ w = "or") (h : ∀ n, ntF n x = true) (h' : ∀ n, ntF n y = true) : ∀ n, ntF n (.tup [.str w, x, y]) = true := nt_mk (.b4 hw) (by rcases hw with rfl | rfl | rfl | rfl | rfl <;> kernel_rfl) fun p hp => by
  simp only [List.mem_cons, List.not_mem_nil, or_false] at hp
  rcases hp with rfl | rfl
  · exact h
  · exact h'
theorem nt_b1 {x y : DV} {w : Str} (hw : w = "plus" ∨ w = "is") (hy : ntok (.tup [.str w, x, y]) = true) (h : ∀ n, ntF n x = true) : ∀ n, ntF n (.tup [.str w, x, y]) = true := nt_mk (.b1 hw) hy fun p hp => by
  rw [List.mem_singleton] at hp
  subst hp
  exact h
theorem nt_no {x : DV} (h : ∀ n, ntF n x = true) : ∀ n, ntF n (.tup [.str "not", x]) = true := nt_mk .no (by kernel_rfl) fun p hp => by
  rw [List.mem_singleton] at hp
  subst hp
  exact h
theorem part_val (x : DV) : Part 1 (.tup [.str "value", x]) := .mk .val fun p hp => by cases hp
theorem nt_val (x : DV) : ∀ n, ntF n (.tup [.str "value", x]) = true := nt_mk .val (by kernel_rfl) fun p hp => by cases hp
theorem siz3 {N M : Nat} {p : Nat} {w : Str} {x y : DV} (pw : plainS w = true) (lw : w.length ≤ 5) (hx : Siz N p x) (hy : Siz M p y) : Siz (N + M + 8) (p + 1) (.tup [.str w, x, y]) :=
  (Siz.tup (Sizs.cons ((Siz.str pw).le lw (Nat.zero_le _)) (Sizs.cons hx (Sizs.cons hy nilS)))).le (by omega) (Nat.le_refl _)
theorem siz_val {x : DV} {N : Nat} (h : Siz N 0 x) (p : Nat) : Siz (N + 7) (p + 1) (.tup [.str "value", x]) :=
  (Siz.tup (Sizs.cons (wordS (x := "value") (n := 5) (by decide +kernel) (by decide +kernel) 0) (Sizs.cons h nilS))).le (by omega) (by omega)
theorem leaf_ok {i : Int} (hi : 0 ≤ i) (h2 : i ≤ 10) : Part 2 (.tup [.str "is", .tup [.str "value", .int i], .str "word"]) ∧ Siz 22 3 (.tup [.str "is", .tup [.str "value", .int i], .str "word"]) ∧ (∀ n, ntF n (.tup [.str "is", .tup [.str "value", .int i], .str "word"]) = true) ∧ innD (.tup [.str "is", .tup [.str "value", .int i], .str "word"]) = [] := by
  refine ⟨.mk (.b1 (.inr rfl)) fun p hp => ?_, ?_, nt_b1 (.inr rfl) (by kernel_rfl) (nt_val _), by kernel_rfl⟩
  · rw [List.mem_singleton] at hp
    subst hp
    exact part_val _
  · exact (siz3 (w := "is") (p := 2) (by decide +kernel) (by decide +kernel) ((siz_val (Siz.int (i := i) (by omega)) 0).le (Nat.le_refl 7) (show 1 ≤ 2 by decide)) (wordS (x := "word") (n := 4) (by decide +kernel) (by decide +kernel) 2)).le (by omega) (by omega)
theorem head_of {w w' : Str} {r r' : List DV} (e : DV.tup (.str w :: r) = .tup (.str w' :: r')) : w = w' := DV.str.inj (List.cons.inj (DV.tup.inj e)).1
/-- denied, joined -/
theorem gc_not {inner : List DV} {j : Nat} {d : DV} (h : GC inner j d) (hj : j ≤ 4) : GC inner (j + 1) (.tup [.str "not", d]) := by
  refine ⟨.mk .no fun p hp => ?_, ?_, nd2 h.nd, nt_no h.nt, by rw [inn_no h.part (by omega), h.inn], fun _ w r e hw => ?_⟩
  · rw [List.mem_singleton] at hp
    subst hp
    exact h.part
  · exact (Siz.tup (Sizs.cons (wordS (x := "not") (n := 3) (by decide +kernel) (by decide +kernel) _) (Sizs.cons h.siz nilS))).le (by omega) (by omega)
  · have := head_of e
    subst this
    exact absurd hw (by decide +kernel)
theorem gc_and {inner : List DV} {j : Nat} {d : DV} {i : Int} (h : GC inner j d) (hj : j ≤ 4) (i0 : 0 ≤ i) (i1 : i ≤ 10) : GC inner (j + 1) (.tup [.str "and", d, .tup [.str "is", .tup [.str "value", .int i], .str "word"]]) := by
  obtain ⟨l1, l2, l3, l4⟩ := leaf_ok i0 i1
  refine ⟨part_b4 (.inr (.inr (.inr (.inl rfl)))) h.part (l1.le (show 2 ≤ 6 + j by omega)), ?_, nd3 h.nd rfl, nt_b4 (.inr (.inr (.inr (.inl rfl)))) h.nt l3, by rw [inn_b4 (.inr (.inr (.inr (.inl rfl)))) h.part (l1.le (show 2 ≤ 6 + j by omega)) (by omega), l4, List.append_nil, h.inn], fun _ w r e hw => ?_⟩
  · exact (siz3 (w := "and") (by decide +kernel) (by decide +kernel) h.siz (l2.le (Nat.le_refl 22) (show 3 ≤ 8 + j by omega))).le (by omega) (by omega)
  · have := head_of e
    subst this
    exact absurd hw (by decide +kernel)
theorem gc_or {inner : List DV} {j : Nat} {d : DV} {i : Int} (h : GC inner j d) (hj : j ≤ 4) (i0 : 0 ≤ i) (i1 : i ≤ 10) : GC inner (j + 1) (.tup [.str "or", .tup [.str "is", .tup [.str "value", .int i], .str "word"], d]) := by
  obtain ⟨l1, l2, l3, l4⟩ := leaf_ok i0 i1
  refine ⟨part_b4 (.inr (.inr (.inr (.inr rfl)))) (l1.le (show 2 ≤ 6 + j by omega)) h.part, ?_, nd3 rfl h.nd, nt_b4 (.inr (.inr (.inr (.inr rfl)))) l3 h.nt, by rw [inn_b4 (.inr (.inr (.inr (.inr rfl)))) (l1.le (show 2 ≤ 6 + j by omega)) h.part (by omega), l4, List.nil_append, h.inn], fun _ w r e hw => ?_⟩
  · exact (siz3 (w := "or") (by decide +kernel) (by decide +kernel) (l2.le (Nat.le_refl 22) (show 3 ≤ 8 + j by omega)) h.siz).le (by omega) (by omega)
  · have := head_of e
    subst this
    exact absurd hw (by decide +kernel)
theorem gc_less {a : Str} (h : plainS a = true) (l : a.length ≤ 8) : GC [] 0 (.tup [.str "less", colD a, .tup [.str "value", .int 0]]) := by
  have pc : Part 1 (colD a) := .mk .col fun p hp => by cases hp
  refine ⟨(part_b4 (.inl rfl) pc (part_val _)).le (by omega), ?_, rfl, nt_b4 (.inl rfl) (nt_mk .col (by kernel_rfl) fun p hp => by cases hp) (nt_val _), by kernel_rfl, fun h => absurd rfl h⟩
  exact (siz3 (w := "less") (by decide +kernel) (by decide +kernel) (col_siz h l 0) (siz_val (Siz.int (i := 0) (by decide)) 0)).le (by omega) (by omega)
theorem GPart.one {T : List Str} {d : DV} (h : GPart T d) : innD d = [d] := by
  rw [innD_eq h.gin.part (by decide), h.gin.inn, if_pos rfl]
theorem gc_ex {T : List Str} {d : DV} (h : GPart T d) (he : ∃ r, d = .tup (.str "exists" :: r)) : GC [d] 0 d := by
  refine ⟨h.gin.part.le (by omega), h.siz.le (by omega) (by omega), h.nd, h.nt, h.one, fun _ w r e hw => ?_⟩
  obtain ⟨r', e'⟩ := he
  rw [e'] at e
  have := head_of e
  subst this
  exact absurd hw (by decide +kernel)
theorem one_of {T : List Str} {d : DV} (h : GPart T d) {w : Str} {r : List DV} (e : d = .tup (.str w :: r)) (hw : w = "only" ∨ w = "first") : One [d] d :=
  ⟨⟨w, r, e, by rcases hw with rfl | rfl <;> decide +kernel⟩, h.gin.part.le (by omega), h.siz.le (by omega) (by omega), h.nd, h.nt, h.one⟩
theorem one_plus {T : List Str} {d : DV} (h : GPart T d) : One [d] (.tup [.str "plus", d, .int (-1)]) := by
  refine ⟨⟨_, _, rfl, by decide +kernel⟩, .mk (.b1 (.inl rfl)) fun p hp => ?_, ?_, nd3 h.nd rfl, nt_b1 (.inl rfl) (by kernel_rfl) h.nt, by rw [inn_b1 (.inl rfl) h.gin.part (by decide), h.one]⟩
  · rw [List.mem_singleton] at hp
    subst hp
    exact h.gin.part
  · exact (siz3 (w := "plus") (by decide +kernel) (by decide +kernel) h.siz ((Siz.int (i := -1) (by decide)).le (Nat.le_refl 0) (Nat.zero_le 5))).le (by omega) (by omega)
theorem gc_is {d one : DV} (h : One [d] one) : GC [d] 0 (.tup [.str "is", one, .str "number"]) := by
  refine ⟨.mk (.b1 (.inr rfl)) fun p hp => ?_, ?_, nd3 h.nd rfl, nt_b1 (.inr rfl) (by kernel_rfl) h.nt, by rw [inn_b1 (.inr rfl) h.part (by decide), h.inn], fun _ w r e hw => ?_⟩
  · rw [List.mem_singleton] at hp
    subst hp
    exact h.part
  · exact (siz3 (w := "is") (by decide +kernel) (by decide +kernel) h.siz (wordS (x := "number") (n := 6) (by decide +kernel) (by decide +kernel) 6)).le (by omega) (by omega)
  · have := head_of e
    subst this
    exact absurd hw (by decide +kernel)
theorem gc_most {d one : DV} (h : One [d] one) : GC [d] 0 (.tup [.str "most", one, .tup [.str "value", .none]]) := by
  refine ⟨part_b4 (.inr (.inl rfl)) h.part ((part_val _).le (by decide)), ?_, nd3 h.nd rfl, nt_b4 (.inr (.inl rfl)) h.nt (nt_val _), ?_, fun _ w r e hw => ⟨one, h, .inl rfl⟩⟩
  · exact (siz3 (w := "most") (by decide +kernel) (by decide +kernel) h.siz ((siz_val Siz.none 0).le (Nat.le_refl _) (show 1 ≤ 6 by decide))).le (by omega) (by omega)
  · rw [inn_b4 (.inr (.inl rfl)) h.part ((part_val _).le (by decide)) (by decide), h.inn, show innD (.tup [.str "value", DV.none]) = [] by kernel_rfl, List.append_nil]
theorem gc_same {d one : DV} (h : One [d] one) : GC [d] 0 (.tup [.str "same", .tup [.str "value", .str "x"], one]) := by
  refine ⟨part_b4 (.inr (.inr (.inl rfl))) ((part_val _).le (by decide)) h.part, ?_, nd3 rfl h.nd, nt_b4 (.inr (.inr (.inl rfl))) (nt_val _) h.nt, ?_, fun _ w r e hw => ⟨one, h, .inr rfl⟩⟩
  · exact (siz3 (w := "same") (by decide +kernel) (by decide +kernel) ((siz_val (wordS (x := "x") (n := 1) (by decide +kernel) (by decide +kernel) 0) 0).le (Nat.le_refl _) (show 1 ≤ 6 by decide)) h.siz).le (by omega) (by omega)
  · rw [inn_b4 (.inr (.inr (.inl rfl))) ((part_val _).le (show 1 ≤ 5 by decide)) h.part (by decide), h.inn, show innD (.tup [.str "value", DV.str "x"]) = [] by kernel_rfl, List.nil_append]
def wfCondD : WF := fun ds μ Q => ∃ (a c : Addr) (m : Nat) (al0 : Str) (t0 : DV) (rr : List DV) (pd : DV) (T : List Str) (inner : List DV), ds = [.obj a, .tup (.tup [.str al0, t0] :: rr), pd] ∧ plainS al0 = true ∧ al0.length ≤ 8 ∧ ((pd = .none ∧ inner = []) ∨ (GPart T pd ∧ inner = [pd])) ∧ Dk μ a c (m + 5) ∧ ∀ d μ', GC inner 2 d → Dk μ' a c m → OnlyDeck μ μ' a c → Q d μ'
theorem p_law_condition (ds : List DV) (μ : Mh) (Q : DV → Mh → Prop) (hl : ds.length = 3) (h : wfCondD ds μ Q) :
    K55.w_law_condition pickW drawW { nx := fun _ μ' => Q .none μ', rt := Q } (ds.map some ++ List.replicate 5 none) μ := by
  obtain ⟨a, c, m, al0, t0, rr, pd, T, inner, rfl, pl0, ll0, hp, hd, k⟩ := h
  have NE : ∀ {x y : Str} (b : Bool) {μ : Mh} {P : DV → Mh → Prop}, decide (x = y) = b → P (.bool (!b)) μ → wNeL (.str x) (.str y) μ P := fun {x y} b {μ P} h h3 => by
    show P (.bool (!decide (x = y))) μ
    rw [h]
    exact h3
  have EQ := @Qz.eq_str
  have EI : ∀ (i j : Int) (μ : Mh) (P : DV → Mh → Prop), P (.bool (decide (i = j))) μ → wEqL (.int i) (.int j) μ P := fun i j μ P h => h
  have s2 : ∀ {n : Nat}, n ≤ 1000 → n ≤ sizeLine := fun h => sl (by omega)
  unfold K55.w_law_condition
  generalize wNeL = g1 at NE ⊢
  generalize wEqL = g2 at EQ EI ⊢
  show atW (atI (DV.tup [.str al0, t0] :: rr) 0) _
  rw [atI_zero]
  refine ⟨s2 (Nat.le_of_ble_eq_true rfl), s2 (Nat.le_of_ble_eq_true rfl), s2 (Nat.le_of_ble_eq_true rfl), ?_⟩
  -- the loop
  have loop : ∀ (d z4 z5 : Option DV) (d0 : DV) (μ1 : Mh), d = some d0 → GC inner 0 d0 → Dk μ1 a c (m + 3) → OnlyDeck μ μ1 a c →
      (wSeq (wFor (sRng1 (wCall 2 drawW (wCons (wVar 0) (wCons (wC (.int 3)) wNil)))) (wgName 6) (wSeq (wAsg (wTup (wCons (wC (.str "is")) (wCons (wTup (wCons (wC (.str "value")) (wCons (wVar 6) wNil))) (wCons (wC (.str "word")) wNil)))) (wgName 7))
    (wAsg (wCall 2 pickW (wCons (wVar 0) (wCons (wLst (wCons (wTup (wCons (wC (.str "not")) (wCons (wVar 3) wNil))) (wCons (wTup (wCons (wC (.str "and")) (wCons (wVar 3) (wCons (wVar 7) wNil)))) (wCons (wTup (wCons (wC (.str "or")) (wCons (wVar 7) (wCons (wVar 3) wNil)))) wNil)))) wNil))) (wgName 3))))
    (wRet (wVar 3))) { nx := fun _ μ' => Q .none μ', rt := Q } [some (.obj a), some (.tup (.tup [.str al0, t0] :: rr)), some pd, d, z4, z5, none, none] μ1 := by
    rintro d z4 z5 d0 μ1 rfl hg k1 o1
    refine ⟨rfl, draw_c (m := m + 2) (by decide) (by decide) k1 fun r μ2 r0 r1 k2 o2 => ⟨by omega, by omega, ?_⟩⟩
    refine for_done (fun i : Nat => DV.int (0 + (i : Int))) (fun done ρ μ' => done.length ≤ r.toNat ∧ ∃ d' z6 z7, ρ = [some (.obj a), some (.tup (.tup [.str al0, t0] :: rr)), some pd, some d', z4, z5, z6, z7] ∧ GC inner done.length d' ∧ Dk μ' a c (m + 2 - done.length) ∧ OnlyDeck μ μ' a c) (List.range r.toNat) [] _ μ2 ?_ ⟨Nat.zero_le _, d0, none, none, rfl, hg, k2, o1.trans o2⟩ ?_
    · rintro dn x rs ρ μ3 F hdn ⟨hle, d', z6, z7, rfl, hg', k3, o3⟩ _ hF _
      have hlen := congrArg List.length hdn
      rw [List.length_append, List.length_cons, List.nil_append, List.length_range] at hlen
      have hxr : x < r.toNat := by
        have : x ∈ dn ++ x :: rs := List.mem_append_right _ List.mem_cons_self
        rw [hdn, List.nil_append, List.mem_range] at this
        exact this
      have k3' : Dk μ3 a c (m + 1 - dn.length + 1) := k3.le (by omega)
      refine ⟨s2 (Nat.le_of_ble_eq_true rfl), s2 (Nat.le_of_ble_eq_true rfl), s2 (Nat.le_of_ble_eq_true rfl), s2 (Nat.le_of_ble_eq_true rfl), s2 (Nat.le_of_ble_eq_true rfl), s2 (Nat.le_of_ble_eq_true rfl), rfl, pick_c (y := .lst [.tup [.str "not", d'], .tup [.str "and", d', .tup [.str "is", .tup [.str "value", .int (0 + (x : Int))], .str "word"]], .tup [.str "or", .tup [.str "is", .tup [.str "value", .int (0 + (x : Int))], .str "word"], d']]) (Nat.succ_pos _) (Nat.le_of_ble_eq_true rfl) k3' fun y μ4 hy k4 o4 => ?_⟩
      have hy : y ∈ [DV.tup [.str "not", d'], .tup [.str "and", d', .tup [.str "is", .tup [.str "value", .int (0 + (x : Int))], .str "word"]], .tup [.str "or", .tup [.str "is", .tup [.str "value", .int (0 + (x : Int))], .str "word"], d']] := hy
      refine hF _ _ ⟨by rw [List.length_append, List.length_singleton]; omega, y, _, _, rfl, ?_, k4.le (by rw [List.length_append, List.length_singleton]; omega), o3.trans o4⟩
      rw [List.length_append, List.length_singleton]
      simp only [List.mem_cons, List.not_mem_nil, or_false] at hy
      rcases hy with rfl | rfl | rfl
      · exact gc_not hg' (by omega)
      · exact gc_and hg' (by omega) (by omega) (by omega)
      · exact gc_or hg' (by omega) (by omega) (by omega)
    · rintro ρ μ3 ⟨hle, d', z6, z7, rfl, hg', k3, o3⟩
      rw [List.nil_append] at hg' k3
      rw [List.length_range] at hg' k3
      exact k _ _ (hg'.le (by omega)) (k3.le (by omega)) o3
  rcases hp with ⟨rfl, rfl⟩ | ⟨hg, rfl⟩
  · exact loop _ _ _ _ _ rfl (gc_less pl0 ll0) (hd.le (by omega)) OnlyDeck.refl
  · obtain ⟨w, own, rest, cc, e, hw, _⟩ := hg.gin.ex
    have hix : ∀ P : DV → Mh → Prop, ∀ μ, P (.str w) μ → wIx pd (.int 0) μ P := fun P μ hP => by
      rw [e]
      show atW (atI (DV.str w :: .tup [.tup own, cc] :: rest) 0) _
      rw [atI_zero]
      exact hP
    have hn : isNone pd = false := by rw [e]; rfl
    show (match (!isNone pd) with | true => _ | false => _)
    rw [hn]
    refine hix _ _ ?_
    -- what is picked
    have some' : ∀ (one : DV) (μ1 : Mh), One [pd] one → w = "only" ∨ w = "first" → Dk μ1 a c (m + 4) → OnlyDeck μ μ1 a c →
        (wSeq (wAsg (wLst (wCons (wTup (wCons (wC (.str "is")) (wCons (wVar 4) (wCons (wC (.str "number")) wNil)))) (wCons (wTup (wCons (wC (.str "most")) (wCons (wVar 4) (wCons (wTup (wCons (wC (.str "value")) (wCons (wC .none) wNil))) wNil)))) (wCons (wTup (wCons (wC (.str "same")) (wCons (wTup (wCons (wC (.str "value")) (wCons (wC (.str "x")) wNil))) (wCons (wVar 4) wNil)))) wNil)))) (wgName 5))
    (wAsg (wIf (wTest (wBin g2 (wBin wIx (wVar 2) (wC (.int 0))) (wC (.str "exists")))) (wVar 2) (wCall 2 pickW (wCons (wVar 0) (wCons (wVar 5) wNil)))) (wgName 3)))
        { nx := (wSeq (wFor (sRng1 (wCall 2 drawW (wCons (wVar 0) (wCons (wC (.int 3)) wNil)))) (wgName 6) (wSeq (wAsg (wTup (wCons (wC (.str "is")) (wCons (wTup (wCons (wC (.str "value")) (wCons (wVar 6) wNil))) (wCons (wC (.str "word")) wNil)))) (wgName 7))
    (wAsg (wCall 2 pickW (wCons (wVar 0) (wCons (wLst (wCons (wTup (wCons (wC (.str "not")) (wCons (wVar 3) wNil))) (wCons (wTup (wCons (wC (.str "and")) (wCons (wVar 3) (wCons (wVar 7) wNil)))) (wCons (wTup (wCons (wC (.str "or")) (wCons (wVar 7) (wCons (wVar 3) wNil)))) wNil)))) wNil))) (wgName 3))))
    (wRet (wVar 3))) { nx := fun _ μ' => Q .none μ', rt := Q }, rt := Q } [some (.obj a), some (.tup (.tup [.str al0, t0] :: rr)), some pd, some (.tup [.str "less", colD al0, .tup [.str "value", .int 0]]), some one, none, none, none] μ1 := by
      intro one μ1 h1 hw2 k1 o1
      refine ⟨s2 (Nat.le_of_ble_eq_true rfl), s2 (Nat.le_of_ble_eq_true rfl), s2 (Nat.le_of_ble_eq_true rfl), s2 (Nat.le_of_ble_eq_true rfl), s2 (Nat.le_of_ble_eq_true rfl), s2 (Nat.le_of_ble_eq_true rfl), ?_⟩
      refine hix _ _ ?_
      refine EQ false (by rcases hw2 with rfl | rfl <;> decide +kernel) ?_
      refine ⟨rfl, pick_c (y := .lst [.tup [.str "is", one, .str "number"], .tup [.str "most", one, .tup [.str "value", .none]], .tup [.str "same", .tup [.str "value", .str "x"], one]]) (Nat.succ_pos _) (Nat.le_of_ble_eq_true rfl) k1 fun y μ4 hy k4 o4 => ?_⟩
      have hy : y ∈ [DV.tup [.str "is", one, .str "number"], .tup [.str "most", one, .tup [.str "value", .none]], .tup [.str "same", .tup [.str "value", .str "x"], one]] := hy
      refine loop _ _ _ y _ rfl ?_ k4 (o1.trans o4)
      simp only [List.mem_cons, List.not_mem_nil, or_false] at hy
      rcases hy with rfl | rfl | rfl
      · exact gc_is h1
      · exact gc_most h1
      · exact gc_same h1
    rcases hw with rfl | hw2
    · refine NE true (by decide +kernel) ?_
      refine ⟨s2 (Nat.le_of_ble_eq_true rfl), s2 (Nat.le_of_ble_eq_true rfl), s2 (Nat.le_of_ble_eq_true rfl), s2 (Nat.le_of_ble_eq_true rfl), s2 (Nat.le_of_ble_eq_true rfl), s2 (Nat.le_of_ble_eq_true rfl), ?_⟩
      refine hix _ _ ?_
      refine EQ true (by decide +kernel) ?_
      exact loop _ _ _ pd _ rfl (gc_ex hg ⟨_, e⟩) (hd.le (by omega)) OnlyDeck.refl
    · refine NE false (by rcases hw2 with rfl | rfl <;> decide +kernel) ?_
      refine ⟨rfl, draw_c (m := m + 4) (by decide) (by decide) hd fun r μ2 r0 r1 k2 o2 => ?_⟩
      refine EI _ _ _ _ ?_
      cases h0 : decide (r = 0) with
      | false => exact some' pd μ2 (one_of hg e hw2) hw2 k2 o2
      | true => exact ⟨s2 (Nat.le_of_ble_eq_true rfl), some' _ μ2 (one_plus hg) hw2 k2 o2⟩
end K55

set_option Elab.async false
set_option linter.all false
set_option maxRecDepth 100000
set_option maxHeartbeats 2000000
/-! K55f: questions drawn. -/
namespace K55
open PySem L2 Dz Qz PyProof.Rows

theorem GPart.pok {T : List Str} {d : DV} (h : GPart T d) : POk T d := ⟨h.gin.part.le (by decide), h.siz.le (by omega) (by omega), h.nd, fun x hx => by
  rw [h.one, List.mem_singleton] at hx
  rw [hx]
  exact h.gin, h.nt⟩
theorem pok_col {T : List Str} {a : Str} (h : plainS a = true) (l : a.length ≤ 8) : POk T (colD a) ∧ innD (colD a) = [] := by
  have e : innD (colD a) = [] := by kernel_rfl
  exact ⟨⟨(show Part 1 (colD a) from .mk .col (fun p hp => by cases hp)).le (by decide), (col_siz h l 0).le (by omega) (by omega), rfl, fun x hx => (by rw [e] at hx; cases hx), nt_mk .col (by kernel_rfl) fun p hp => by cases hp⟩, e⟩
theorem pok_sub {T : List Str} {inner : List DV} {d one : DV} {w : Str} (hw : w = "most" ∨ w = "same") (hg : GPart T d) (h1 : One inner one) (hi : ∀ x ∈ inner, GIn T x) : POk T (.tup [.str w, d, one]) ∧ innD (.tup [.str w, d, one]) = d :: inner := by
  have hb : w = "less" ∨ w = "most" ∨ w = "same" ∨ w = "and" ∨ w = "or" := hw.elim (fun h => .inr (.inl h)) fun h => .inr (.inr (.inl h))
  have e : innD (.tup [.str w, d, one]) = d :: inner := by
    rw [inn_b4 hb (hg.gin.part.le (show 4 ≤ 5 by decide)) h1.part (by decide), hg.one, h1.inn]
    rfl
  have pw : plainS w = true ∧ w.length ≤ 5 := by rcases hw with rfl | rfl <;> exact ⟨by decide +kernel, by decide +kernel⟩
  refine ⟨⟨(part_b4 hb (hg.gin.part.le (show 4 ≤ 5 by decide)) h1.part).le (by decide), (siz3 pw.1 pw.2 (hg.siz.le (Nat.le_refl _) (show 5 ≤ 6 by decide)) h1.siz).le (by omega) (by omega), nd3 hg.nd h1.nd, fun x hx => ?_, nt_b4 hb hg.nt h1.nt⟩, e⟩
  rw [e] at hx
  rcases List.mem_cons.mp hx with rfl | hx
  · exact hg.gin
  · exact hi x hx
theorem pok_and {T : List Str} {inner : List DV} {d wh cd : DV} (hg : GPart T d) (h : GC inner 2 wh) (h1 : GC [d] 2 cd) (hi : ∀ x ∈ inner, GIn T x) : POk T (.tup [.str "and", wh, cd]) ∧ innD (.tup [.str "and", wh, cd]) = inner ++ [d] := by
  have e : innD (.tup [.str "and", wh, cd]) = inner ++ [d] := by
    rw [inn_b4 (.inr (.inr (.inr (.inl rfl)))) h.part h1.part (by decide), h.inn, h1.inn]
  refine ⟨⟨(part_b4 (.inr (.inr (.inr (.inl rfl)))) h.part h1.part).le (by decide), (siz3 (by decide +kernel) (by decide +kernel) h.siz h1.siz).le (by omega) (by omega), nd3 h.nd h1.nd, fun x hx => ?_, nt_b4 (.inr (.inr (.inr (.inl rfl)))) h.nt h1.nt⟩, e⟩
  rw [e] at hx
  rcases List.mem_append.mp hx with hx | hx
  · exact hi x hx
  · rw [List.mem_singleton] at hx
    rw [hx]
    exact hg.gin
structure DQ (T : List Str) (j : Nat) (wh : DV) (heard : List DV) : Prop where
  hs : POks T heard
  hlen : heard.length ≤ 1 + j
  two : ((wl wh ++ heard).flatMap innD).length ≤ j
  hw : wh = .none ∨ (1 ≤ j ∧ POk T wh ∧ (j = 1 → ∃ inner, inner ≠ [] ∧ (∀ x ∈ inner, GIn T x) ∧ GC inner 2 wh))
theorem wl_tup (ds : List DV) : wl (.tup ds) = [.tup ds] := rfl
theorem wl_none : wl .none = [] := rfl
theorem inn_len {wh : DV} {heard : List DV} : ((wl wh ++ heard).flatMap innD).length = ((wl wh).flatMap innD).length + (heard.flatMap innD).length := by
  rw [List.flatMap_append, List.length_append]
theorem wl_len (ds : List DV) : ((wl (.tup ds)).flatMap innD).length = (innD (.tup ds)).length := by
  rw [wl_tup, List.flatMap_cons, List.flatMap_nil, List.append_nil]
def headIn (d : DV) : Bool := match d with | .tup (.str w :: _) => inF (.str w) [.str "only", .str "first", .str "plus"] | _ => false
def wfDrawnD : WF := fun ds μ Q => ∃ (a c p : Addr) (m : Nat) (al0 : Str) (t0 : DV) (rr : List DV) (tabs T : List Str), ds = [.obj a, .tup (.tup [.str al0, t0] :: rr), .lst (tabs.map .str), .obj p] ∧ plainS al0 = true ∧ al0.length ≤ 8 ∧ 0 < tabs.length ∧ tabs.length ≤ 100 ∧ (∀ t ∈ tabs, t ∈ T ∧ plainS t = true ∧ t.length ≤ 8) ∧ Hand μ a c p 4 (m + 40) ∧
  ∀ wh heard order lim μ', QOk T (.tup [.str al0, t0] :: rr) wh heard → Dk μ' a c m → Rest3 μ μ' a c p → Q (quest (.tup [.str al0, t0] :: rr) wh heard order lim) μ'
theorem p_law_drawn (ds : List DV) (μ : Mh) (Q : DV → Mh → Prop) (hl : ds.length = 4) (h : wfDrawnD ds μ Q) :
    K55.w_law_drawn drawW wfInPart wfCondD pickW { nx := fun _ μ' => Q .none μ', rt := Q } (ds.map some ++ List.replicate 7 none) μ := by
  obtain ⟨a, c, p, m, al0, t0, rr, tabs, T, rfl, pl0, ll0, tp, tl, ht, hh, k⟩ := h
  have NE : ∀ {x y : Str} (b : Bool) {μ : Mh} {P : DV → Mh → Prop}, decide (x = y) = b → P (.bool (!b)) μ → wNeL (.str x) (.str y) μ P := fun {x y} b {μ P} h h3 => by
    show P (.bool (!decide (x = y))) μ
    rw [h]
    exact h3
  have EI : ∀ (i j : Int) (μ : Mh) (P : DV → Mh → Prop), P (.bool (decide (i = j))) μ → wEqL (.int i) (.int j) μ P := fun i j μ P h => h
  have IN := @in_tup
  have s2 : ∀ {n : Nat}, n ≤ 1000 → n ≤ sizeLine := fun h => sl (by omega)
  unfold K55.w_law_drawn
  generalize wNeL = g1 at NE ⊢
  generalize wEqL = g2 at EI ⊢
  generalize wIn = g3 at IN ⊢
  show atW (atI (DV.tup [.str al0, t0] :: rr) 0) _
  rw [atI_zero]
  refine ⟨s2 (Nat.le_of_ble_eq_true rfl), s2 (Nat.le_of_ble_eq_true rfl), ?_⟩
  refine ⟨rfl, draw_c (m := m + 39) (by decide) (by decide) hh.dk fun r μ1 r0 r1 d1 o1 => ⟨by omega, by omega, ?_⟩⟩
  have hh1 := hh.step d1 o1
  let base (wh : DV) (heard : List DV) (z6 z7 : Option DV) : Rho := [some (.obj a), some (.tup (.tup [.str al0, t0] :: rr)), some (.lst (tabs.map .str)), some (.obj p), some wh, some (.tup heard), z6, z7, none, none, none]
  refine for_done (fun i : Nat => DV.int (0 + (i : Int))) (fun done ρ μ' => done.length ≤ r.toNat ∧ ∃ wh heard z6 z7, ρ = base wh heard z6 z7 ∧ Hand μ' a c p (4 - 2 * done.length) (m + 5 + 15 * (2 - done.length)) ∧ Rest3 μ μ' a c p ∧ DQ T done.length wh heard) (List.range r.toNat) [] _ μ1 ?_ ⟨Nat.zero_le _, .none, [colD al0], none, none, rfl, hh1.le (by decide) (by show m + 5 + 15 * 2 ≤ m + 39; omega), Rest3.deck o1, ⟨fun d hd => ?_, Nat.le_refl _, ?_, .inl rfl⟩⟩ ?_
  · rintro dn x rs ρ μ2 F hdn ⟨hle, wh, heard, z6, z7, rfl, h2, s2', dq⟩ _ hF _
    have hlen := congrArg List.length hdn
    rw [List.length_append, List.length_cons, List.nil_append, List.length_range] at hlen
    have hj : dn.length ≤ 1 := by omega
    have sn : (dn ++ [x]).length = dn.length + 1 := by rw [List.length_append, List.length_singleton]
    refine ⟨rfl, a, c, p, 4 - 2 * (dn.length + 1), m + 5 + 15 * (2 - (dn.length + 1)) + 11, al0, t0, rr, tabs, T, rfl, pl0, ll0, tp, tl, ht, h2.le (by omega) (by omega), fun part μ3 hg h3 s3 => ?_⟩
    have s3 := s2'.trans s3
    obtain ⟨w, own, rest, cc, e, hw, _⟩ := hg.gin.ex
    have hix : ∀ P : DV → Mh → Prop, ∀ μ, P (.str w) μ → wIx part (.int 0) μ P := fun P μ hP => by
      rw [e]
      show atW (atI (DV.str w :: .tup [.tup own, cc] :: rest) 0) _
      rw [atI_zero]
      exact hP
    have hpt : ∃ ds, part = .tup ds := ⟨_, e⟩
    -- what ends a turn
    have fin : ∀ (wh' : DV) (heard' : List DV) (z6 z7 : Option DV) (μ4 : Mh), DQ T (dn.length + 1) wh' heard' → Hand μ4 a c p (4 - 2 * (dn.length + 1)) (m + 5 + 15 * (2 - (dn.length + 1))) → Rest3 μ μ4 a c p → F.nx (base wh' heard' z6 z7) μ4 := fun wh' heard' z6 z7 μ4 q1 q2 q3 => hF _ _ ⟨by rw [sn]; omega, wh', heard', z6, z7, rfl, by rw [sn]; exact q2, q3, by rw [sn]; exact q1⟩
    have two := dq.two
    rw [inn_len] at two
    have hhl : heard.length ≤ 2 := by have := dq.hlen; omega
    -- where stands, or not
    have whr : ∀ (μ4 : Mh), Hand μ4 a c p (4 - 2 * (dn.length + 1)) (m + 5 + 15 * (2 - (dn.length + 1)) + 10) → Rest3 μ μ4 a c p →
        (wIfS (wTest (wBin wIsN (wVar 4) (wC .none))) (wAsg (wCall 3 wfCondD (wCons (wVar 0) (wCons (wVar 1) (wCons (wVar 7) wNil)))) (wgName 4)) (wIfS (wAndT (wTest (wBin g2 (wCall 2 drawW (wCons (wVar 0) (wCons (wC (.int 2)) wNil))) (wC (.int 0)))) (wAndT (wTest (wBin g1 (wBin wIx (wVar 7) (wC (.int 0))) (wC (.str "exists")))) (wTest (wBin g3 (wBin wIx (wVar 4) (wC (.int 0))) (wTup (wCons (wC (.str "less")) (wCons (wC (.str "most")) (wCons (wC (.str "same")) wNil)))))))) (wAsg (wTup (wCons (wBin wIx (wVar 4) (wC (.int 0))) (wCons (wVar 7) (wCons (wBin wIx (wLc (sTup (wSl (wVar 4) (wPart (wC (.int 1))) wNoPart)) (wgName 8) (wTest (wBin g3 (wBin wIx (wVar 8) (wC (.int 0))) (wTup (wCons (wC (.str "only")) (wCons (wC (.str "first")) (wCons (wC (.str "plus")) wNil)))))) (wVar 8) [8]) (wC (.int 0))) wNil)))) (wgName 4)) (wAsg (wTup (wCons (wC (.str "and")) (wCons (wVar 4) (wCons (wCall 3 wfCondD (wCons (wVar 0) (wCons (wVar 1) (wCons (wVar 7) wNil)))) wNil)))) (wgName 4))))
          F (base wh heard (some (.int (0 + (x : Int)))) (some part)) μ4 := by
      intro μ4 h4 s4
      rcases dq.hw with rfl | ⟨hj1, pw, hgc⟩
      · refine ⟨rfl, a, c, m + 5 + 15 * (2 - (dn.length + 1)) + 5, al0, t0, rr, part, T, [part], rfl, pl0, ll0, .inr ⟨hg, rfl⟩, h4.dk, fun cd μ5 hcd k5 o5 => ?_⟩
        obtain ⟨wc, rc, ec⟩ := hcd.head
        refine fin cd heard _ _ μ5 ⟨dq.hs, by have := dq.hlen; omega, ?_, .inr ⟨by omega, hcd.pok (Nat.le_refl 2) fun y hy => ?_, fun _ => ⟨[part], by simp, fun y hy => ?_, hcd⟩⟩⟩ ((h4.step k5 o5).le (Nat.le_refl _) (by omega)) (s4.trans (Rest3.deck o5))
        · rw [inn_len]
          rw [ec, wl_len, ← ec, hcd.inn, List.length_singleton]
          omega
        · rw [List.mem_singleton] at hy
          rw [hy]
          exact hg.gin
        · rw [List.mem_singleton] at hy
          rw [hy]
          exact hg.gin
      · obtain ⟨inner, ine, igin, gc⟩ := hgc (by omega)
        obtain ⟨ww, wr, ew⟩ := gc.head
        have hno : isNone wh = false := by rw [ew]; rfl
        have hixw : ∀ P : DV → Mh → Prop, ∀ μ, P (.str ww) μ → wIx wh (.int 0) μ P := fun P μ hP => by
          rw [ew]
          show atW (atI (DV.str ww :: wr) 0) _
          rw [atI_zero]
          exact hP
        have hin : inner.length ≤ dn.length := by
          rw [ew, wl_len, ← ew, gc.inn] at two
          omega
        have hhn : (heard.flatMap innD).length + inner.length ≤ dn.length := by
          rw [ew, wl_len, ← ew, gc.inn] at two
          omega
        show (match isNone wh with | true => _ | false => _)
        rw [hno]
        refine ⟨rfl, draw_c (m := m + 5 + 15 * (2 - (dn.length + 1)) + 9) (by decide) (by decide) h4.dk fun r2 μ5 q0 q1 k5 o5 => ?_⟩
        have h5 := h4.step k5 o5
        have s5 := s4.trans (Rest3.deck (p := p) o5)
        have els : (wAsg (wTup (wCons (wC (.str "and")) (wCons (wVar 4) (wCons (wCall 3 wfCondD (wCons (wVar 0) (wCons (wVar 1) (wCons (wVar 7) wNil)))) wNil)))) (wgName 4)) F (base wh heard (some (.int (0 + (x : Int)))) (some part)) μ5 := by
          refine ⟨rfl, a, c, m + 5 + 15 * (2 - (dn.length + 1)) + 4, al0, t0, rr, part, T, [part], rfl, pl0, ll0, .inr ⟨hg, rfl⟩, h5.dk, fun cd μ6 hcd k6 o6 => ⟨s2 (Nat.le_of_ble_eq_true rfl), ?_⟩⟩
          obtain ⟨pa, ea⟩ := pok_and hg gc hcd igin
          refine fin _ heard _ _ μ6 ⟨dq.hs, by have := dq.hlen; omega, ?_, .inr ⟨by omega, pa, fun h => by omega⟩⟩ ((h5.step k6 o6).le (Nat.le_refl _) (by omega)) (s5.trans (Rest3.deck o6))
          rw [inn_len, wl_len, ea, List.length_append, List.length_singleton]
          omega
        refine EI _ _ _ _ ?_
        cases h0 : decide (r2 = 0) with
        | false => exact els
        | true =>
          refine hix _ _ ?_
          cases hwx : decide (w = "exists") with
          | true => exact NE true hwx els
          | false =>
            refine NE false hwx ?_
            refine hixw _ _ ⟨s2 (Nat.le_of_ble_eq_true rfl), ?_⟩
            cases hwi : inF (.str ww) [.str "less", .str "most", .str "same"] with
            | false => exact IN false rfl hwi els
            | true =>
              refine IN true rfl hwi ?_
              obtain ⟨one, h1, hform⟩ := gc.sh ine ww wr ew hwi
              obtain ⟨w1, r1', e1, hw1⟩ := h1.ex
              have hm : ww = "most" ∨ ww = "same" := by
                rcases hform with e2 | e2 <;> rw [ew] at e2
                · exact .inl (head_of e2)
                · exact .inr (head_of e2)
              obtain ⟨pa, ea⟩ := pok_sub hm hg h1 igin
              refine hixw _ _ ?_
              have fin2 : F.nx (base (.tup [.str ww, part, one]) heard (some (.int (0 + (x : Int)))) (some part)) μ5 := by
                refine fin _ heard _ _ μ5 ⟨dq.hs, by have := dq.hlen; omega, ?_, .inr ⟨by omega, pa, fun h => by omega⟩⟩ (h5.le (Nat.le_refl _) (by omega)) s5
                rw [inn_len, wl_len, ea, List.length_cons]
                omega
              have comp : ∀ (xs : List DV), (∀ y ∈ xs, ∃ w r, y = .tup (.str w :: r)) → xs.length ≤ 10 → xs.filter headIn = [one] → (wBin wIx (fun ρ μ P => compW (wgName 8) (wTest (wBin g3 (wBin wIx (wVar 8) (wC (.int 0))) (wTup (wCons (wC (.str "only")) (wCons (wC (.str "first")) (wCons (wC (.str "plus")) wNil)))))) (wVar 8) (wipeD ρ [8]) xs [] μ fun acc μ2 => P (.lst acc) μ2) (wC (.int 0))) (base wh heard (some (.int (0 + (x : Int)))) (some part)) μ5 fun y μ6 => [DV.str ww, part, y].length ≤ sizeLine ∧ F.nx ((base wh heard (some (.int (0 + (x : Int)))) (some part)).set 4 (some (.tup [.str ww, part, y]))) μ6 := by
                intro xs hxs hxl hxf
                refine comp_pure headIn id xs [] _ (fun y hy acc P hacc hP => ?_) (by rw [List.length_nil]; exact sl (by omega)) ?_
                · obtain ⟨wy, ry, rfl⟩ := hxs y hy
                  show atW (atI (DV.str wy :: ry) 0) _
                  rw [atI_zero]
                  refine ⟨s2 (Nat.le_of_ble_eq_true rfl), ?_⟩
                  have eh : headIn (.tup (.str wy :: ry)) = inF (.str wy) [.str "only", .str "first", .str "plus"] := rfl
                  cases hb : inF (.str wy) [.str "only", .str "first", .str "plus"] with
                  | true =>
                    rw [eh, hb, if_pos rfl] at hP
                    exact IN true rfl hb ⟨hacc, hP⟩
                  | false =>
                    rw [eh, hb, if_neg Bool.false_ne_true] at hP
                    exact IN false rfl hb hP
                · rw [hxf]
                  exact ⟨s2 (Nat.le_of_ble_eq_true rfl), fin2⟩
              have ho : headIn one = true := by rw [e1]; exact hw1
              rcases hform with rfl | rfl
              · refine comp [one, .tup [.str "value", .none]] (fun y hy => ?_) (Nat.le_of_ble_eq_true rfl) ?_
                · simp only [List.mem_cons, List.not_mem_nil, or_false] at hy
                  rcases hy with rfl | rfl
                  · exact ⟨_, _, e1⟩
                  · exact ⟨_, _, rfl⟩
                · rw [List.filter_cons, ho, if_pos rfl, List.filter_cons, if_neg (ne_of (by decide +kernel)), List.filter_nil]
              · refine comp [.tup [.str "value", .str "x"], one] (fun y hy => ?_) (Nat.le_of_ble_eq_true rfl) ?_
                · simp only [List.mem_cons, List.not_mem_nil, or_false] at hy
                  rcases hy with rfl | rfl
                  · exact ⟨_, _, rfl⟩
                  · exact ⟨_, _, e1⟩
                · rw [List.filter_cons, if_neg (ne_of (by decide +kernel)), List.filter_cons, ho, if_pos rfl, List.filter_nil]
    refine hix _ _ ?_
    cases hwx : decide (w = "exists") with
    | true => exact NE true hwx (whr μ3 (h3.le (Nat.le_refl _) (by omega)) s3)
    | false =>
      refine NE false hwx ?_
      refine ⟨rfl, draw_c (m := m + 5 + 15 * (2 - (dn.length + 1)) + 10) (by decide) (by decide) h3.dk fun r2 μ4 q0 q1 k4 o4 => ?_⟩
      refine EI _ _ _ _ ?_
      cases h0 : decide (r2 = 0) with
      | false => exact whr μ4 (h3.step k4 o4) (s3.trans (Rest3.deck o4))
      | true =>
        refine ⟨s2 (Nat.le_of_ble_eq_true rfl), sl (show heard.length + 1 ≤ _ by omega), fin wh (heard ++ [part]) _ _ μ4 ⟨fun d hd => ?_, by rw [List.length_append, List.length_singleton]; have := dq.hlen; omega, ?_, ?_⟩ ((h3.step k4 o4).le (Nat.le_refl _) (by omega)) (s3.trans (Rest3.deck o4))⟩
        · rcases List.mem_append.mp hd with hd | hd
          · exact dq.hs d hd
          · rw [List.mem_singleton] at hd
            rw [hd]
            exact hg.pok
        · rw [inn_len, flat_snoc, List.length_append, hg.one, List.length_singleton]
          omega
        · rcases dq.hw with h | ⟨hj1, pw, hgc⟩
          · exact .inl h
          · exact .inr ⟨by omega, pw, fun h => by omega⟩
  · rw [List.mem_singleton] at hd
    rw [hd]
    exact (pok_col pl0 ll0).1
  · rw [inn_len, wl_none, List.flatMap_nil, List.flatMap_cons, List.flatMap_nil, List.append_nil, (pok_col (T := T) pl0 ll0).2]
    exact Nat.le_refl _
  · rintro ρ μ2 ⟨hle, wh, heard, z6, z7, rfl, h2, s2', dq⟩
    rw [List.nil_append, List.length_range] at h2 dq hle
    have k2 : Dk μ2 a c (m + 1 + 1) := h2.dk.le (by omega)
    refine ⟨s2 (Nat.zero_le _), s2 (Nat.le_of_ble_eq_true rfl), rfl, pick_c (y := .lst [.tup [], .tup (cutD heard none (some 1))]) (Nat.succ_pos _) (Nat.le_of_ble_eq_true rfl) k2 fun order μ3 _ k3 o3 => ?_⟩
    refine ⟨s2 (Nat.le_of_ble_eq_true rfl), rfl, pick_c (y := .lst [.none, .int 0, .int 3]) (Nat.succ_pos _) (Nat.le_of_ble_eq_true rfl) k3 fun lim μ4 _ k4 o4 => ?_⟩
    refine ⟨s2 (Nat.le_of_ble_eq_true rfl), k wh heard order lim μ4 ⟨?_, dq.hs, by have := dq.hlen; omega, Nat.le_trans dq.two (by omega)⟩ (k4.le (by omega)) ((s2'.trans (Rest3.deck o3)).trans (Rest3.deck o4))⟩
    rcases dq.hw with h | ⟨_, pw, _⟩
    · exact .inl h
    · exact .inr pw
end K55

set_option Elab.async false
set_option linter.all false
set_option maxRecDepth 100000
set_option maxHeartbeats 2000000
/-! K55g: pairs of questions drawn. -/
namespace K55
open PySem L2 Dz Qz PyProof.Rows

structure PairOk (T : List Str) (A B : Str) (refs : List DV) (q1 q2 : DV × List DV × DV × DV) : Prop where
  rs : ∀ r ∈ refs, ∃ a t : Str, r = .tup [.str a, .str t]
  ok1 : QOk T refs q1.1 q1.2.1
  ok2 : QOk T refs q2.1 q2.2.1
  few : ∀ inner : List Str, inner.length ≤ 24 → (∀ t ∈ inner, t ∈ T) → Few A B (refs.map tabOf) inner
theorem innQ_len {T : List Str} {refs : List DV} {q : DV × List DV × DV × DV} (h : QOk T refs q.1 q.2.1) : (innQ q).length ≤ 8 ∧ ∀ t ∈ innQ q, t ∈ T := by
  have h2 : (innL q.1 q.2.1).length ≤ 2 := h.two
  have hg := h.gin
  unfold innQ
  generalize innL q.1 q.2.1 = l at h2 hg
  refine ⟨?_, fun t ht => ?_⟩
  · have : ∀ l : List DV, (∀ x ∈ l, GIn T x) → (l.flatMap tabsO).length ≤ 4 * l.length := by
      intro l
      induction l with
      | nil => exact fun _ => Nat.le_refl _
      | cons x l ih =>
        intro hx
        rw [List.flatMap_cons, List.length_append, List.length_cons]
        have h1 := (hx x List.mem_cons_self).tabs.2.1
        have h2 := ih fun y hy => hx y (List.mem_cons_of_mem _ hy)
        omega
    have := this l hg
    omega
  · rw [List.mem_flatMap] at ht
    obtain ⟨x, hx, ht⟩ := ht
    exact ((hg x hx).tabs.2.2 t ht).1
theorem PairOk.qs {T : List Str} {A B : Str} {refs : List DV} {q1 q2 : DV × List DV × DV × DV} (h : PairOk T A B refs q1 q2) {qs : List (DV × List DV × DV × DV)} (l0 : 0 < qs.length) (l3 : qs.length ≤ 3) (hm : ∀ q ∈ qs, q = q1 ∨ q = q2) : QsOk T A B refs qs := by
  have ok : ∀ q ∈ qs, QOk T refs q.1 q.2.1 := fun q hq => by
    rcases hm q hq with rfl | rfl
    · exact h.ok1
    · exact h.ok2
  refine ⟨l0, l3, h.rs, ok, h.few _ ?_ ?_⟩
  · have : ∀ l : List (DV × List DV × DV × DV), (∀ q ∈ l, QOk T refs q.1 q.2.1) → (l.flatMap innQ).length ≤ 8 * l.length := by
      intro l
      induction l with
      | nil => exact fun _ => Nat.le_refl _
      | cons x l ih =>
        intro hx
        rw [List.flatMap_cons, List.length_append, List.length_cons]
        have h1 := (innQ_len (hx x List.mem_cons_self)).1
        have h2 := ih fun y hy => hx y (List.mem_cons_of_mem _ hy)
        omega
    have := this qs ok
    show (qs.flatMap innQ).length ≤ 24
    omega
  · intro t ht
    have ht : t ∈ qs.flatMap innQ := ht
    rw [List.mem_flatMap] at ht
    obtain ⟨q, hq, ht⟩ := ht
    exact (innQ_len (ok q hq)).2 t ht
def wfPair : WF := fun ds μ Q => ∃ (a c : Addr) (m : Nat), ds = [.obj a] ∧ Dk μ a c (m + 200) ∧ ∀ T A B refs q1 q2 μ', PairOk T A B refs q1 q2 → Dk μ' a c m → Q (.lst [questD refs q1, questD refs q2]) μ'
theorem nm_strs {zs : List DV} (h : ∀ z ∈ zs, IsNm z) : ∃ ys : List Str, zs = ys.map .str := by
  induction zs with
  | nil => exact ⟨[], rfl⟩
  | cons z zs ih =>
    obtain ⟨x, rfl, _⟩ := h z List.mem_cons_self
    obtain ⟨ys, rfl⟩ := ih fun z hz => h z (List.mem_cons_of_mem _ hz)
    exact ⟨x :: ys, rfl⟩
theorem two_of {G : DV → Prop} {l : List DV} (h : l.length = 2) (hg : ∀ y ∈ l, G y) : ∃ y z, l = [y, z] ∧ G y ∧ G z := by
  match l, h with
  | [y, z], _ => exact ⟨y, z, rfl, hg y List.mem_cons_self, hg z (List.mem_cons_of_mem _ List.mem_cons_self)⟩
theorem p_law_pair (ds : List DV) (μ : Mh) (Q : DV → Mh → Prop) (hl : ds.length = 1) (h : wfPair ds μ Q) :
    w_law_pair wfNames drawW wfCondD pickW wfDrawnD { nx := fun _ μ' => Q .none μ', rt := Q } (ds.map some ++ List.replicate 5 none) μ := by
  obtain ⟨a, c, m, rfl, hd, k⟩ := h
  have PO : ∀ {μ : Mh} {p : Addr} {pl : List DV} {y : DV} {P : DV → Mh → Prop}, μ p = some (.lst pl) → pl[pl.length - 1]? = some y → P y (updM μ p (.lst pl.dropLast)) → wPop (.obj p) μ P := fun h1 h2 h3 => pop_o h1 h2 h3
  have HP := @Hand.pop
  have EI : ∀ (i j : Int) (μ : Mh) (P : DV → Mh → Prop), P (.bool (decide (i = j))) μ → wEqL (.int i) (.int j) μ P := fun i j μ P h => h
  have s2 : ∀ {n : Nat}, n ≤ 1000 → n ≤ sizeLine := fun h => sl (by omega)
  unfold w_law_pair
  generalize wPop = g1 at PO HP ⊢
  generalize wEqL = g2 at EI ⊢
  refine ⟨rfl, a, c, m + 198, rfl, hd, fun names p μ1 hn17 hnm hnd d1 pa pc e1 => ⟨by decide, by decide, ?_⟩⟩
  -- six tables
  refine comp_inv (J := fun acc rest μ' => Dk μ' a c (m + 198) ∧ acc.length + rest.length = 6 ∧ ∃ pl, μ' p = some (.lst pl) ∧ pl ++ acc.reverse = names) _ [] μ1 _ (fun x rest acc μ2 P hi hacc hP hP2 => ?_) (by rw [rngD_len, List.length_nil]; exact sl (by decide)) ⟨d1, by rw [rngD_len]; rfl, names, e1, List.append_nil _⟩ (fun tabs μ2 hi => ?_)
  · obtain ⟨d2, hlen, pl, e2, hpn⟩ := hi
    rw [List.length_cons] at hlen
    have hpl : pl.length + acc.length = 17 := by rw [← hn17, ← hpn, List.length_append, List.length_reverse]
    obtain ⟨y, ey, my⟩ := last_of (show 0 < pl.length by omega)
    refine PO e2 ey ⟨hacc, hP _ _ ⟨d2.keep (updM_ne fun e => pa e.symm) (updM_ne fun e => pc e.symm), by rw [List.length_append, List.length_singleton]; omega, pl.dropLast, updM_same, ?_⟩⟩
    rw [List.reverse_append, ← hpn]
    show pl.dropLast ++ ([y] ++ _) = _
    rw [← List.append_assoc, dropLast_snoc ey]
  · obtain ⟨d2, hlen, pl, e2, hpn⟩ := hi
    rw [List.length_nil, Nat.add_zero] at hlen
    have hpl : pl.length = 11 := by
      have : pl.length + tabs.length = 17 := by rw [← hn17, ← hpn, List.length_append, List.length_reverse]
      omega
    have htn : ∀ d ∈ tabs, IsNm d := fun d hd' => hnm d (by rw [← hpn]; exact List.mem_append_right _ (List.mem_reverse.mpr hd'))
    have hpm : ∀ d ∈ pl, IsNm d := fun d hd' => hnm d (by rw [← hpn]; exact List.mem_append_left _ hd')
    have htd : tabs.Nodup := by
      rw [← hpn] at hnd
      exact (List.reverse_perm _).nodup_iff.mp (List.nodup_append.mp hnd).2.1
    obtain ⟨ts, rfl⟩ := nm_strs htn
    rw [List.length_map] at hlen
    have hts : ∀ t ∈ ts, plainS t = true ∧ t.length ≤ 8 := fun t ht => by
      obtain ⟨x, ex, h1, h2⟩ := htn (.str t) (List.mem_map.mpr ⟨t, ht, rfl⟩)
      cases ex
      exact ⟨h1, h2⟩
    have htd : ts.Nodup := nodup_of_map htd
    clear htn hpn hnd hnm
    have hand2 : Hand μ2 a c p 11 (m + 198) := ⟨d2, pa, pc, pl, e2, by omega, by omega, hpm⟩
    match ts, hlen with
    | [t0, t1, t2, t3, t4, t5], _ =>
    refine ⟨rfl, draw_c (m := m + 197) (by decide) (by decide) d2 fun r μ3 r0 r1 d3 o3 => ?_⟩
    have hand3 := hand2.step d3 o3
    refine ⟨rfl, draw_c (m := m + 196) (by decide) (by decide) d3 fun r2 μ4 _ _ d4 o4 => ?_⟩
    have hand4 := hand3.step d4 o4
    refine EI _ _ _ _ ?_
    cases h0 : decide (r2 = 0) with
    | true =>
      refine ⟨by omega, by omega, ?_⟩
      refine comp_inv (J := fun acc rest μ' => Hand μ' a c p (5 + rest.length) (m + 100 + rest.length) ∧ (∀ r ∈ acc, ∃ al t : Str, r = .tup [.str al, .str t] ∧ plainS al = true ∧ al.length ≤ 8 ∧ (t = t0 ∨ t = t1)) ∧ acc.length + rest.length = (1 + r).toNat) _ [] μ4 _ (fun x rest acc μ5 P hi hacc hP hP2 => ?_) (by rw [rngD_len, List.length_nil]; exact sl (by omega)) ⟨hand4.le (by rw [rngD_len]; omega) (by rw [rngD_len]; omega), (fun r hr => by cases hr), by rw [rngD_len, List.length_nil, Nat.zero_add]⟩ (fun refs μ5 hi => ?_)
      · obtain ⟨h5, ha5, hl5⟩ := hi
        rw [List.length_cons] at h5 hl5
        rw [← Nat.add_assoc, ← Nat.add_assoc] at h5
        refine HP h5 fun y μ6 hy h6 s6 => ?_
        refine ⟨rfl, pick_c (y := .lst [.str t0, .str t1]) (Nat.succ_pos _) (Nat.le_of_ble_eq_true rfl) h6.dk fun t μ7 htm d7 o7 => ?_⟩
        have htm' : t ∈ [DV.str t0, .str t1] := htm
        have : ∃ t' : Str, t = .str t' ∧ (t' = t0 ∨ t' = t1) := by
          simp only [List.mem_cons, List.not_mem_nil, or_false] at htm'
          rcases htm' with rfl | rfl
          · exact ⟨_, rfl, .inl rfl⟩
          · exact ⟨_, rfl, .inr rfl⟩
        obtain ⟨t', rfl, ht'⟩ := this
        obtain ⟨y, rfl, py, ly⟩ := hy
        refine ⟨s2 (Nat.le_of_ble_eq_true rfl), hacc, hP _ _ ⟨h6.step d7 o7, fun r hr => ?_, by rw [List.length_append, List.length_singleton]; omega⟩⟩
        rcases List.mem_append.mp hr with hr | hr
        · exact ha5 r hr
        · rw [List.mem_singleton] at hr
          exact ⟨y, t', hr, py, ly, ht'⟩
      · obtain ⟨h5, ha5, hl5⟩ := hi
        rw [List.length_nil, Nat.add_zero] at h5 hl5
        obtain ⟨r0', rr, rfl⟩ : ∃ r0 rr, refs = r0 :: rr := by
          cases refs with
          | nil => exfalso; rw [List.length_nil] at hl5; omega
          | cons r0 rr => exact ⟨r0, rr, rfl⟩
        obtain ⟨al0, tb0, rfl, pl0, ll0, _⟩ := ha5 r0' List.mem_cons_self
        refine ⟨by decide, by decide, ?_⟩
        have hfew : ∀ inner : List Str, inner.length ≤ 24 → (∀ t ∈ inner, t ∈ ([] : List Str)) → Few t0 t1 ((DV.tup [.str al0, .str tb0] :: rr).map tabOf) inner := fun inner _ hi => by
          have : inner = [] := by
            cases inner with
            | nil => rfl
            | cons t l => exact absurd (hi t List.mem_cons_self) (by simp)
          subst this
          have hm : ∀ t ∈ (DV.tup [.str al0, .str tb0] :: rr).map tabOf, t = t0 ∨ t = t1 := fun t ht => by
            rw [List.mem_map] at ht
            obtain ⟨r, hr, rfl⟩ := ht
            obtain ⟨al, t, rfl, _, _, h⟩ := ha5 r hr
            exact h
          refine ⟨by rw [List.length_map, hl5]; omega, Nat.zero_le _, fun t h1 h2 => ?_, (fun t ht => by cases ht), fun t ht => ?_⟩
          · unfold mny
            have : List.count t ((DV.tup [.str al0, .str tb0] :: rr).map tabOf) = 0 := List.count_eq_zero.mpr fun h => by
              rcases hm t h with h | h
              · exact h1 h
              · exact h2 h
            rw [this, List.count_nil]
            omega
          · rcases ht with ht | ht
            · rcases hm t ht with rfl | rfl
              · exact hts _ (by simp)
              · exact hts _ (by simp)
            · cases ht
        refine comp_inv (J := fun acc rest μ' => Dk μ' a c (m + 10 + rest.length * 10) ∧ (∀ y ∈ acc, ∃ q, y = questD (DV.tup [.str al0, .str tb0] :: rr) q ∧ QOk [] (DV.tup [.str al0, .str tb0] :: rr) q.1 q.2.1) ∧ acc.length + rest.length = 2) _ [] μ5 _ (fun x rest acc μ6 P hi hacc hP hP2 => ?_) (by rw [rngD_len, List.length_nil]; exact sl (by decide)) ⟨h5.dk.le (by rw [rngD_len]; show m + 10 + 2 * 10 ≤ m + 100; omega), (fun y hy => by cases hy), by rw [rngD_len]; rfl⟩ (fun qs μ6 hi => ?_)
        · obtain ⟨k6, hacc6, hl6⟩ := hi
          rw [List.length_cons] at k6 hl6
          refine ⟨rfl, a, c, m + 10 + rest.length * 10, al0, .str tb0, rr, .none, [], [], rfl, pl0, ll0, .inl ⟨rfl, rfl⟩, k6.le (by omega), fun wh μ7 gc k7 o7 => ?_⟩
          refine ⟨s2 (Nat.le_of_ble_eq_true rfl), s2 (Nat.le_of_ble_eq_true rfl), s2 (Nat.zero_le _), s2 (Nat.le_of_ble_eq_true rfl), hacc, hP _ _ ⟨k7, fun y hy => ?_, by rw [List.length_append, List.length_singleton]; omega⟩⟩
          rcases List.mem_append.mp hy with hy | hy
          · exact hacc6 y hy
          · rw [List.mem_singleton] at hy
            obtain ⟨ww, wr, ew⟩ := gc.head
            have pv : POk [] (DV.tup [.str "value", .int 1]) := ⟨(part_val _).le (by decide), (siz_val (Siz.int (i := 1) (by decide)) 0).le (by omega) (by omega), rfl, (fun x hx => by
              rw [show innD (DV.tup [.str "value", .int 1]) = [] by kernel_rfl] at hx
              cases hx), nt_val _⟩
            refine ⟨(wh, [.tup [.str "value", .int 1]], .tup [], .none), hy, .inr (gc.pok (Nat.le_refl 2) fun x hx => by cases hx), fun d hd => ?_, (show 1 ≤ 4 by decide), ?_⟩
            · rw [List.mem_singleton] at hd
              rw [hd]
              exact pv
            · rw [inn_len]
              show ((wl wh).flatMap innD).length + ([DV.tup [.str "value", .int 1]].flatMap innD).length ≤ 2
              rw [ew, wl_len, ← ew, gc.inn, List.flatMap_cons, List.flatMap_nil, List.append_nil, show innD (DV.tup [.str "value", .int 1]) = [] by kernel_rfl]
              decide
        · obtain ⟨k6, hacc6, hl6⟩ := hi
          rw [List.length_nil, Nat.add_zero] at hl6
          obtain ⟨y, z, rfl, ⟨q1, rfl, w1⟩, ⟨q2, rfl, w2⟩⟩ := two_of hl6 hacc6
          exact k [] t0 t1 _ q1 q2 μ6 ⟨fun r hr => let ⟨al, t, e, _⟩ := ha5 r hr; ⟨al, t, e⟩, w1, w2, hfew⟩ (k6.le (by omega))
    | false =>
      refine ⟨by omega, by omega, ?_⟩
      refine comp_inv (J := fun acc rest μ' => Hand μ' a c p (5 + rest.length) (m + 196) ∧ (∀ r ∈ acc, ∃ al t : Str, r = .tup [.str al, .str t] ∧ plainS al = true ∧ al.length ≤ 8) ∧ acc.map tabOf = [t0, t1, t2, t3].take acc.length ∧ (rngD 0 (1 + r).toNat).drop acc.length = rest ∧ acc.length + rest.length = (1 + r).toNat) _ [] μ4 _ (fun x rest acc μ5 P hi hacc hP hP2 => ?_) (by rw [rngD_len, List.length_nil]; exact sl (by omega)) ⟨hand4.le (by rw [rngD_len]; omega) (Nat.le_refl _), (fun r hr => by cases hr), rfl, rfl, by rw [rngD_len, List.length_nil, Nat.zero_add]⟩ (fun refs μ5 hi => ?_)
      · obtain ⟨h5, ha5, ht5, hdr, hl5⟩ := hi
        rw [List.length_cons] at h5 hl5
        rw [← Nat.add_assoc] at h5
        have hx : x = .int (acc.length : Nat) := by
          have h1 : ((rngD 0 (1 + r).toNat).drop acc.length)[0]? = some x := by rw [hdr]; rfl
          rw [List.getElem?_drop, Nat.add_zero] at h1
          unfold rngD at h1
          rw [List.getElem?_map, List.getElem?_range (by omega)] at h1
          have h2 : DV.int (0 + ((acc.length : Nat) : Int)) = x := by simpa using h1
          rw [← h2, Int.zero_add]
        subst hx
        have hdr2 : (rngD 0 (1 + r).toNat).drop (acc.length + 1) = rest := by
          rw [← List.drop_drop, hdr]
          rfl
        refine HP h5 fun y μ6 hy h6 s6 => ?_
        obtain ⟨y, rfl, py, ly⟩ := hy
        have hi4 : acc.length < 4 := by omega
        obtain ⟨t, ht⟩ : ∃ t, [t0, t1, t2, t3][acc.length]? = some t := ⟨_, List.getElem?_eq_getElem hi4⟩
        have ht6 : atI [DV.str t0, .str t1, .str t2, .str t3, .str t4, .str t5] ((acc.length : Nat) : Int) = some (.str t) := by
          refine atI_of ?_
          have e : [DV.str t0, .str t1, .str t2, .str t3, .str t4, .str t5] = ([t0, t1, t2, t3].map .str) ++ [.str t4, .str t5] := rfl
          rw [e, List.getElem?_append_left (by rw [List.length_map]; exact hi4), List.getElem?_map, ht]
          rfl
        show atW (atI [DV.str t0, .str t1, .str t2, .str t3, .str t4, .str t5] ((acc.length : Nat) : Int)) _
        rw [ht6]
        refine ⟨s2 (Nat.le_of_ble_eq_true rfl), hacc, hP _ _ ⟨h6, fun r hr => ?_, ?_, by rw [List.length_append]; exact hdr2, by rw [List.length_append, List.length_singleton]; omega⟩⟩
        · rcases List.mem_append.mp hr with hr | hr
          · exact ha5 r hr
          · rw [List.mem_singleton] at hr
            exact ⟨y, t, hr, py, ly⟩
        · rw [List.map_append, ht5, List.length_append, List.length_singleton, List.take_add_one, ht]
          rfl
      · obtain ⟨h5, ha5, ht5, _, hl5⟩ := hi
        rw [List.length_nil, Nat.add_zero] at h5 hl5
        obtain ⟨r0', rr, rfl⟩ : ∃ r0 rr, refs = r0 :: rr := by
          cases refs with
          | nil => exfalso; rw [List.length_nil] at hl5; omega
          | cons r0 rr => exact ⟨r0, rr, rfl⟩
        obtain ⟨al0, tb0, rfl, pl0, ll0⟩ := ha5 r0' List.mem_cons_self
        refine ⟨by decide, by decide, ?_⟩
        have hfew : ∀ inner : List Str, inner.length ≤ 24 → (∀ t ∈ inner, t ∈ [t4, t5]) → Few t4 t5 ((DV.tup [.str al0, .str tb0] :: rr).map tabOf) inner := fun inner hil hi => by
          have hnd4 : ((DV.tup [.str al0, .str tb0] :: rr).map tabOf).Nodup := by
            rw [ht5]
            have : ([t0, t1, t2, t3, t4, t5] : List Str).take 4 = [t0, t1, t2, t3] := rfl
            exact ((this ▸ List.take_sublist 4 _ : [t0, t1, t2, t3].Sublist [t0, t1, t2, t3, t4, t5]).nodup htd).sublist (List.take_sublist _ _)
          have hm : ∀ t ∈ inner, t = t4 ∨ t = t5 := fun t ht => by
            have := hi t ht
            simpa using this
          refine ⟨by rw [List.length_map, hl5]; omega, hil, fun t h1 h2 => ?_, hm, fun t ht => ?_⟩
          · unfold mny
            have hc := count_one (a := t) hnd4
            have : List.count t inner = 0 := List.count_eq_zero.mpr fun h => by
              rcases hm t h with h | h
              · exact h1 h
              · exact h2 h
            rw [this]
            unfold lst
            split
            · omega
            · rename_i hn
              have := List.count_eq_zero.mpr hn
              omega
          · rcases ht with ht | ht
            · rw [ht5] at ht
              have := List.mem_of_mem_take ht
              exact hts t (by
                simp only [List.mem_cons, List.not_mem_nil, or_false] at this ⊢
                rcases this with h | h | h | h
                · exact .inl h
                · exact .inr (.inl h)
                · exact .inr (.inr (.inl h))
                · exact .inr (.inr (.inr (.inl h))))
            · rcases hm t ht with rfl | rfl
              · exact hts _ (by simp)
              · exact hts _ (by simp)
        obtain ⟨pl5, e5, l5, l5', hn5⟩ := h5.ex
        refine comp_inv (J := fun acc rest μ' => Dk μ' a c (m + 10 + rest.length * 40) ∧ μ' p = some (.lst pl5) ∧ (∀ y ∈ acc, ∃ q, y = questD (DV.tup [.str al0, .str tb0] :: rr) q ∧ QOk [t4, t5] (DV.tup [.str al0, .str tb0] :: rr) q.1 q.2.1) ∧ acc.length + rest.length = 2) _ [] μ5 _ (fun x rest acc μ6 P hi hacc hP hP2 => ?_) (by rw [rngD_len, List.length_nil]; exact sl (by decide)) ⟨h5.dk.le (by rw [rngD_len]; show m + 10 + 2 * 40 ≤ m + 196; omega), e5, (fun y hy => by cases hy), by rw [rngD_len]; rfl⟩ (fun qs μ6 hi => ?_)
        · obtain ⟨k6, e6, hacc6, hl6⟩ := hi
          rw [List.length_cons] at k6 hl6
          show (match μ6 p with | some (.lst ds) => newL ds μ6 _ | _ => False)
          rw [e6]
          intro p' hp'
          obtain ⟨⟨oa, ha⟩, ⟨oc, hc⟩⟩ := k6.isSome
          have pa' : p' ≠ a := fun e => by rw [e, ha] at hp'; cases hp'
          have pc' : p' ≠ c := fun e => by rw [e, hc] at hp'; cases hp'
          have pp : p ≠ p' := fun e => by rw [e, hp'] at e6; cases e6
          have k7 : Dk (updM μ6 p' (.lst pl5)) a c (m + 10 + rest.length * 40 + 40) := (k6.le (by omega)).keep (updM_ne fun e => pa' e.symm) (updM_ne fun e => pc' e.symm)
          refine ⟨rfl, a, c, p', m + 10 + rest.length * 40, al0, .str tb0, rr, [t4, t5], [t4, t5], rfl, pl0, ll0, Nat.succ_pos _, Nat.le_of_ble_eq_true rfl, fun t ht => ⟨ht, ?_⟩, ⟨k7, pa', pc', pl5, updM_same, by omega, l5', hn5⟩, fun wh heard order lim μ8 qo k8 s8 => ?_⟩
          · simp only [List.mem_cons, List.not_mem_nil, or_false] at ht
            rcases ht with rfl | rfl
            · exact hts _ (by simp)
            · exact hts _ (by simp)
          · refine ⟨hacc, hP _ _ ⟨k8, ?_, fun y hy => ?_, by rw [List.length_append, List.length_singleton]; omega⟩⟩
            · rw [s8 p pa pc pp, updM_ne pp]
              exact e6
            · rcases List.mem_append.mp hy with hy | hy
              · exact hacc6 y hy
              · rw [List.mem_singleton] at hy
                exact ⟨(wh, heard, order, lim), hy, qo⟩
        · obtain ⟨k6, e6, hacc6, hl6⟩ := hi
          rw [List.length_nil, Nat.add_zero] at hl6
          obtain ⟨y, z, rfl, ⟨q1, rfl, w1⟩, ⟨q2, rfl, w2⟩⟩ := two_of hl6 hacc6
          exact k [t4, t5] t4 t5 _ q1 q2 μ6 ⟨fun r hr => let ⟨al, t, e, _⟩ := ha5 r hr; ⟨al, t, e⟩, w1, w2, hfew⟩ (k6.le (by omega))
end K55

set_option Elab.async false
set_option linter.all false
set_option maxRecDepth 100000
set_option maxHeartbeats 2000000
/-! K55l: the law. -/
namespace K55
open PySem L2 Dz Qz PyProof.Rows

theorem dist_eq {ys zs ks ks' : List Str} (h : Distinct ys ks) (h' : Distinct zs ks') (hm : ∀ k, k ∈ ks ↔ k ∈ ks') : ys = zs :=
  rising_unique h.nd h'.nd (sorted_pair h.up) (sorted_pair h'.up) fun k => by rw [h.mem, h'.mem, hm]
theorem same_shapes {outer i1 i2 ys zs : List Str} (p : i1.Perm i2) (h : Distinct ys (outer ++ i1)) (h' : Distinct zs (outer ++ i2)) : shapesD outer i1 ys = shapesD outer i2 zs := by
  have := dist_eq h h' fun k => by rw [List.mem_append, List.mem_append, p.mem_iff]
  subst this
  unfold shapesD
  rw [shapesF_perm p]
def wfLaw : WF := fun ds μ Q => ∃ ns : List Int, ds = [.fix (ns.map .int)] ∧ ∀ μ', Q (.bool true) μ'
theorem p_law (ds : List DV) (μ : Mh) (Q : DV → Mh → Prop) (hl : ds.length = 1) (h : wfLaw ds μ Q) :
    K55.w_law_main (wfDeck "total") wfPair wfLShapes wfShapes { nx := fun _ μ' => Q .none μ', rt := Q } (ds.map some ++ List.replicate 5 none) μ := by
  obtain ⟨ns, rfl, k⟩ := h
  have NE : ∀ {s s' : Str} {μ : Mh} {P : DV → Mh → Prop}, s = s' → P (.bool false) μ → wNeL (.str s) (.str s') μ P := fun {s s' μ P} e h => by
    subst e
    show P (.bool (!decide (s = s))) μ
    rw [decide_eq_true rfl]
    exact h
  have s2 : ∀ {n : Nat}, n ≤ 1000 → n ≤ sizeLine := fun h => sl (by omega)
  unfold K55.w_law_main
  generalize wNeL = g1 at NE ⊢
  refine ⟨rfl, ns, rfl, fun a c μ1 ha hc hd ho => ?_⟩
  let scr : DV := .fix (ns.map .int)
  refine ⟨by decide, by decide, ?_⟩
  refine for_rule (I := fun j ρ μ' => (∃ zs : List (Option DV), zs.length = 4 ∧ ρ = some scr :: some (.obj a) :: zs) ∧ Dk μ' a c (j * 1000)) (n := 0) _ _ _ (fun x hx j ρ μ2 F hi hrt _ hnx _ => ?_) ⟨⟨List.replicate 4 none, rfl, rfl⟩, hd.le (by rw [rngD_len]; decide)⟩ (fun ρ μ' hi => ?_)
  · obtain ⟨⟨zs, hz, rfl⟩, dk⟩ := hi
    rw [Nat.succ_mul] at dk
    match zs, hz with
    | [z2, z3, z4, z5], _ =>
    refine ⟨rfl, a, c, j * 1000 + 800, rfl, dk.le (by omega), fun T A B refs q1 q2 μ3 pk k3 => ⟨rfl, rfl, ?_⟩⟩
    have sh : ∀ (qs : List (DV × List DV × DV × DV)) (ys : List Str), QsOk T A B refs qs → Distinct ys (refs.map tabOf ++ inners qs) → Shows (shapesD (refs.map tabOf) (inners qs) ys) := fun qs ys h d => shapes_shows h.few4 d
    have o1 : QsOk T A B refs [q1] := pk.qs (Nat.succ_pos _) (Nat.le_of_ble_eq_true rfl) (by simp)
    have o2 : QsOk T A B refs [q2] := pk.qs (Nat.succ_pos _) (Nat.le_of_ble_eq_true rfl) (by simp)
    have o12 : QsOk T A B refs [q1, q2] := pk.qs (Nat.succ_pos _) (Nat.le_of_ble_eq_true rfl) (by simp)
    have o21 : QsOk T A B refs [q2, q1] := pk.qs (Nat.succ_pos _) (Nat.le_of_ble_eq_true rfl) (by simp)
    have o11 : QsOk T A B refs [q1, q1] := pk.qs (Nat.succ_pos _) (Nat.le_of_ble_eq_true rfl) (by simp)
    have o112 : QsOk T A B refs [q1, q1, q2] := pk.qs (Nat.succ_pos _) (Nat.le_of_ble_eq_true rfl) (by simp)
    have p21 : (inners [q2, q1]).Perm (inners [q1, q2]) := by
      have : ∀ x y : DV × List DV × DV × DV, inners [x, y] = innQ x ++ innQ y := fun x y => by
        show ([x, y]).flatMap innQ = _
        rw [List.flatMap_cons, List.flatMap_cons, List.flatMap_nil, List.append_nil]
      rw [this, this]
      exact List.perm_append_comm
    -- one, alone
    refine ⟨T, A, B, refs, [q1], rfl, o1, fun y1 h1 => ⟨sh _ _ o1 h1, ?_⟩⟩
    refine ⟨s2 (Nat.zero_le _), rfl, T, A, B, refs, q1, [], rfl, o1, fun z1 d1 => ⟨sh _ _ o1 d1, NE (by rw [same_shapes (List.Perm.refl _) h1 d1]) ?_⟩⟩
    -- the other, alone
    refine ⟨T, A, B, refs, [q2], rfl, o2, fun y2 h2 => ⟨sh _ _ o2 h2, ?_⟩⟩
    refine ⟨s2 (Nat.zero_le _), rfl, T, A, B, refs, q2, [], rfl, o2, fun z2 d2 => ⟨sh _ _ o2 d2, NE (by rw [same_shapes (List.Perm.refl _) h2 d2]) ?_⟩⟩
    -- both
    refine ⟨s2 (Nat.le_of_ble_eq_true rfl), rfl, T, A, B, refs, q1, [q2], rfl, o12, fun z3 d3 => ⟨sh _ _ o12 d3, ?_⟩⟩
    refine ⟨T, A, B, refs, [q1, q2], rfl, o12, fun y3 h3 => ⟨sh _ _ o12 h3, NE (by rw [same_shapes (List.Perm.refl _) h3 d3]) ?_⟩⟩
    refine ⟨T, A, B, refs, [q2, q1], rfl, o21, fun y4 h4 => ⟨sh _ _ o21 h4, NE (by rw [same_shapes p21 h4 d3]) ?_⟩⟩
    -- one twice
    refine ⟨T, A, B, refs, [q1, q1], rfl, o11, fun y5 h5 => ⟨sh _ _ o11 h5, ?_⟩⟩
    refine ⟨s2 (Nat.le_of_ble_eq_true rfl), rfl, T, A, B, refs, q1, [q1], rfl, o11, fun z5 d5 => ⟨sh _ _ o11 d5, NE (by rw [same_shapes (List.Perm.refl _) h5 d5]) ?_⟩⟩
    refine ⟨T, A, B, refs, [q1, q1, q2], rfl, o112, fun y6 h6 => ⟨sh _ _ o112 h6, ?_⟩⟩
    refine ⟨s2 (Nat.le_of_ble_eq_true rfl), rfl, T, A, B, refs, q1, [q1, q2], rfl, o112, fun z6 d6 => ⟨sh _ _ o112 d6, NE (by rw [same_shapes (List.Perm.refl _) h6 d6]) ?_⟩⟩
    exact hnx _ _ ⟨⟨_, rfl, rfl⟩, k3.le (by omega)⟩
  · obtain ⟨⟨zs, hz, rfl⟩, dk⟩ := hi
    exact k _
end K55

set_option Elab.async false
set_option linter.all false
set_option maxRecDepth 100000
set_option maxHeartbeats 1000000
/-! K55z: the defs put together (printed by mkz.py). -/
namespace K55
open PySem L2 Dz Qz
section
variable {P : Program} {w0 : World} {K : PySem.W.Frag} {mg : Str → Option Value} {base : Heap}
theorem D_sub_parts (T : Tops K mg base) : Def P w0 K mg base 1 "sub_parts" s_sub_parts ["part"] (wfSub) := def_of T.a_sub_parts sc_sub_parts (dv_sub_parts T) (p_sub_parts)
theorem D_inner_parts (T : Tops K mg base) : Def P w0 K mg base 2 "inner_parts" s_inner_parts ["question"] (wfInnP) := def_of T.a_inner_parts sc_inner_parts (dv_inner_parts T (D_sub_parts T)) (p_inner_parts)
theorem D_inner_tables (T : Tops K mg base) : Def P w0 K mg base 3 "inner_tables" s_inner_tables ["question"] (wfInnT) := def_of T.a_inner_tables sc_inner_tables (dv_inner_tables T (D_inner_parts T)) (p_inner_tables)
theorem D_shapes_of (T : Tops K mg base) : DefS P w0 K mg base 4 "shapes_of" s_shapes_of wfShapes := defS_of (ps := []) T.a_shapes_of sc_shapes_of (fun kV doc pm an cdv ct us rest h => match us, h, rest with | [], _, [] => rfl | [], _, _ :: _ => rfl) (dv_shapes_of T (D_inner_tables T)) few_shapes (p_shapes_of)
theorem D_law_deck (T : Tops K mg base) : Def P w0 K mg base 1 "_law_deck" s_law_deck ["_law_script"] (wfDeck "total") := def_of T.a_law_deck sc_law_deck (dv_law_deck T) (fun ds μ Q hl h => deck_ok (S := 55001) (B := 48271) (A := 2147483629) (C := 41) (M := 2147483587) (by decide) (by decide) (by decide) (by decide) (by decide) ds μ Q hl h)
theorem D_law_draw (T : Tops K mg base) : Def P w0 K mg base 1 "_law_draw" s_law_draw ["_law_deck_here", "_law_many"] (drawW) := def_of T.a_law_draw sc_law_draw (dv_law_draw T) (fun ds μ Q hl h => draw_ok (A := 2147483629) (B := 60223) (C := 47) (D := 40692) (E := 2147483647) (F := 69779) (G := 31) (I := 2147483587) (J := 39373) (L := 2147483563) (M := 64) (by decide) (by decide) (by decide) (by decide) (by decide) (by decide) (by decide) (by decide) (by decide) ds μ Q hl h)
theorem D_law_pick (T : Tops K mg base) : Def P w0 K mg base 2 "_law_pick" s_law_pick ["_law_deck_here", "_law_some"] (pickW) := def_of T.a_law_pick sc_law_pick (dv_law_pick T (D_law_draw T)) (pick_ok)
theorem D_law_names (T : Tops K mg base) : Def P w0 K mg base 2 "_law_names" s_law_names ["_law_deck_here", "_law_many"] (wfNames) := def_of T.a_law_names sc_law_names (dv_law_names T (D_law_draw T)) (p_law_names)
theorem D_law_inners (T : Tops K mg base) : ∀ n : Nat, Def P w0 K mg base (n + 1) "_law_inners" s_law_inners ["_law_part"] (wfLI n)
  | 0 => def_of T.a_law_inners sc_law_inners (dv_law_inners T (kk := 0) (lv := 0) (by omega) (by omega) (Def.no T.a_law_inners)) (p_law_inners wfNo 0 fun n' e => by omega)
  | n + 1 => def_of T.a_law_inners sc_law_inners (dv_law_inners T (kk := n + 1) (lv := n + 1) (by omega) (by omega) (D_law_inners T n)) (p_law_inners (wfLI n) (n + 1) fun n' e => by
      obtain rfl : n = n' := by omega
      exact fun _ _ _ h => h)
theorem D_law_shapes (T : Tops K mg base) : Def P w0 K mg base 21 "_law_shapes" s_law_shapes ["_law_asked", "_law_more"] (wfLShapes) := def_of T.a_law_shapes sc_law_shapes (dv_law_shapes T ((D_law_inners T 12).mono (by decide))) (p_law_shapes)
theorem D_law_inner_part (T : Tops K mg base) : Def P w0 K mg base 3 "_law_inner_part" s_law_inner_part ["_law_deck_here", "_law_refs", "_law_names_here", "_law_tables"] (wfInPart) := def_of T.a_law_inner_part sc_law_inner_part (dv_law_inner_part T (D_law_pick T) (D_law_draw T)) (p_law_inner_part)
theorem D_law_condition (T : Tops K mg base) : Def P w0 K mg base 3 "_law_condition" s_law_condition ["_law_deck_here", "_law_refs", "_law_part"] (wfCondD) := def_of T.a_law_condition sc_law_condition (dv_law_condition T (D_law_pick T) (D_law_draw T)) (p_law_condition)
theorem D_law_drawn (T : Tops K mg base) : Def P w0 K mg base 4 "_law_drawn" s_law_drawn ["_law_deck_here", "_law_refs", "_law_tables", "_law_names_here"] (wfDrawnD) := def_of T.a_law_drawn sc_law_drawn (dv_law_drawn T (D_law_draw T) (D_law_inner_part T) (D_law_condition T) (D_law_pick T)) (p_law_drawn)
theorem D_law_pair (T : Tops K mg base) : Def P w0 K mg base 5 "_law_pair" s_law_pair ["_law_deck_here"] (wfPair) := def_of T.a_law_pair sc_law_pair (dv_law_pair T (D_law_names T) (D_law_draw T) (D_law_condition T) (D_law_pick T) (D_law_drawn T)) (p_law_pair)
theorem law_end {h : Heap} {fa : Addr} (_ : K.In h) (_ : h.Ns mainGlobals mg) (_ : ∃ o, h.get? sysModules = some o) (hfa : mg "law" = some (.ref fa)) (T0 : Tops K mg h) :
    ∃ fd : FuncData, (∀ (s : Shared) (u : Value), BindsTo s fd ⟨[u], []⟩ [("_law_script", u)]) ∧ ∀ base : Heap, K.In base → base.Ns mainGlobals mg → (∃ o, base.get? sysModules = some o) → FnG P w0 K mg base 22 fa fd ["_law_script"] (spD K 1 wfLaw) := by
  obtain ⟨f, fd, h1, F⟩ := T0.a_law_main
  have e := hfa.symm.trans h1
  cases e
  refine ⟨fd, fun s u => ?_, fun base _ _ hsm => ?_⟩
  · obtain ⟨oc, od, kV, doc, pm, an, cdv, ct, osl, rfl, lk, hcd⟩ := F.ex
    exact .of_eq rfl
  · have T : Tops K mg base := { T0 with sm := hsm }
    exact fn_dat F sc_law_main rfl (dv_law_main T (D_law_deck T) (D_law_pair T) (D_law_shapes T) (D_shapes_of T) fa) p_law
end
end K55

set_option Elab.async false
set_option linter.all false
set_option maxRecDepth 100000
set_option maxHeartbeats 0
/-! K55h: the end. -/
open PySem PySem.W PyProof.Rows

theorem PySem.Challenge.cw_failsalike_k55_shapes_holds : PySem.Challenge.rw_failsalike_k55_shapes.Holds := by
  w_on; o_law; k_head; (case hw => w_witness2)
  k_fill
  refine Dz.walk_ofG (l := PySem.Challenge.rw_failsalike_k55_shapes) (n := 63) (k := 22) (x := "_law_script") (sp := fun K => Dz.spD K 1 K55.wfLaw) rfl (by decide) (by decide +kernel) rfl ⟨rfl, by decide, by decide⟩ (fun w h Y => PySem.W.kIn_of Y) ?F ?hsp
  case hsp => exact fun K H a ns _ _ hS => Dz.law_start (fun μ P hq => ⟨ns, rfl, hq⟩) hS
  case F =>
    intro w mg fa h KX G hsm hmg
    refine' K55.law_end KX G hsm hmg ?T
    case T =>
      refine' K55.Tops.mk ?t0 ?t1 ?t2 ?t3 ?t4 ?t5 ?t6 ?t7 ?t8 ?t9 ?t10 ?t11 ?t12 ?t13 ?t14 ?t15 ?t16 ?t17 ?t18 ?t19 ?t20 ?t21 ?t22 ?t23 ?t24 ?t25
      case t0 =>
        refine' Dz.at1_of KX G ?a ?l ?c ?k
        (case a => k_is); (case l => k_is); (case c => k_is); (case k => k_is)
      case t1 =>
        refine' Dz.at1_of KX G ?a ?l ?c ?k
        (case a => k_is); (case l => k_is); (case c => k_is); (case k => k_is)
      case t2 =>
        refine' Dz.at1_of KX G ?a ?l ?c ?k
        (case a => k_is); (case l => k_is); (case c => k_is); (case k => k_is)
      case t3 =>
        refine' Dz.at1_of KX G ?a ?l ?c ?k
        (case a => k_is); (case l => k_is); (case c => k_is); (case k => k_is)
      case t4 =>
        refine' Dz.at1_of KX G ?a ?l ?c ?k
        (case a => k_is); (case l => k_is); (case c => k_is); (case k => k_is)
      case t5 =>
        refine' Dz.at1_of KX G ?a ?l ?c ?k
        (case a => k_is); (case l => k_is); (case c => k_is); (case k => k_is)
      case t6 =>
        refine' Dz.at1_of KX G ?a ?l ?c ?k
        (case a => k_is); (case l => k_is); (case c => k_is); (case k => k_is)
      case t7 =>
        refine' Dz.at1_of KX G ?a ?l ?c ?k
        (case a => k_is); (case l => k_is); (case c => k_is); (case k => k_is)
      case t8 =>
        refine' Dz.at1_of KX G ?a ?l ?c ?k
        (case a => k_is); (case l => k_is); (case c => k_is); (case k => k_is)
      case t9 =>
        refine' Dz.at1_of KX G ?a ?l ?c ?k
        (case a => k_is); (case l => k_is); (case c => k_is); (case k => k_is)
      case t10 =>
        refine' Dz.at1_of KX G ?a ?l ?c ?k
        (case a => k_is); (case l => k_is); (case c => k_is); (case k => k_is)
      case t11 =>
        refine' Dz.at1_of KX G ?a ?l ?c ?k
        (case a => k_is); (case l => k_is); (case c => k_is); (case k => k_is)
      case t12 =>
        refine' Dz.at1_of KX G ?a ?l ?c ?k
        (case a => k_is); (case l => k_is); (case c => k_is); (case k => k_is)
      case t13 =>
        refine' Dz.at1_of KX G ?a ?l ?c ?k
        (case a => k_is); (case l => k_is); (case c => k_is); (case k => k_is)
      case t14 =>
        refine' Dz.at1_of KX G ?a ?l ?c ?k
        (case a => k_is); (case l => k_is); (case c => k_is); (case k => k_is)
      case t15 =>
        refine' PySem.W.mg_none_of KX G ?z
        (case z => k_is)
      case t16 =>
        refine' PySem.W.mg_none_of KX G ?z
        (case z => k_is)
      case t17 =>
        refine' PySem.W.mg_none_of KX G ?z
        (case z => k_is)
      case t18 =>
        refine' PySem.W.mg_none_of KX G ?z
        (case z => k_is)
      case t19 =>
        refine' PySem.W.mg_none_of KX G ?z
        (case z => k_is)
      case t20 =>
        refine' PySem.W.mg_none_of KX G ?z
        (case z => k_is)
      case t21 =>
        refine' PySem.W.mg_none_of KX G ?z
        (case z => k_is)
      case t22 =>
        refine' PySem.W.mg_none_of KX G ?z
        (case z => k_is)
      case t23 =>
        refine' PySem.W.mg_none_of KX G ?z
        (case z => k_is)
      case t24 =>
        refine' Dz.glob_of KX G ?a (Dz.ci_tup ?l0 ?z0 ?v0)
        (case a => k_is)
        (case l0 => k_is); (case z0 => exact Nat.le_trans (Nat.le_of_ble_eq_true (show Nat.ble _ 100 = true from rfl)) (by rw [PySem.sizeLine_eq]; omega))
        (case v0 => exact (Dz.CIs.cons (Dz.ci_str) (Dz.CIs.cons (Dz.ci_str) (Dz.CIs.cons (Dz.ci_str) Dz.CIs.nil))))
      case t25 =>
        exact hsm
