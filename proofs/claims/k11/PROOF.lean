import PyProof.Rows.All
import Wide.All
import OpenK.AllK
import Wide.FinOn
import HandS.ForMost
import HandS.IsInst
import HandS.TupLe
import HandS.TupAny
import HandS.Deep
import HandS.Wide
import KE.KeyNested
import HandS.Style
import PyProof.ReprBulk
import PyProof.FitsInt
import PyProof.Rows.StrReprJoin
import HandS.Star
import HandS.Iter
import KE.SortData
import KE.GoesMore
import KE.GoesEnum
import PyProof.EnumMake
import PyProof.Draws
import PyProof.RulesMatch
import HandS.More
import HandS.NoneIn
import PyProof.AutoSeq1
import HandS.Small
import HandS.TupMul
import HandS.Strs
import KE.KDictPairs
import KE.KDictCopyH
import HandS.DictTup
import HandS.ReCall
import PyProof.Rows.TupDisplay
import HandS.SlotsOwn
import HandS.FStr
import HandS.MethStar
import HandS.Replace
import PySem.Challenge.RW_failsalike_k11_facts_added_and_asked
import HandS.Set
import HandS.SetTxt0
import HandS.SetBool
set_option Elab.async false
set_option linter.all false
set_option maxRecDepth 100000
set_option maxHeartbeats 4000000
/-! DzT0: tuples that are known to have no dict of their own: laid as .frz o (.tup xs). -/
namespace Dz
open PySem PySem.Spec L2 PyProof.Rows

/-- a new tuple's object: of the class tuple, without a dict of its own -/
def NewT (o : Obj) : Prop := o.cls = .type "tuple" ∧ o.dict = none
/-- a tuple known to have no dict of its own -/
def SqN (K : PySem.W.Frag) (H : Hp) (a : Addr) (xs : List V) : Prop :=
  (∃ o : Obj, H a = some (.frz o (.tup xs)) ∧ NewT o) ∨
    ∃ (o : Obj) (its : Array Value) (n : Nat), K.lookup a = some o ∧ NewT o ∧ o.data = .seq its n ∧ its.size ≤ sizeLine ∧ Vals xs its.toList
theorem SqN.t {K : PySem.W.Frag} {H : Hp} {a : Addr} {xs : List V} (h : SqN K H a xs) : SqT K H a xs := by
  rcases h with ⟨o, h, _⟩ | ⟨o, its, n, h1, h2, h3⟩
  · exact .inl (.inr ⟨o, h⟩)
  · exact .inr ⟨o, its, n, h1, h2.1, h3⟩
section
variable {X : Cx}
theorem newT_ok {P : Program} {w : World} {H : Hp} {h : Heap} {us : List Value} {xs : List V} (r : Vals xs us) (z : xs.length ≤ sizeLine) :
    ObjOk P w H (h.push { cls := .type "tuple", data := .seq us.toArray }) h.objs.size (.frz { cls := .type "tuple", data := .seq us.toArray } (.tup xs)) :=
  ⟨Heap.get?_push_size _ rfl, z, us, r, ⟨_, Heap.get?_push_size _ rfl, rfl, _, rfl⟩⟩
variable {e : Expr} {es : List Expr} {te : TE} {t : TA} {pos : Pos}
def tTupN (t : TA) : TE := fun σ H Q => t σ H fun xs H1 => xs.length ≤ sizeLine ∧ ∀ p o, H1 p = none → NewT o → Q (.ref p) (upd H1 p (.frz o (.tup xs)))
theorem pe_tupN {x1} (h : PA X es t) : PE X (.Tuple es x1 pos) (tTupN t) := by
  refine ⟨fun pins s σ H Q I hq => ?_⟩
  refine wpAny_Tuple_spliced (thn (h.run pos pins s σ H _ I hq) fun us s1 ⟨xs, H1, I1, r, z, q⟩ => ⟨by rw [← r.length]; exact z, ?_⟩)
  have hf : H1 s1.heap.objs.size = none := I1.hok.fresh (Nat.le_refl _)
  exact ⟨.ref s1.heap.objs.size, upd H1 s1.heap.objs.size (.frz { cls := .type "tuple", data := .seq us.toArray } (.tup xs)), I1.laid (t' := s1.toks) (fun b u e => Heap.get?_push_of_some _ e) (Nat.le_refl _) (newT_ok r z), rfl, q _ _ hf ⟨rfl, rfl⟩⟩
theorem call_tupleN : CallR X (.type "tuple") (fun xs H Q => ∃ p ys, xs = [.ref p] ∧ ((SqL X.K H p ys ∧ ∀ l o, H l = none → NewT o → Q (.ref l) (upd H l (.frz o (.tup ys)))) ∨ (SqT X.K H p ys ∧ Q (.ref p) H))) := by
  intro pins s σ H xs us Q I r h
  obtain ⟨p, ys, rfl, h⟩ := h
  obtain ⟨u, rfl, rx⟩ := vals1 r
  cases rx
  rcases h with ⟨hq, q⟩ | ⟨hq, q⟩
  · obtain ⟨its, r', pl, hz⟩ := I.list hq
    have hlen := r'.length
    refine call_tuple_list pl.isList (fun h' kp => ?_) (by simp only [List.size_toArray] <;> omega)
    have I1 : Inv X pins σ H { s with heap := h' } := I.kept (t' := s.toks) kp
    exact ⟨.ref h'.objs.size, _, I1.laid (t' := s.toks) (fun b o e => Heap.get?_push_of_some _ e) (Nat.le_refl _) (newT_ok r' hz), rfl, q _ _ (I1.hok.fresh (Nat.le_refl _)) ⟨rfl, rfl⟩⟩
  · obtain ⟨its, r', pl, hz⟩ := I.tuple hq
    exact call_tuple_same pl ⟨.ref p, H, I, rfl, q⟩
/-- t + u -/
def rCatN (K : PySem.W.Frag) : R2 := fun x y H Q => ∃ a b xs ys, x = .ref a ∧ y = .ref b ∧ SqT K H a xs ∧ SqT K H b ys ∧ xs.length + ys.length ≤ sizeLine ∧
  (xs = [] → Q (.ref b) H) ∧ (xs ≠ [] → ys = [] → Q (.ref a) H) ∧ (xs ≠ [] → ys ≠ [] → ∀ p o, H p = none → NewT o → Q (.ref p) (upd H p (.frz o (.tup (xs ++ ys)))))
theorem op_catN : OpR X (binaryOp .Add) (rCatN X.K) := by
  intro pins s σ H x y v u Q I rx ry h
  obtain ⟨a, b, xs, ys, rfl, rfl, ha, hb, hz, q0, q1, q2⟩ := h
  cases rx
  cases ry
  obtain ⟨its, r1, p1, _⟩ := I.tuple ha
  obtain ⟨its2, r2, p2, _⟩ := I.tuple hb
  by_cases hx : xs = []
  · subst hx
    cases r1
    exact cat_tup0 p1 p2 ⟨.ref b, H, I, rfl, q0 rfl⟩
  · refine HT.cat_tup p1 p2 (fun z => hx (r1.nil_iff.mp z)) (fun z => ⟨.ref a, H, I, rfl, q1 hx (r2.nil_iff.mp z)⟩) (fun z => ?_) (by rw [← r1.length, ← r2.length]; exact hz)
    exact ⟨.ref s.heap.objs.size, _, I.laid (t' := s.toks) (fun b ob q => Heap.get?_push_of_some _ q) (Nat.le_refl _) (newT_ok (r1.append r2) (by rw [List.length_append]; exact hz)), rfl, q2 hx (fun w => z (r2.nil_iff.mpr w)) _ _ (I.hok.fresh (Nat.le_refl _)) ⟨rfl, rfl⟩⟩
/-- t[lo:hi]: the whole of it is t itself -/
def rSlN (K : PySem.W.Frag) : V → Option Int → Option Int → Hp → VK → Prop := fun x lo hi H Q => ∃ a xs, x = .ref a ∧ SqT K H a xs ∧
  (HT.sIx xs.length 0 lo = 0 ∧ HT.sIx xs.length xs.length hi = xs.length → Q (.ref a) H) ∧ (¬ (HT.sIx xs.length 0 lo = 0 ∧ HT.sIx xs.length xs.length hi = xs.length) → ∀ p o, H p = none → NewT o → Q (.ref p) (upd H p (.frz o (.tup (cutV xs lo hi)))))
theorem sl_tupN : SlR X (rSlN X.K) := by
  intro pins s σ H x v vl vu lo hi sl Q I rx hs pl pu h
  obtain ⟨a, xs, rfl, hx, q1, q2⟩ := h
  cases rx
  obtain ⟨its, r, ht, hz⟩ := I.tuple hx
  have hlen : its.toArray.size = xs.length := by rw [List.size_toArray]; exact r.length.symm
  refine ⟨"tuple", _, PyProof.Rows.slot_tuple_getitem.lookup, ht.typeIs, ?_⟩
  by_cases hw : HT.sIx xs.length 0 lo = 0 ∧ HT.sIx xs.length xs.length hi = xs.length
  · exact getItem_tuple_whole ht hs pl pu (by rw [hlen]; exact hw) ⟨.ref a, H, I, rfl, q1 hw⟩
  · refine HT.getItem_tuple_cut ht hs pl pu (by rw [hlen]; exact hw) ?_ (by rw [hlen]; exact hz)
    rw [hlen]
    exact ⟨.ref s.heap.objs.size, _, I.laid (t' := s.toks) (fun b ob q => Heap.get?_push_of_some _ q) (Nat.le_refl _) (newT_ok ((r.drop (HT.sIx xs.length 0 lo)).take (HT.sIx xs.length xs.length hi - HT.sIx xs.length 0 lo)) (Nat.le_trans (cutV_length xs lo hi) hz)), rfl, q2 hw _ _ (I.hok.fresh (Nat.le_refl _)) ⟨rfl, rfl⟩⟩
end
end Dz

set_option Elab.async false
set_option linter.all false
set_option maxRecDepth 100000
set_option maxHeartbeats 4000000
/-! Dz1: values as plain data, the objects that may change beside them, and what a reading over data says. -/
namespace Dz
open PySem L2

/-- plain data; obj: an object that may change, by its address -/
inductive DV where
  | none | bool (b : Bool) | int (i : Int) | str (x : Str)
  | tup (ds : List DV) | lst (ds : List DV) | dct (kvs : List (Key × DV)) | obj (a : Addr)
  /-- a list that is read alone (the script) -/
  | fix (ds : List DV)

mutual
/-- the value v is the data d, as the heap stands -/
inductive Is (K : PySem.W.Frag) (H : Hp) : V → DV → Prop
  | none : Is K H .non .none
  | bool (b : Bool) : Is K H (.bl b) (.bool b)
  | int (i : Int) : Is K H (.int i) (.int i)
  | str (x : Str) : Is K H (.str x) (.str x)
  | tup {a : Addr} {xs : List V} {ds : List DV} : SqN K H a xs → Iss K H xs ds → Is K H (.ref a) (.tup ds)
  | lst {a : Addr} {xs : List V} {ds : List DV} : H a = some (.lst xs) → Iss K H xs ds → Is K H (.ref a) (.lst ds)
  | dct {a : Addr} {kvs : List (Key × V)} {ds : List (Key × DV)} : H a = some (.dK kvs) → kvs.map (·.1) = ds.map (·.1) → Iss K H (kvs.map (·.2)) (ds.map (·.2)) → Is K H (.ref a) (.dct ds)
  | obj (a : Addr) : Is K H (.ref a) (.obj a)
  | fix {a : Addr} {xs : List V} {ds : List DV} : SqL K H a xs → Iss K H xs ds → Is K H (.ref a) (.fix ds)
inductive Iss (K : PySem.W.Frag) (H : Hp) : List V → List DV → Prop
  | nil : Iss K H [] []
  | cons {v : V} {vs : List V} {d : DV} {ds : List DV} : Is K H v d → Iss K H vs ds → Iss K H (v :: vs) (d :: ds)
end

theorem Same.seqT {K : PySem.W.Frag} {H H' : Hp} {a : Addr} {xs : List V} (e : Same H H') (h : SqT K H a xs) : SqT K H' a xs := by
  rcases h with (h | ⟨o, h⟩) | h
  · exact .inl (.inl (e _ _ h))
  · exact .inl (.inr ⟨o, e _ _ h⟩)
  · exact .inr h

theorem Same.seqN {K : PySem.W.Frag} {H H' : Hp} {a : Addr} {xs : List V} (e : Same H H') (h : SqN K H a xs) : SqN K H' a xs := by
  rcases h with ⟨o, h, n⟩ | h
  · exact .inl ⟨o, e _ _ h, n⟩
  · exact .inr h

mutual
theorem Is.mono {K : PySem.W.Frag} {H H' : Hp} (e : Same H H') : ∀ {v : V} {d : DV}, Is K H v d → Is K H' v d
  | _, _, .none => .none
  | _, _, .bool b => .bool b
  | _, _, .int i => .int i
  | _, _, .str x => .str x
  | _, _, .tup h r => .tup (Same.seqN e h) (Iss.mono e r)
  | _, _, .lst h r => .lst (e _ _ h) (Iss.mono e r)
  | _, _, .dct h k r => .dct (e _ _ h) k (Iss.mono e r)
  | _, _, .obj a => .obj a
  | _, _, .fix h r => .fix (e.seq h) (Iss.mono e r)
theorem Iss.mono {K : PySem.W.Frag} {H H' : Hp} (e : Same H H') : ∀ {vs : List V} {ds : List DV}, Iss K H vs ds → Iss K H' vs ds
  | _, _, .nil => .nil
  | _, _, .cons h r => .cons (Is.mono e h) (Iss.mono e r)
end
theorem Iss.length {K : PySem.W.Frag} {H : Hp} : ∀ {vs : List V} {ds : List DV}, Iss K H vs ds → vs.length = ds.length
  | _, _, .nil => rfl
  | _, _, .cons _ r => congrArg (· + 1) (Iss.length r)
theorem Iss.append {K : PySem.W.Frag} {H : Hp} : ∀ {vs us : List V} {ds es : List DV}, Iss K H vs ds → Iss K H us es → Iss K H (vs ++ us) (ds ++ es)
  | _, _, _, _, .nil, s => s
  | _, _, _, _, .cons h r, s => .cons h (Iss.append r s)
theorem Iss.take {K : PySem.W.Frag} {H : Hp} : ∀ {vs : List V} {ds : List DV} (n : Nat), Iss K H vs ds → Iss K H (vs.take n) (ds.take n)
  | _, _, 0, _ => .nil
  | _, _, _ + 1, .nil => .nil
  | _, _, n + 1, .cons h r => .cons h (Iss.take n r)
theorem Iss.drop {K : PySem.W.Frag} {H : Hp} : ∀ {vs : List V} {ds : List DV} (n : Nat), Iss K H vs ds → Iss K H (vs.drop n) (ds.drop n)
  | _, _, 0, r => r
  | _, _, _ + 1, .nil => .nil
  | _, _, n + 1, .cons _ r => Iss.drop n r
theorem Iss.get {K : PySem.W.Frag} {H : Hp} : ∀ {vs : List V} {ds : List DV} {i : Nat} {d : DV}, Iss K H vs ds → ds[i]? = some d → ∃ v, vs[i]? = some v ∧ Is K H v d
  | _, _, _, _, .nil, e => by simp at e
  | _, _, 0, d, .cons h _, e => by simp at e; subst e; exact ⟨_, rfl, h⟩
  | _, _, i + 1, d, .cons _ r, e => by
    obtain ⟨v, h1, h2⟩ := Iss.get (i := i) (d := d) r (by simpa using e)
    exact ⟨v, by simpa using h1, h2⟩
theorem Iss.getV {K : PySem.W.Frag} {H : Hp} : ∀ {vs : List V} {ds : List DV} {i : Nat} {v : V}, Iss K H vs ds → vs[i]? = some v → ∃ d, ds[i]? = some d ∧ Is K H v d
  | _, _, _, _, .nil, e => by simp at e
  | _, _, 0, v, .cons h _, e => by simp at e; subst e; exact ⟨_, rfl, h⟩
  | _, _, i + 1, v, .cons _ r, e => by
    obtain ⟨d, h1, h2⟩ := Iss.getV (i := i) (v := v) r (by simpa using e)
    exact ⟨d, by simpa using h1, h2⟩
theorem Iss.set {K : PySem.W.Frag} {H : Hp} {v : V} {d : DV} (h : Is K H v d) : ∀ {vs : List V} {ds : List DV} (i : Nat), Iss K H vs ds → Iss K H (vs.set i v) (ds.set i d)
  | _, _, _, .nil => .nil
  | _, _, 0, .cons _ r => .cons h r
  | _, _, i + 1, .cons q r => .cons q (Iss.set h i r)
theorem Iss.replicate {K : PySem.W.Frag} {H : Hp} {vs : List V} {ds : List DV} (r : Iss K H vs ds) : ∀ n : Nat, Iss K H (List.replicate n vs).flatten (List.replicate n ds).flatten
  | 0 => .nil
  | n + 1 => by
    rw [List.replicate_succ, List.replicate_succ, List.flatten_cons, List.flatten_cons]
    exact r.append (Iss.replicate r n)
theorem Iss.reverse {K : PySem.W.Frag} {H : Hp} : ∀ {vs : List V} {ds : List DV}, Iss K H vs ds → Iss K H vs.reverse ds.reverse
  | _, _, .nil => .nil
  | _, _, .cons h r => by
    rw [List.reverse_cons, List.reverse_cons]
    exact (Iss.reverse r).append (.cons h .nil)

/-! ### objects that change -/
mutual
/-- data that can be a key of any depth -/
def nkey : DV → Option NestedKey
  | .none => some .none
  | .int i => some (.num i)
  | .str x => some (.text x)
  | .tup ds => (nkeys ds).map .tup
  | _ => none
def nkeys : List DV → Option (List NestedKey)
  | [] => some []
  | d :: ds => match nkey d, nkeys ds with
    | some k, some ks => some (k :: ks)
    | _, _ => none
end
inductive MO where
  /-- a dict whose keys are tuples, of any depth; hs: the keys' hash, as this run has it -/
  | dcN (hs : NestedKey → Int) (kvs : List (NestedKey × DV))
  | lst (ds : List DV) | dct (kvs : List (Key × DV)) | ins (C : Addr) (fs : List (Str × DV))
  /-- an object of which only φ is known: it stays so as long as it and the addresses near stay -/
  | ext (near : List Addr) (φ : Hp → Prop)
  /-- an object that belongs to another one -/
  | inner
abbrev Mh := Addr → Option MO
def updM (μ : Mh) (a : Addr) (o : MO) : Mh := fun b => if b = a then some o else μ b
theorem updM_same {μ : Mh} {a : Addr} {o : MO} : updM μ a o a = some o := by unfold updM; rw [if_pos rfl]
theorem updM_ne {μ : Mh} {a b : Addr} {o : MO} (h : b ≠ a) : updM μ a o b = μ b := by unfold updM; rw [if_neg h]

/-- what is neither framed nor an object -/
def hid (R : Hp) (μ : Mh) (H : Hp) : Hp := fun a => if (R a).isNone = true ∧ (μ a).isNone = true then H a else none
theorem hid_at {R : Hp} {μ : Mh} {H : Hp} {a : Addr} (h1 : R a = none) (h2 : μ a = none) : hid R μ H a = H a := by
  unfold hid
  rw [if_pos ⟨by rw [h1]; rfl, by rw [h2]; rfl⟩]
theorem hid_some {R : Hp} {μ : Mh} {H : Hp} {a : Addr} {o : HO} (h : hid R μ H a = some o) : R a = none ∧ μ a = none ∧ H a = some o := by
  unfold hid at h
  split at h
  · rename_i c
    exact ⟨by simpa using c.1, by simpa using c.2, h⟩
  · cases h
theorem hid_le {R : Hp} {μ : Mh} {H : Hp} : Same (hid R μ H) H := fun _ _ h => (hid_some h).2.2

/-- the object of a dict with keys at addresses -/
def rawN (a : Addr) (hs : NestedKey → Int) (es : List (NestedKey × Addr × V)) : HO := .ext fun h => es.length ≤ sizeLine ∧ (a == sysModules) = false ∧ ∃ xs : List (NestedKey × Addr × Value),
  xs.map (fun x => (x.1, x.2.1)) = es.map (fun e => (e.1, e.2.1)) ∧ Vals (es.map (·.2.2)) (xs.map (·.2.2)) ∧
  ∃ o ds ep, h.get? a = some o ∧ o.ExactDict ∧ o.data = .dict ds ep ∧ ds.toList = xs.map fun x => ⟨hs x.1, .ref x.2.1, x.2.2⟩
def MOk (K : PySem.W.Frag) (Hm H : Hp) (μ : Mh) (a : Addr) : MO → Prop
  | .dcN hs ks => ∃ es : List (NestedKey × Addr × V), H a = some (rawN a hs es) ∧ (∀ e ∈ es, e.1.depth ≤ 8 ∧ ∃ d, Is K Hm (.ref e.2.1) d ∧ nkey d = some e.1) ∧ (es.map (·.1)).Nodup ∧ es.map (·.1) = ks.map (·.1) ∧ Iss K Hm (es.map (·.2.2)) (ks.map (·.2))
  | .lst ds => ∃ xs, H a = some (.lst xs) ∧ Iss K Hm xs ds
  | .dct ks => ∃ kvs : List (Key × V), H a = some (.dK kvs) ∧ kvs.map (·.1) = ks.map (·.1) ∧ Iss K Hm (kvs.map (·.2)) (ks.map (·.2))
  | .ins C fs => ∃ dx gs, H a = some (.ins C dx gs) ∧ gs.map (·.1) = fs.map (·.1) ∧ Iss K Hm (gs.map (·.2)) (fs.map (·.2))
  | .ext near φ => φ H ∧ (∃ o, H a = some o) ∧ (∀ b ∈ near, μ b = some .inner) ∧ ∀ H1 H2 : Hp, φ H1 → (∀ b, b = a ∨ b ∈ near → H2 b = H1 b) → φ H2
  | .inner => ∃ o, H a = some o

structure Ok (K : PySem.W.Frag) (R : Hp) (μ : Mh) (H : Hp) : Prop where
  fr : ∀ a o, R a = some o → H a = some o
  dj : ∀ a o, R a = some o → μ a = none
  ob : ∀ a o, μ a = some o → MOk K (hid R μ H) H μ a o
theorem MOk.here {K : PySem.W.Frag} {Hm H : Hp} {μ : Mh} {a : Addr} : ∀ {o : MO}, MOk K Hm H μ a o → ∃ u, H a = some u
  | .dcN _ _, h => let ⟨_, e, _⟩ := h; ⟨_, e⟩
  | .lst _, h => let ⟨_, e, _⟩ := h; ⟨_, e⟩
  | .dct _, h => let ⟨_, e, _⟩ := h; ⟨_, e⟩
  | .ins _ _, h => let ⟨_, _, e, _⟩ := h; ⟨_, e⟩
  | .ext _ _, h => h.2.1
  | .inner, h => h
section
variable {K : PySem.W.Frag} {R : Hp} {μ μ' : Mh} {H H' : Hp} {p : Addr} {o : HO}
theorem Ok.freeM (k : Ok K R μ H) (h : H p = none) : μ p = none := by
  cases e : μ p with
  | none => rfl
  | some q => obtain ⟨u, z⟩ := (k.ob p q e).here; rw [h] at z; cases z
theorem Ok.freeR (k : Ok K R μ H) (h : H p = none) : R p = none := by
  cases e : R p with
  | none => rfl
  | some q => have z := k.fr p q e; rw [h] at z; cases z
theorem Ok.hidNew (k : Ok K R μ H) (h : H p = none) : hid R μ (upd H p o) = upd (hid R μ H) p o := by
  funext b
  by_cases e : b = p
  · subst e
    rw [upd_same, hid_at (k.freeR h) (k.freeM h), upd_same]
  · unfold hid
    rw [upd_ne e, upd_ne e]
theorem Ok.sameNew (k : Ok K R μ H) (h : H p = none) : Same (hid R μ H) (hid R μ (upd H p o)) := fun b u e => by
  rw [k.hidNew h, upd_ne (fun z => ?_)]
  · exact e
  · subst z
    have := hid_le b u e
    rw [h] at this
    cases this
theorem MOk.mono {Hm Hm' : Hp} {a : Addr} (s : Same Hm Hm') (e : H' a = H a) (en : ∀ b ∈ (match μ a with | some (.ext near _) => near | _ => []), H' b = H b) : ∀ {o : MO}, μ a = some o → (∀ b, μ b = some .inner → μ' b = some .inner) → MOk K Hm H μ a o → MOk K Hm' H' μ' a o
  | .dcN _ _, _, _, ⟨es, h, ks, nd, q, r⟩ => ⟨es, e.trans h, fun x hx => let ⟨z, d, i, n⟩ := ks x hx; ⟨z, d, i.mono s, n⟩, nd, q, r.mono s⟩
  | .lst _, _, _, ⟨xs, h, r⟩ => ⟨xs, e.trans h, r.mono s⟩
  | .dct _, _, _, ⟨xs, h, q, r⟩ => ⟨xs, e.trans h, q, r.mono s⟩
  | .ins _ _, _, _, ⟨dx, gs, h, q, r⟩ => ⟨dx, gs, e.trans h, q, r.mono s⟩
  | .ext near φ, hm, hi, ⟨h, ⟨u, hu⟩, hn, st⟩ => by
    rw [hm] at en
    refine ⟨st H H' h (fun b hb => ?_), ⟨u, e.trans hu⟩, fun b hb => hi b (hn b hb), st⟩
    rcases hb with rfl | hb
    · exact e
    · exact en b hb
  | .inner, _, _, ⟨u, h⟩ => ⟨u, e.trans h⟩
/-- a new thing, not an object that changes -/
theorem Ok.new (k : Ok K R μ H) (h : H p = none) : Ok K R μ (upd H p o) := by
  have ne : ∀ {b u}, H b = some u → b ≠ p := fun e z => by subst z; rw [h] at e; cases e
  refine ⟨fun a u e => ?_, k.dj, fun a u e => ?_⟩
  · rw [upd_ne (ne (k.fr a u e))]
    exact k.fr a u e
  · obtain ⟨w, hw⟩ := (k.ob a u e).here
    refine (k.ob a u e).mono (k.sameNew h) (upd_ne (ne hw)) (fun b hb => ?_) e (fun _ z => z)
    rw [e] at hb
    cases u with
    | ext near φ =>
      obtain ⟨_, _, hn, _⟩ := k.ob a _ e
      obtain ⟨v, hv⟩ := (k.ob b _ (hn b hb)).here
      exact upd_ne (ne hv)
    | _ => cases hb
/-- a new object that may change -/
theorem Ok.newM {m : MO} (k : Ok K R μ H) (h : H p = none) (hm : MOk K (hid R (updM μ p m) (upd H p o)) (upd H p o) (updM μ p m) p m) (hne : m ≠ .inner) : Ok K R (updM μ p m) (upd H p o) ∧ Same (hid R μ H) (hid R (updM μ p m) (upd H p o)) := by
  have ne : ∀ {b u}, H b = some u → b ≠ p := fun e z => by subst z; rw [h] at e; cases e
  have fm := k.freeM h
  have hs : Same (hid R μ H) (hid R (updM μ p m) (upd H p o)) := fun b u e => by
    obtain ⟨e1, e2, e3⟩ := hid_some e
    rw [hid_at e1 (by rw [updM_ne (ne e3)]; exact e2), upd_ne (ne e3)]
    exact e3
  refine ⟨⟨fun a u e => ?_, fun a u e => ?_, fun a u e => ?_⟩, hs⟩
  · rw [upd_ne (ne (k.fr a u e))]
    exact k.fr a u e
  · rw [updM_ne (ne (k.fr a u e))]
    exact k.dj a u e
  · by_cases z : a = p
    · subst z
      rw [updM_same] at e
      cases e
      exact hm
    · rw [updM_ne z] at e
      refine (k.ob a u e).mono hs (upd_ne z) (fun b hb => ?_) e (fun b q => ?_)
      · rw [e] at hb
        cases u with
        | ext near φ =>
          obtain ⟨_, _, hn, _⟩ := k.ob a _ e
          obtain ⟨v, hv⟩ := (k.ob b _ (hn b hb)).here
          exact upd_ne (ne hv)
        | _ => cases hb
      · rw [updM_ne (fun w => by subst w; rw [fm] at q; cases q)]
        exact q
end

/-! ### names -/
abbrev Rho := List (Option DV)
structure Sl (K : PySem.W.Frag) (H : Hp) (σ : St) (ρ : Rho) : Prop where
  len : σ.length = ρ.length
  at_ : ∀ (i : Nat) (d : DV), ρ[i]? = some (some d) → ∃ v, σ[i]? = some (some v) ∧ Is K H v d
section
variable {K : PySem.W.Frag} {H H' : Hp} {σ : St} {ρ : Rho}
theorem Sl.mono (s : Same H H') (h : Sl K H σ ρ) : Sl K H' σ ρ := ⟨h.len, fun i d e => let ⟨v, a, b⟩ := h.at_ i d e; ⟨v, a, b.mono s⟩⟩
theorem Sl.set {v : V} {d : DV} (h : Sl K H σ ρ) (i : Nat) (r : Is K H v d) : Sl K H (σ.set i (some v)) (ρ.set i (some d)) := by
  refine ⟨by rw [List.length_set, List.length_set, h.len], fun j e he => ?_⟩
  by_cases z : i = j
  · subst z
    by_cases hl : i < ρ.length
    · rw [List.getElem?_set_self hl] at he
      cases he
      exact ⟨v, by rw [List.getElem?_set_self (by rw [h.len]; exact hl)], r⟩
    · rw [List.getElem?_eq_none (by rw [List.length_set]; omega)] at he
      cases he
  · rw [List.getElem?_set_ne z] at he ⊢
    exact h.at_ j e he
theorem Sl.unset (h : Sl K H σ ρ) (i : Nat) : Sl K H (σ.set i none) (ρ.set i none) := by
  refine ⟨by rw [List.length_set, List.length_set, h.len], fun j e he => ?_⟩
  by_cases z : i = j
  · subst z
    by_cases hl : i < ρ.length
    · rw [List.getElem?_set_self hl] at he
      cases he
    · rw [List.getElem?_eq_none (by rw [List.length_set]; omega)] at he
      cases he
  · rw [List.getElem?_set_ne z] at he ⊢
    exact h.at_ j e he
/-- the slots of a block's own names forgotten -/
def wipeD (ρ : Rho) : List Nat → Rho
  | [] => ρ
  | v :: vs => (wipeD ρ vs).set v none
theorem Sl.wipe (h : Sl K H σ ρ) : ∀ vs : List Nat, Sl K H (L2.wipe σ vs) (wipeD ρ vs)
  | [] => h
  | v :: vs => (Sl.wipe h vs).unset v
theorem Sl.start {N : List Str} {vs : List V} {ds : List DV} (h : Iss K H vs ds) : Sl K H (L2.start N vs) (ds.map some ++ List.replicate (N.length - ds.length) none) := by
  have hl := h.length
  unfold L2.start
  refine ⟨by simp [hl], fun i d e => ?_⟩
  by_cases hi : i < ds.length
  · rw [List.getElem?_append_left (by simpa using hi), List.getElem?_map] at e
    cases q : ds[i]? with
    | none => rw [q] at e; cases e
    | some d' =>
      rw [q] at e
      cases e
      obtain ⟨v, h1, h2⟩ := h.get q
      refine ⟨v, ?_, h2⟩
      rw [List.getElem?_append_left (by simp; omega), List.getElem?_map, h1]
      rfl
  · rw [List.getElem?_append_right (by simpa using hi), List.getElem?_replicate] at e
    split at e <;> cases e
end

/-! ### readings over data -/
abbrev WE := Rho → Mh → (DV → Mh → Prop) → Prop
abbrev WT := Rho → Mh → (Bool → Mh → Prop) → Prop
abbrev WA := Rho → Mh → (List DV → Mh → Prop) → Prop
structure DEnds where
  nx : Rho → Mh → Prop
  rt : DV → Mh → Prop
  bk : Rho → Mh → Prop := fun _ _ => False
  ct : Rho → Mh → Prop := fun _ _ => False
abbrev WS := DEnds → Rho → Mh → Prop
/-- a def over data -/
abbrev WF := List DV → Mh → (DV → Mh → Prop) → Prop
/-- a target -/
abbrev WG := DV → Rho → (Rho → Prop) → Prop

structure At (K : PySem.W.Frag) (R : Hp) (σ : St) (ρ : Rho) (μ : Mh) (H : Hp) : Prop where
  ok : Ok K R μ H
  sl : Sl K (hid R μ H) σ ρ
def Nxt (K : PySem.W.Frag) (R : Hp) (μ : Mh) (H : Hp) (P : DV → Mh → Prop) (Q : VK) : Prop :=
  ∀ d μ' v H', P d μ' → Ok K R μ' H' → Same (hid R μ H) (hid R μ' H') → Is K (hid R μ' H') v d → Q v H'
def NxtT (K : PySem.W.Frag) (R : Hp) (μ : Mh) (H : Hp) (P : Bool → Mh → Prop) (Q : Bool → Hp → Prop) : Prop :=
  ∀ b μ' H', P b μ' → Ok K R μ' H' → Same (hid R μ H) (hid R μ' H') → Q b H'
def NxtA (K : PySem.W.Frag) (R : Hp) (μ : Mh) (H : Hp) (P : List DV → Mh → Prop) (Q : List V → Hp → Prop) : Prop :=
  ∀ ds μ' vs H', P ds μ' → Ok K R μ' H' → Same (hid R μ H) (hid R μ' H') → Iss K (hid R μ' H') vs ds → Q vs H'
def NxtS (K : PySem.W.Frag) (R : Hp) (μ : Mh) (H : Hp) (P : Rho → Mh → Prop) (Q : St → Hp → Prop) : Prop :=
  ∀ ρ' μ' σ' H', P ρ' μ' → At K R σ' ρ' μ' H' → Same (hid R μ H) (hid R μ' H') → Q σ' H'
section
variable {K : PySem.W.Frag} {R : Hp} {μ μ' : Mh} {H H' : Hp} {σ : St} {ρ : Rho}
theorem At.step (a : At K R σ ρ μ H) (k : Ok K R μ' H') (s : Same (hid R μ H) (hid R μ' H')) : At K R σ ρ μ' H' := ⟨k, a.sl.mono s⟩
theorem Nxt.step {P : DV → Mh → Prop} {Q : VK} (k : Nxt K R μ H P Q) (s : Same (hid R μ H) (hid R μ' H')) : Nxt K R μ' H' P Q := fun d m v h p o s' i => k d m v h p o (s.trans s') i
theorem NxtT.step {P : Bool → Mh → Prop} {Q : Bool → Hp → Prop} (k : NxtT K R μ H P Q) (s : Same (hid R μ H) (hid R μ' H')) : NxtT K R μ' H' P Q := fun d m h p o s' => k d m h p o (s.trans s')
theorem NxtA.step {P : List DV → Mh → Prop} {Q : List V → Hp → Prop} (k : NxtA K R μ H P Q) (s : Same (hid R μ H) (hid R μ' H')) : NxtA K R μ' H' P Q := fun d m v h p o s' i => k d m v h p o (s.trans s') i
theorem NxtS.step {P : Rho → Mh → Prop} {Q : St → Hp → Prop} (k : NxtS K R μ H P Q) (s : Same (hid R μ H) (hid R μ' H')) : NxtS K R μ' H' P Q := fun d m v h p o s' => k d m v h p o (s.trans s')
end
def tD (K : PySem.W.Frag) (w : WE) : TE := fun σ H Q => ∃ R ρ μ P, At K R σ ρ μ H ∧ w ρ μ P ∧ Nxt K R μ H P Q
def tDT (K : PySem.W.Frag) (w : WT) : TT := fun σ H Q => ∃ R ρ μ P, At K R σ ρ μ H ∧ w ρ μ P ∧ NxtT K R μ H P Q
def tDA (K : PySem.W.Frag) (w : WA) : TA := fun σ H Q => ∃ R ρ μ P, At K R σ ρ μ H ∧ w ρ μ P ∧ NxtA K R μ H P Q
structure NxtD (K : PySem.W.Frag) (R : Hp) (μ : Mh) (H : Hp) (E : DEnds) (D : Ends) : Prop where
  nx : NxtS K R μ H E.nx D.nx
  rt : Nxt K R μ H E.rt D.rt
  bk : NxtS K R μ H E.bk D.bk
  ct : NxtS K R μ H E.ct D.ct
theorem NxtD.step {K : PySem.W.Frag} {R : Hp} {μ μ' : Mh} {H H' : Hp} {E : DEnds} {D : Ends} (k : NxtD K R μ H E D) (s : Same (hid R μ H) (hid R μ' H')) : NxtD K R μ' H' E D := ⟨k.nx.step s, k.rt.step s, k.bk.step s, k.ct.step s⟩
def tDS (K : PySem.W.Frag) (w : WS) : TS := fun D σ H => ∃ R ρ μ E, At K R σ ρ μ H ∧ w E ρ μ ∧ NxtD K R μ H E D
/-- the promise of a def over data, n its parameters -/
def spD (K : PySem.W.Frag) (n : Nat) (w : WF) : Sp := fun vs H Q _ => ∃ R ds μ P, Ok K R μ H ∧ Iss K (hid R μ H) vs ds ∧ ds.length = n ∧ w ds μ P ∧ Nxt K R μ H P Q

/-! ### weaker readings -/
section
variable {X : Cx}
theorem PE.imp {e : Expr} {t t' : TE} (h : PE X e t) (i : ∀ σ H Q, t' σ H Q → t σ H Q) : PE X e t' := ⟨fun pins s σ H Q I w => h.run pins s σ H Q I (i _ _ _ w)⟩
theorem PT.imp {e : Expr} {t t' : TT} (h : PT X e t) (i : ∀ σ H Q, t' σ H Q → t σ H Q) : PT X e t' := ⟨fun pins s σ H Q I w => h.run pins s σ H Q I (i _ _ _ w)⟩
theorem PW.imp {e : Expr} {t t' : TT} (h : PW X e t) (i : ∀ σ H Q, t' σ H Q → t σ H Q) : PW X e t' := ⟨fun wh pins s σ H Q I w => h.run wh pins s σ H Q I (i _ _ _ w)⟩
theorem PA.imp {es : List Expr} {t t' : TA} (h : PA X es t) (i : ∀ σ H Q, t' σ H Q → t σ H Q) : PA X es t' := ⟨fun pos pins s σ H Q I w => h.run pos pins s σ H Q I (i _ _ _ w)⟩
theorem PK.imp {es : List Keyword} {t t' : TA} (h : PK X es t) (i : ∀ σ H Q, t' σ H Q → t σ H Q) : PK X es t' := ⟨fun pos pins s σ H Q I w => h.run pos pins s σ H Q I (i _ _ _ w)⟩
theorem PS.imp {st : Stmt} {t t' : TS} (h : PS X st t) (i : ∀ D σ H, t' D σ H → t D σ H) : PS X st t' := ⟨fun pins s σ H D I w => h.run pins s σ H D I (i _ _ _ w)⟩
theorem PSs.imp {st : List Stmt} {t t' : TS} (h : PSs X st t) (i : ∀ D σ H, t' D σ H → t D σ H) : PSs X st t' := ⟨fun pins s σ H D I w => h.run pins s σ H D I (i _ _ _ w)⟩
end
end Dz

set_option Elab.async false
set_option linter.all false
set_option maxRecDepth 100000
set_option maxHeartbeats 4000000
/-! Dz2: rules over data: expressions, tests, comparisons, displays, subscripts. -/
namespace Dz
open PySem L2
section
variable {K : PySem.W.Frag} {R : Hp} {μ μ' : Mh} {H H' : Hp} {σ : St} {ρ : Rho} {P : DV → Mh → Prop} {Q : VK} {d : DV} {v : V} {p : Addr}
theorem Nxt.val (k : Nxt K R μ H P Q) (o : Ok K R μ H) (h : P d μ) (i : Is K (hid R μ H) v d) : Q v H := k d μ v H h o (Same.refl _) i
theorem hid_new {o : HO} (k : Ok K R μ H) (h : H p = none) : hid R μ (upd H p o) p = some o := by rw [k.hidNew h, upd_same]
theorem isLst {xs : List V} {ds : List DV} (k : Ok K R μ H) (h : H p = none) (r : Iss K (hid R μ H) xs ds) : Is K (hid R μ (upd H p (.lst xs))) (.ref p) (.lst ds) :=
  .lst (hid_new k h) (r.mono (k.sameNew h))
theorem isTup {xs : List V} {ds : List DV} {t : Obj} (n : NewT t) (k : Ok K R μ H) (h : H p = none) (r : Iss K (hid R μ H) xs ds) : Is K (hid R μ (upd H p (.frz t (.tup xs)))) (.ref p) (.tup ds) :=
  .tup (.inl ⟨t, hid_new k h, n⟩) (r.mono (k.sameNew h))
theorem Nxt.lst {xs : List V} {ds : List DV} (k : Nxt K R μ H P Q) (o : Ok K R μ H) (h : P (.lst ds) μ) (r : Iss K (hid R μ H) xs ds) (n : H p = none) : Q (.ref p) (upd H p (.lst xs)) :=
  k _ μ _ _ h (o.new n) (o.sameNew n) (isLst o n r)
theorem Nxt.tup {xs : List V} {ds : List DV} {t : Obj} (k : Nxt K R μ H P Q) (nt : NewT t) (o : Ok K R μ H) (h : P (.tup ds) μ) (r : Iss K (hid R μ H) xs ds) (n : H p = none) : Q (.ref p) (upd H p (.frz t (.tup xs))) :=
  k _ μ _ _ h (o.new n) (o.sameNew n) (isTup nt o n r)
end

/-! ### names and constants -/
def wVar (i : Nat) : WE := fun ρ μ P => match ρ[i]? with | some (some d) => P d μ | _ => False
def wC (d : DV) : WE := fun _ μ P => P d μ
section
variable {X : Cx} {e a b : Expr} {pos : Pos} {w wa wb wc : WE}
theorem d_of_var {i : Nat} (h : PE X e (tVar i)) : PE X e (tD X.K (wVar i)) := PE.imp h fun σ H Q ⟨R, ρ, μ, P, a, w, k⟩ => by
  unfold wVar at w
  split at w
  · rename_i d e
    obtain ⟨v, h1, h2⟩ := a.sl.at_ i d e
    exact ⟨v, h1, k.val a.ok w h2⟩
  · exact w.elim
theorem d_of_c {v : V} {d : DV} (h : PE X e (tC v)) (i : ∀ H, Is X.K H v d) : PE X e (tD X.K (wC d)) := PE.imp h fun σ H Q ⟨R, ρ, μ, P, a, w, k⟩ => k.val a.ok w (i _)
theorem d_var (i : Nat) {x : Str} (hN : X.N[i]? = some x := by rfl) (hv : Vis X.env.scope x := by first | exact Or.inl rfl | exact Or.inr (Or.inl rfl) | exact Or.inr (Or.inr rfl)) (hd : (x == ("__debug__" : Str)) = false := by decide)
    (hcd : (x == ("__classdict__" : Str)) = false := by decide) : PE X (.Name x pos) (tD X.K (wVar i)) := d_of_var (pv i hN hv hd hcd)
theorem d_int {i : Int} {j} : PE X (.Constant (.int i) j pos) (tD X.K (wC (.int i))) := d_of_c pe_int fun _ => .int i
theorem d_bl {b : Bool} {j} : PE X (.Constant (.bool b) j pos) (tD X.K (wC (.bool b))) := d_of_c pe_bl fun _ => .bool b
theorem d_non {j} : PE X (.Constant .none j pos) (tD X.K (wC .none)) := d_of_c pe_non fun _ => .none
theorem d_str {x : Str} {j} : PE X (.Constant (.str x) j pos) (tD X.K (wC (.str x))) := d_of_c pe_str fun _ => .str x
/-- a constant of the module -/
theorem d_glob {x : Str} {v : V} {d : DV} (hg : Gl X x) (hm : ∃ u, X.mg x = some u ∧ RelV v u) (i : ∀ H, Is X.K H v d) (hd : (x == ("__debug__" : Str)) = false := by decide) : PE X (.Name x pos) (tD X.K (wC d)) := by
  obtain ⟨u, hu, r⟩ := hm
  exact d_of_c (pe_glob hg hu r hd) i

/-! ### two-place operations by values -/
abbrev W2 := DV → DV → Mh → (DV → Mh → Prop) → Prop
abbrev W1 := DV → Mh → (DV → Mh → Prop) → Prop
def R2D (K : PySem.W.Frag) (r : R2) (w : W2) : Prop := ∀ R μ H x y dx dy P Q, Ok K R μ H → Is K (hid R μ H) x dx → Is K (hid R μ H) y dy → w dx dy μ P → Nxt K R μ H P Q → r x y H Q
def R1D (K : PySem.W.Frag) (r : V → Hp → VK → Prop) (w : W1) : Prop := ∀ R μ H x dx P Q, Ok K R μ H → Is K (hid R μ H) x dx → w dx μ P → Nxt K R μ H P Q → r x H Q
def wBin (w2 : W2) (wa wb : WE) : WE := fun ρ μ P => wa ρ μ fun x μ1 => wb ρ μ1 fun y μ2 => w2 x y μ2 P
def wUn (w1 : W1) (wa : WE) : WE := fun ρ μ P => wa ρ μ fun x μ1 => w1 x μ1 P
theorem bin_imp {K : PySem.W.Frag} {r : R2} {w2 : W2} (hr : R2D K r w2) : ∀ σ H Q, tD K (wBin w2 wa wb) σ H Q → tOp r (tD K wa) (tD K wb) σ H Q := fun σ H Q ⟨R, ρ, μ, P, a, w, k⟩ =>
  ⟨R, ρ, μ, _, a, w, fun x μ1 v H1 p1 o1 s1 i1 => ⟨R, ρ, μ1, _, a.step o1 s1, p1, fun y μ2 u H2 p2 o2 s2 i2 => hr R μ2 H2 v u x y P Q o2 (i1.mono s2) i2 p2 (k.step (s1.trans s2))⟩⟩
theorem d_op {op : Operator} {r : R2} {w2 : W2} (ho : OpR X (binaryOp op) r) (hr : R2D X.K r w2) (ha : PE X a (tD X.K wa)) (hb : PE X b (tD X.K wb)) : PE X (.BinOp a op b pos) (tD X.K (wBin w2 wa wb)) :=
  PE.imp (pe_op ho ha hb) (bin_imp hr)
theorem d_un {op : UnaryOp} {r : V → Hp → VK → Prop} {w1 : W1} (ho : UnR X (unaryOp op) r) (hr : R1D X.K r w1) (ha : PE X a (tD X.K wa)) : PE X (.UnaryOp op a pos) (tD X.K (wUn w1 wa)) :=
  PE.imp (pe_un ho ha) fun σ H Q ⟨R, ρ, μ, P, a, w, k⟩ => ⟨R, ρ, μ, _, a, w, fun x μ1 v H1 p1 o1 s1 i1 => hr R μ1 H1 v x P Q o1 i1 p1 (k.step s1)⟩
theorem d_cmp {op : CmpOp} {r : R2} {w2 : W2} (ho : OpR X (compareOp op) r) (hr : R2D X.K r w2) (ha : PE X a (tD X.K wa)) (hb : PE X b (tD X.K wb)) (hm : behindInMarks op b = false) : PE X (.Compare a [op] [b] pos) (tD X.K (wBin w2 wa wb)) :=
  PE.imp (pe_cmpR ho ha hb hm) (bin_imp hr)
/-- a reading of a True or False as a test -/
def wTest (w : WE) : WT := fun ρ μ P => w ρ μ fun d μ1 => match d with | .bool b => P b μ1 | _ => False
theorem test_imp {K : PySem.W.Frag} {t : TE} {w : WE} (h : ∀ σ H Q, tD K w σ H Q → t σ H Q) : ∀ σ H Q, tDT K (wTest w) σ H Q → tTest t σ H Q := fun σ H Q ⟨R, ρ, μ, P, a, w, k⟩ =>
  h σ H _ ⟨R, ρ, μ, _, a, w, fun x μ1 v H1 p1 o1 s1 i1 => by
    cases i1 with
    | bool b => exact ⟨b, rfl, k b μ1 H1 p1 o1 s1⟩
    | _ => exact (show False from p1).elim⟩
theorem dt_cmp {op : CmpOp} {r : R2} {w2 : W2} (ho : OpR X (compareOp op) r) (hr : R2D X.K r w2) (ha : PE X a (tD X.K wa)) (hb : PE X b (tD X.K wb)) (hm : behindInMarks op b = false) : PT X (.Compare a [op] [b] pos) (tDT X.K (wTest (wBin w2 wa wb))) :=
  PT.imp (pt_cmpR ho ha hb hm) (test_imp (bin_imp hr))
def wChain (w2 w2' : W2) (wa wb wc : WE) : WE := fun ρ μ P => wa ρ μ fun x μ1 => wb ρ μ1 fun y μ2 => w2 x y μ2 fun z μ3 => match z with
  | .bool true => wc ρ μ3 fun u μ4 => w2' y u μ4 P
  | .bool false => P (.bool false) μ3
  | _ => False
theorem chain_imp {K : PySem.W.Frag} {r r' : R2} {w2 w2' : W2} (hr : R2D K r w2) (hr' : R2D K r' w2') : ∀ σ H Q, tD K (wChain w2 w2' wa wb wc) σ H Q → tChain r r' (tD K wa) (tD K wb) (tD K wc) σ H Q := fun σ H Q ⟨R, ρ, μ, P, a, w, k⟩ => by
  refine ⟨R, ρ, μ, _, a, w, fun x μ1 v H1 p1 o1 s1 i1 => ⟨R, ρ, μ1, _, a.step o1 s1, p1, fun y μ2 u H2 p2 o2 s2 i2 => hr R μ2 H2 v u x y _ _ o2 (i1.mono s2) i2 p2 fun z μ3 z' H3 p3 o3 s3 i3 => ?_⟩⟩
  cases i3 with
  | bool b =>
    refine ⟨b, rfl, ?_⟩
    cases b with
    | true =>
      refine iteT ⟨R, ρ, μ3, _, a.step o3 ((s1.trans s2).trans s3), p3, fun u4 μ4 v4 H4 p4 o4 s4 i4 => hr' R μ4 H4 u v4 y u4 P Q o4 (i2.mono (s3.trans s4)) i4 p4 (k.step (((s1.trans s2).trans s3).trans s4))⟩
    | false => exact iteF (k _ μ3 _ H3 p3 o3 ((s1.trans s2).trans s3) (.bool false))
  | _ => exact (show False from p3).elim
theorem d_chain {c : Expr} {op op' : CmpOp} {r r' : R2} {w2 w2' : W2} (ho : OpR X (compareOp op) r) (hr : R2D X.K r w2) (ho' : OpR X (compareOp op') r') (hr' : R2D X.K r' w2') (ha : PE X a (tD X.K wa)) (hb : PE X b (tD X.K wb)) (hc : PE X c (tD X.K wc))
    (hm : lastMarks [op, op'] [b, c] = false := by with_unfolding_all rfl) : PE X (.Compare a [op, op'] [b, c] pos) (tD X.K (wChain w2 w2' wa wb wc)) := PE.imp (pe_chain ho ho' ha hb hc hm) (chain_imp hr hr')
theorem dt_chain {c : Expr} {op op' : CmpOp} {r r' : R2} {w2 w2' : W2} (ho : OpR X (compareOp op) r) (hr : R2D X.K r w2) (ho' : OpR X (compareOp op') r') (hr' : R2D X.K r' w2') (ha : PE X a (tD X.K wa)) (hb : PE X b (tD X.K wb)) (hc : PE X c (tD X.K wc))
    (hm : lastMarks [op, op'] [b, c] = false := by with_unfolding_all rfl) : PT X (.Compare a [op, op'] [b, c] pos) (tDT X.K (wTest (wChain w2 w2' wa wb wc))) := PT.imp (pt_chain ho ho' ha hb hc hm) (test_imp (chain_imp hr hr'))

/-! ### not, and, or, if .. else -/
theorem dt_val (h : PE X e (tD X.K w)) (he : ∀ whole, isTrue e X.env whole = (do let v ← whole; standAt e.pos; holding [v] (truthy v)) := by intro _; rfl) : PT X e (tDT X.K (wTest w)) :=
  PT.imp (pt_val h he) fun σ H Q ⟨R, ρ, μ, P, a, w, k⟩ => ⟨R, ρ, μ, _, a, w, fun x μ1 v H1 p1 o1 s1 i1 => by
    cases i1 with
    | bool b => exact ⟨b, rfl, k b μ1 H1 p1 o1 s1⟩
    | _ => exact (show False from p1).elim⟩
/-- truth of any value -/
def truD : DV → Mh → (Bool → Prop) → Prop
  | .none, _, P => P false
  | .bool b, _, P => P b
  | .int i, _, P => P (i != 0)
  | .str x, _, P => x.length ≤ sizeLine ∧ P ((x.length : Int) != 0)
  | .lst ds, _, P => P (!ds.isEmpty)
  | .tup ds, _, P => P (!ds.isEmpty)
  | .dct ds, _, P => P (!ds.isEmpty)
  | .obj a, μ, P => match μ a with
    | some (.lst ds) => P (!ds.isEmpty)
    | some (.dct ds) => P (!ds.isEmpty)
    | _ => False
  | .fix ds, _, P => P (!ds.isEmpty)
theorem Iss.isEmpty {K : PySem.W.Frag} {H : Hp} {vs : List V} {ds : List DV} (r : Iss K H vs ds) : vs.isEmpty = ds.isEmpty := by cases r <;> rfl
def wTru (w : WE) : WT := fun ρ μ P => w ρ μ fun d μ1 => truD d μ1 fun b => P b μ1
theorem map_isEmpty {α β γ : Type} {l : List (α × β)} {m : List (α × γ)} (h : l.map (·.1) = m.map (·.1)) : l.isEmpty = m.isEmpty := by
  cases l <;> cases m <;> first | rfl | cases h
theorem dt_tru (h : PE X e (tD X.K w)) (he : ∀ whole, isTrue e X.env whole = (do let v ← whole; standAt e.pos; holding [v] (truthy v)) := by intro _; rfl) : PT X e (tDT X.K (wTru w)) :=
  PT.imp (pt_truth h he) fun σ H Q ⟨R, ρ, μ, P, a, w, k⟩ => ⟨R, ρ, μ, _, a, w, fun x μ1 v H1 p1 o1 s1 i1 => by
    cases i1 with
    | none => exact ⟨false, rfl, k _ μ1 H1 p1 o1 s1⟩
    | bool b => exact ⟨b, rfl, k _ μ1 H1 p1 o1 s1⟩
    | int i => exact ⟨_, rfl, k _ μ1 H1 p1 o1 s1⟩
    | str x => exact ⟨_, ⟨p1.1, rfl⟩, k _ μ1 H1 p1.2 o1 s1⟩
    | lst hl r => exact ⟨_, .inl ⟨_, SqL.of (hid_le _ _ hl), rfl⟩, k _ μ1 H1 (by rw [r.isEmpty]; exact p1) o1 s1⟩
    | fix hl r => exact ⟨_, .inl ⟨_, hid_le.seq hl, rfl⟩, k _ μ1 H1 (by rw [r.isEmpty]; exact p1) o1 s1⟩
    | tup hl r => exact ⟨_, .inr (.inl ⟨_, Same.seqT hid_le hl.t, rfl⟩), k _ μ1 H1 (by rw [r.isEmpty]; exact p1) o1 s1⟩
    | dct hl q r => exact ⟨_, .inr (.inr ⟨_, hid_le _ _ hl, rfl⟩), k _ μ1 H1 (by rw [map_isEmpty q]; exact p1) o1 s1⟩
    | obj a =>
      have p2 : (match μ1 a with | some (.lst ds) => P (!ds.isEmpty) μ1 | some (.dct ds) => P (!ds.isEmpty) μ1 | _ => False) := p1
      split at p2
      · rename_i ds e
        obtain ⟨xs, h1, r⟩ := o1.ob a _ e
        exact ⟨_, .inl ⟨_, SqL.of h1, rfl⟩, k _ μ1 H1 (by rw [r.isEmpty]; exact p2) o1 s1⟩
      · rename_i ds e
        obtain ⟨xs, h1, q, r⟩ := o1.ob a _ e
        exact ⟨_, .inr (.inr ⟨_, h1, rfl⟩), k _ μ1 H1 (by rw [map_isEmpty q]; exact p2) o1 s1⟩
      · exact p2.elim⟩
def wNotT (w : WT) : WT := fun ρ μ P => w ρ μ fun b μ1 => P (!b) μ1
def wAndT (wa wb : WT) : WT := fun ρ μ P => wa ρ μ fun b μ1 => match b with | true => wb ρ μ1 P | false => P false μ1
def wOrT (wa wb : WT) : WT := fun ρ μ P => wa ρ μ fun b μ1 => match b with | true => P true μ1 | false => wb ρ μ1 P
variable {ta tb : WT}
theorem dt_not (h : PT X a (tDT X.K ta)) : PT X (.UnaryOp .Not a pos) (tDT X.K (wNotT ta)) :=
  PT.imp (pt_not h) fun σ H Q ⟨R, ρ, μ, P, a, w, k⟩ => ⟨R, ρ, μ, _, a, w, fun b μ1 H1 p1 o1 s1 => k _ μ1 H1 p1 o1 s1⟩
theorem dw_and1 (h : PT X a (tDT X.K ta)) : PW X (.BoolOp .And [a] pos) (tDT X.K ta) := pw_and1 h
theorem dw_or1 (h : PT X a (tDT X.K ta)) : PW X (.BoolOp .Or [a] pos) (tDT X.K ta) := pw_or1 h
theorem dw_and {rest : List Expr} (h : PT X a (tDT X.K ta)) (h2 : PW X (.BoolOp .And (b :: rest) pos) (tDT X.K tb)) : PW X (.BoolOp .And (a :: b :: rest) pos) (tDT X.K (wAndT ta tb)) :=
  PW.imp (pw_and h h2) fun σ H Q ⟨R, ρ, μ, P, a, w, k⟩ => ⟨R, ρ, μ, _, a, w, fun c μ1 H1 p1 o1 s1 => by
    cases c with
    | true => exact iteT ⟨R, ρ, μ1, P, a.step o1 s1, p1, k.step s1⟩
    | false => exact iteF (k _ μ1 H1 p1 o1 s1)⟩
theorem dw_or {rest : List Expr} (h : PT X a (tDT X.K ta)) (h2 : PW X (.BoolOp .Or (b :: rest) pos) (tDT X.K tb)) : PW X (.BoolOp .Or (a :: b :: rest) pos) (tDT X.K (wOrT ta tb)) :=
  PW.imp (pw_or h h2) fun σ H Q ⟨R, ρ, μ, P, a, w, k⟩ => ⟨R, ρ, μ, _, a, w, fun c μ1 H1 p1 o1 s1 => by
    cases c with
    | true => exact iteT (k _ μ1 H1 p1 o1 s1)
    | false => exact iteF ⟨R, ρ, μ1, P, a.step o1 s1, p1, k.step s1⟩⟩
def wAndV (wa wb : WE) : WE := fun ρ μ P => wa ρ μ fun d μ1 => match d with | .bool true => wb ρ μ1 P | .bool false => P (.bool false) μ1 | _ => False
def wOrV (wa wb : WE) : WE := fun ρ μ P => wa ρ μ fun d μ1 => match d with | .bool true => P (.bool true) μ1 | .bool false => wb ρ μ1 P | _ => False
def wNotV (wa : WE) : WE := fun ρ μ P => wa ρ μ fun d μ1 => match d with | .bool b => P (.bool (!b)) μ1 | _ => False
def wIf (t : WT) (wa wb : WE) : WE := fun ρ μ P => t ρ μ fun b μ1 => match b with | true => wa ρ μ1 P | false => wb ρ μ1 P
theorem d_one {op} (h : PE X a (tD X.K wa)) : PE X (.BoolOp op [a] pos) (tD X.K wa) := pe_one h
theorem d_and {rest : List Expr} (h : PE X a (tD X.K wa)) (h2 : PE X (.BoolOp .And (b :: rest) pos) (tD X.K wb)) : PE X (.BoolOp .And (a :: b :: rest) pos) (tD X.K (wAndV wa wb)) :=
  PE.imp (pe_and h h2) fun σ H Q ⟨R, ρ, μ, P, a, w, k⟩ => ⟨R, ρ, μ, _, a, w, fun x μ1 v H1 p1 o1 s1 i1 => by
    cases i1 with
    | bool c =>
      refine ⟨c, rfl, ?_⟩
      cases c with
      | true => exact iteT ⟨R, ρ, μ1, P, a.step o1 s1, p1, k.step s1⟩
      | false => exact iteF (k _ μ1 _ H1 p1 o1 s1 (.bool false))
    | _ => exact (show False from p1).elim⟩
theorem d_or {rest : List Expr} (h : PE X a (tD X.K wa)) (h2 : PE X (.BoolOp .Or (b :: rest) pos) (tD X.K wb)) : PE X (.BoolOp .Or (a :: b :: rest) pos) (tD X.K (wOrV wa wb)) :=
  PE.imp (pe_or h h2) fun σ H Q ⟨R, ρ, μ, P, a, w, k⟩ => ⟨R, ρ, μ, _, a, w, fun x μ1 v H1 p1 o1 s1 i1 => by
    cases i1 with
    | bool c =>
      refine ⟨c, rfl, ?_⟩
      cases c with
      | true => exact iteT (k _ μ1 _ H1 p1 o1 s1 (.bool true))
      | false => exact iteF ⟨R, ρ, μ1, P, a.step o1 s1, p1, k.step s1⟩
    | _ => exact (show False from p1).elim⟩
theorem d_not (h : PE X a (tD X.K wa)) : PE X (.UnaryOp .Not a pos) (tD X.K (wNotV wa)) :=
  PE.imp (pe_not h) fun σ H Q ⟨R, ρ, μ, P, a, w, k⟩ => ⟨R, ρ, μ, _, a, w, fun x μ1 v H1 p1 o1 s1 i1 => by
    cases i1 with
    | bool c => exact ⟨c, rfl, k _ μ1 _ H1 p1 o1 s1 (.bool _)⟩
    | _ => exact (show False from p1).elim⟩
theorem d_if {c : Expr} (hc : PT X c (tDT X.K ta)) (ha : PE X a (tD X.K wa)) (hb : PE X b (tD X.K wb)) : PE X (.IfExp c a b pos) (tD X.K (wIf ta wa wb)) :=
  PE.imp (pe_ifExp hc ha hb) fun σ H Q ⟨R, ρ, μ, P, a, w, k⟩ => ⟨R, ρ, μ, _, a, w, fun c μ1 H1 p1 o1 s1 => by
    cases c with
    | true => exact iteT ⟨R, ρ, μ1, P, a.step o1 s1, p1, k.step s1⟩
    | false => exact iteF ⟨R, ρ, μ1, P, a.step o1 s1, p1, k.step s1⟩⟩

/-! ### argument lists, displays -/
def wNil : WA := fun _ μ P => P [] μ
def wCons (wa : WE) (wr : WA) : WA := fun ρ μ P => wa ρ μ fun x μ1 => wr ρ μ1 fun xs μ2 => P (x :: xs) μ2
variable {es : List Expr} {wr : WA}
theorem cons_imp {K : PySem.W.Frag} : ∀ σ H Q, tDA K (wCons wa wr) σ H Q → tCons (tD K wa) (tDA K wr) σ H Q := fun σ H Q ⟨R, ρ, μ, P, a, w, k⟩ =>
  ⟨R, ρ, μ, _, a, w, fun x μ1 v H1 p1 o1 s1 i1 => ⟨R, ρ, μ1, _, a.step o1 s1, p1, fun xs μ2 vs H2 p2 o2 s2 i2 => k _ μ2 _ H2 p2 o2 (s1.trans s2) (.cons (i1.mono s2) i2)⟩⟩
theorem nil_imp {K : PySem.W.Frag} : ∀ σ H Q, tDA K wNil σ H Q → tNil σ H Q := fun σ H Q ⟨R, ρ, μ, P, a, w, k⟩ => k [] μ [] H w a.ok (Same.refl _) .nil
theorem da_nil : PA X [] (tDA X.K wNil) := PA.imp pa_nil nil_imp
theorem da_cons (ha : PE X e (tD X.K wa)) (hr : PA X es (tDA X.K wr)) (hs : starEach (e :: es) X.env = (false, eval e X.env) :: starEach es X.env := by rfl) : PA X (e :: es) (tDA X.K (wCons wa wr)) :=
  PA.imp (pa_cons ha hr hs) cons_imp
theorem dk_nil : PK X [] (tDA X.K wNil) := PK.imp pk_nil nil_imp
theorem dk_cons {kws : List Keyword} {nm : Option Str} {kpos : Pos} (ha : PE X e (tD X.K wa)) (hr : PK X kws (tDA X.K wr)) : PK X (⟨nm, e, kpos⟩ :: kws) (tDA X.K (wCons wa wr)) := PK.imp (pk_cons ha hr) cons_imp
def wTup (wa : WA) : WE := fun ρ μ P => wa ρ μ fun ds μ1 => ds.length ≤ sizeLine ∧ P (.tup ds) μ1
def wLst (wa : WA) : WE := fun ρ μ P => wa ρ μ fun ds μ1 => ds.length ≤ sizeLine ∧ P (.lst ds) μ1
theorem d_tup {x1} (h : PA X es (tDA X.K wr)) : PE X (.Tuple es x1 pos) (tD X.K (wTup wr)) :=
  PE.imp (pe_tupN h) fun σ H Q ⟨R, ρ, μ, P, a, w, k⟩ => ⟨R, ρ, μ, _, a, w, fun ds μ1 vs H1 p1 o1 s1 i1 => ⟨by rw [i1.length]; exact p1.1, fun p t n nt => (k.step s1).tup nt o1 p1.2 i1 n⟩⟩
theorem d_lst (h : PA X es (tDA X.K wr)) : PE X (.List es pos) (tD X.K (wLst wr)) :=
  PE.imp (pe_lst h) fun σ H Q ⟨R, ρ, μ, P, a, w, k⟩ => ⟨R, ρ, μ, _, a, w, fun ds μ1 vs H1 p1 o1 s1 i1 => ⟨by rw [i1.length]; exact p1.1, fun p n => (k.step s1).lst o1 p1.2 i1 n⟩⟩
/-- a list that will change -/
def wLstM (wa : WA) : WE := fun ρ μ P => wa ρ μ fun ds μ1 => ds.length ≤ sizeLine ∧ ∀ p, μ1 p = none → P (.obj p) (updM μ1 p (.lst ds))
theorem d_lstM (h : PA X es (tDA X.K wr)) : PE X (.List es pos) (tD X.K (wLstM wr)) :=
  PE.imp (pe_lst h) fun σ H Q ⟨R, ρ, μ, P, a, w, k⟩ => ⟨R, ρ, μ, _, a, w, fun ds μ1 vs H1 p1 o1 s1 i1 => ⟨by rw [i1.length]; exact p1.1, fun p n => by
    have fm := o1.freeM n
    have hs : Same (hid R μ1 H1) (hid R (updM μ1 p (.lst ds)) (upd H1 p (.lst vs))) := fun b u e => by
      obtain ⟨e1, e2, e3⟩ := hid_some e
      have ne := ne_of_none e3 n
      rw [hid_at e1 (by rw [updM_ne ne]; exact e2), upd_ne ne]
      exact e3
    obtain ⟨o2, s2⟩ := o1.newM (o := .lst vs) (m := .lst ds) n ⟨vs, upd_same, i1.mono hs⟩ (by intro z; cases z)
    exact (k.step s1) _ _ _ _ (p1.2 p fm) o2 s2 (.obj p)⟩⟩
end
end Dz

set_option Elab.async false
set_option linter.all false
set_option maxRecDepth 100000
set_option maxHeartbeats 4000000
/-! Dz3: operators and comparisons of data, plain data as PyData, subscripts and slices. -/
namespace Dz
open PySem L2

/-! ### arithmetic -/
def wAdd : W2
  | .int i, .int j, μ, P => P (.int (i + j)) μ
  | .str s, .str t, μ, P => s.length + t.length ≤ sizeLine ∧ P (.str (s ++ t)) μ
  | .lst xs, .lst ys, μ, P => xs.length + ys.length ≤ sizeLine ∧ P (.lst (xs ++ ys)) μ
  | .tup xs, .tup ys, μ, P => xs.length + ys.length ≤ sizeLine ∧ P (.tup (xs ++ ys)) μ
  | _, _, _, _ => False
def wSub : W2
  | .int i, .int j, μ, P => P (.int (i - j)) μ
  | _, _, _, _ => False
def strRep (x : Str) (n : Nat) : Str := ⟨(List.replicate n x.cps).foldl (· ++ ·) #[]⟩
def wMul : W2
  | .int i, .int j, μ, P => CMul i j ∧ P (.int (i * j)) μ
  | .lst xs, .int k, μ, P => 0 ≤ k ∧ k < 2 ^ 63 ∧ xs.length * k.toNat ≤ sizeLine ∧ P (.lst (List.replicate k.toNat xs).flatten) μ
  | .str x, .int k, μ, P => 2 ≤ k ∧ 0 < x.length ∧ x.length * k.toNat ≤ sizeLine ∧ P (.str (strRep x k.toNat)) μ
  | _, _, _, _ => False
def wDiv : W2
  | .int i, .int j, μ, P => CDivW i j ∧ P (.int (i / j)) μ
  | _, _, _, _ => False
def wMod : W2
  | .int i, .int j, μ, P => 0 < j ∧ P (.int (i % j)) μ
  | _, _, _, _ => False
def wPow : W2
  | .int i, .int j, μ, P => CPow i j ∧ P (.int (i ^ j.toNat)) μ
  | _, _, _, _ => False
def wNeg : W1
  | .int i, μ, P => P (.int (-i)) μ
  | _, _, _ => False
section
variable {K : PySem.W.Frag} {X : Cx}
def rAddD (K : PySem.W.Frag) : R2 := fun x y H Q => rI0 (fun i j => .int (i + j)) x y H Q ∨ (∃ i j, x = .str i ∧ y = .str j ∧ i.length + j.length ≤ sizeLine ∧ Q (.str (i ++ j)) H) ∨ rCat x y H Q ∨ rCatN K x y H Q
theorem op_addD : OpR X (binaryOp .Add) (rAddD X.K) := op_add.or (op_add_str.or (op_cat.or op_catN))
theorem add_rd : R2D K (rAddD K) wAdd := by
  intro R μ H x y dx dy P Q ok ix iy w k
  cases ix with
  | int i => cases iy with
    | int j => exact .inl ⟨i, j, rfl, rfl, k.val ok w (.int _)⟩
    | _ => exact (show False from w).elim
  | str s => cases iy with
    | str t => exact .inr (.inl ⟨s, t, rfl, rfl, w.1, k.val ok w.2 (.str _)⟩)
    | _ => exact (show False from w).elim
  | lst hx rx => cases iy with
    | lst hy ry => exact .inr (.inr (.inl ⟨_, _, _, _, rfl, rfl, hid_le _ _ hx, hid_le _ _ hy, by rw [rx.length, ry.length]; exact w.1, fun p n => k.lst ok w.2 (rx.append ry) n⟩))
    | _ => exact (show False from w).elim
  | @tup a xs ds hx rx => cases iy with
    | @tup b ys es hy ry =>
      refine .inr (.inr (.inr ⟨_, _, _, _, rfl, rfl, Same.seqT hid_le hx.t, Same.seqT hid_le hy.t, by rw [rx.length, ry.length]; exact w.1, fun z => ?_, fun _ z => ?_, fun _ _ p t n nt => k.tup nt ok w.2 (rx.append ry) n⟩))
      · subst z
        cases rx
        exact k.val ok w.2 (.tup hy ry)
      · subst z
        cases ry
        exact k.val ok (by have := w.2; rwa [List.append_nil] at this) (.tup hx rx)
    | _ => exact (show False from w).elim
  | _ => exact (show False from w).elim
theorem sub_rd : R2D K (rI0 fun i j => .int (i - j)) wSub := by
  intro R μ H x y dx dy P Q ok ix iy w k
  cases ix with
  | int i => cases iy with
    | int j => exact ⟨i, j, rfl, rfl, k.val ok w (.int _)⟩
    | _ => exact (show False from w).elim
  | _ => exact (show False from w).elim
theorem div_rd : R2D K (rI CDivW fun i j => .int (i / j)) wDiv := by
  intro R μ H x y dx dy P Q ok ix iy w k
  cases ix with
  | int i => cases iy with
    | int j => exact ⟨i, j, rfl, rfl, w.1, k.val ok w.2 (.int _)⟩
    | _ => exact (show False from w).elim
  | _ => exact (show False from w).elim
theorem mod_rd : R2D K (rI (fun _ j => 0 < j) fun i j => .int (i % j)) wMod := by
  intro R μ H x y dx dy P Q ok ix iy w k
  cases ix with
  | int i => cases iy with
    | int j => exact ⟨i, j, rfl, rfl, w.1, k.val ok w.2 (.int _)⟩
    | _ => exact (show False from w).elim
  | _ => exact (show False from w).elim
theorem pow_rd : R2D K (rI CPow fun i j => .int (i ^ j.toNat)) wPow := by
  intro R μ H x y dx dy P Q ok ix iy w k
  cases ix with
  | int i => cases iy with
    | int j => exact ⟨i, j, rfl, rfl, w.1, k.val ok w.2 (.int _)⟩
    | _ => exact (show False from w).elim
  | _ => exact (show False from w).elim
theorem neg_rd : R1D K (rU fun i => .int (-i)) wNeg := by
  intro R μ H x dx P Q ok ix w k
  cases ix with
  | int i => exact ⟨i, rfl, k.val ok w (.int _)⟩
  | _ => exact (show False from w).elim
def rRepS : R2 := fun x y H Q => ∃ (z : Str) (k : Int), x = .str z ∧ y = .int k ∧ 2 ≤ k ∧ 0 < z.length ∧ z.length * k.toNat ≤ sizeLine ∧ Q (.str (strRep z k.toNat)) H
theorem op_repS : OpR X (binaryOp .Mult) rRepS := by
  intro pins s σ H x y v u Q I rx ry h
  obtain ⟨z, k, rfl, rfl, h2, h0, hz, q⟩ := h
  obtain ⟨t, rfl⟩ := rx
  obtain ⟨t', rfl⟩ := ry
  have hs : sizeLine = 16777216 := sizeLine_eq
  have hk : k.toNat ≤ z.length * k.toNat := Nat.le_mul_of_pos_left _ h0
  have hzl : z.length ≤ z.length * k.toNat := Nat.le_mul_of_pos_right _ (by omega)
  refine PySem.P.mul_str (by rw [decide_eq_false (by omega), decide_eq_false (by omega)]; rfl) (fun _ _ => ?_) (fun _ _ => ?_) ?_
  · have h3 : (1 : Int) ≤ k := by omega
    have h4 : (z.length : Int) * k ≤ 16777216 := by
      have : ((z.length * k.toNat : Nat) : Int) ≤ ((16777216 : Nat) : Int) := Int.ofNat_le.mpr (by rw [← hs]; exact hz)
      rw [Int.natCast_mul] at this
      rw [Int.toNat_of_nonneg (by omega)] at this
      exact this
    have h5 : (z.length : Int) ≤ (2 ^ 63 - 1) / k := by
      rw [Int.le_ediv_iff_mul_le (by omega)]
      omega
    omega
  · unfold Builtin.Str.tooLong
    simp only [decide_eq_false_iff_not]
    omega
  · rw [if_neg (by omega)]
    have e : (k == 1 || z.length == 0) = false := by
      rw [Bool.or_eq_false_iff]
      exact ⟨beq_eq_false_iff_ne.mpr (by omega), beq_eq_false_iff_ne.mpr (by omega)⟩
    rw [e]
    refine ⟨?_, ⟨.str (strRep z k.toNat), H, I.tok _, ⟨_, rfl⟩, q⟩⟩
    have el : (⟨(List.replicate k.toNat z.cps).foldl (· ++ ·) #[]⟩ : Str).length = z.length * k.toNat := by
      unfold Str.length
      have : ∀ (n : Nat) (acc : Array Nat), ((List.replicate n z.cps).foldl (· ++ ·) acc).size = acc.size + z.cps.size * n := by
        intro n
        induction n with
        | zero => intro acc; simp
        | succ n ih => intro acc; rw [List.replicate_succ, List.foldl_cons, ih, Array.size_append, Nat.mul_succ]; omega
      rw [this]
      simp
    rw [el]
    exact hz
def rMulD : R2 := fun x y H Q => rI CMul (fun i j => .int (i * j)) x y H Q ∨ rRep x y H Q ∨ rRepS x y H Q
theorem op_mulD : OpR X (binaryOp .Mult) rMulD := op_mul.or (op_rep.or op_repS)
theorem mul_rd : R2D K rMulD wMul := by
  intro R μ H x y dx dy P Q ok ix iy w k
  cases ix with
  | int i => cases iy with
    | int j => exact .inl ⟨i, j, rfl, rfl, w.1, k.val ok w.2 (.int _)⟩
    | _ => exact (show False from w).elim
  | str s => cases iy with
    | int j => exact .inr (.inr ⟨s, j, rfl, rfl, w.1, w.2.1, w.2.2.1, k.val ok w.2.2.2 (.str _)⟩)
    | _ => exact (show False from w).elim
  | lst hx rx => cases iy with
    | int j => exact .inr (.inl ⟨_, j, _, rfl, rfl, hid_le _ _ hx, by have := w.1; omega, w.2.1, by rw [rx.length]; exact w.2.2.1, fun p n => k.lst ok w.2.2.2 (rx.replicate _) n⟩)
    | _ => exact (show False from w).elim
  | _ => exact (show False from w).elim
variable {a b : Expr} {wa wb : WE} {pos : Pos}
theorem d_add (ha : PE X a (tD X.K wa)) (hb : PE X b (tD X.K wb)) : PE X (.BinOp a .Add b pos) (tD X.K (wBin wAdd wa wb)) := d_op op_addD add_rd ha hb
theorem d_sub (ha : PE X a (tD X.K wa)) (hb : PE X b (tD X.K wb)) : PE X (.BinOp a .Sub b pos) (tD X.K (wBin wSub wa wb)) := d_op op_sub sub_rd ha hb
theorem d_mul (ha : PE X a (tD X.K wa)) (hb : PE X b (tD X.K wb)) : PE X (.BinOp a .Mult b pos) (tD X.K (wBin wMul wa wb)) := d_op op_mulD mul_rd ha hb
theorem d_div (ha : PE X a (tD X.K wa)) (hb : PE X b (tD X.K wb)) : PE X (.BinOp a .FloorDiv b pos) (tD X.K (wBin wDiv wa wb)) := d_op op_fdivW div_rd ha hb
theorem d_mod (ha : PE X a (tD X.K wa)) (hb : PE X b (tD X.K wb)) : PE X (.BinOp a .Mod b pos) (tD X.K (wBin wMod wa wb)) := d_op op_mod mod_rd ha hb
theorem d_pow (ha : PE X a (tD X.K wa)) (hb : PE X b (tD X.K wb)) : PE X (.BinOp a .Pow b pos) (tD X.K (wBin wPow wa wb)) := d_op op_pow pow_rd ha hb
theorem d_neg (ha : PE X a (tD X.K wa)) : PE X (.UnaryOp .USub a pos) (tD X.K (wUn wNeg wa)) := d_un un_neg neg_rd ha
end

/-! ### order -/
def ltS (s t : Str) : Bool := decide (s.cps.toList < t.cps.toList)
def wLt : W2
  | .int i, .int j, μ, P => P (.bool (decide (i < j))) μ
  | .str s, .str t, μ, P => P (.bool (ltS s t)) μ
  | _, _, _, _ => False
def wLe : W2
  | .int i, .int j, μ, P => P (.bool (decide (i ≤ j))) μ
  | .str s, .str t, μ, P => P (.bool (!ltS t s)) μ
  | _, _, _, _ => False
def wGt : W2
  | .int i, .int j, μ, P => P (.bool (decide (j < i))) μ
  | .str s, .str t, μ, P => P (.bool (ltS t s)) μ
  | _, _, _, _ => False
def wGe : W2
  | .int i, .int j, μ, P => P (.bool (decide (j ≤ i))) μ
  | .str s, .str t, μ, P => P (.bool (!ltS s t)) μ
  | _, _, _, _ => False
section
variable {K : PySem.W.Frag} {X : Cx}
def rOrd (f : Int → Int → Bool) (g : Str → Str → Bool) : R2 := fun x y H Q => rI0 (fun i j => .bl (f i j)) x y H Q ∨ ∃ i j, x = .str i ∧ y = .str j ∧ Q (.bl (g i j)) H
theorem op_ltD : OpR X (compareOp .Lt) (rOrd (fun i j => decide (i < j)) fun s t => decide (s.cps.toList < t.cps.toList)) := op_lt.or op_lt_str
theorem op_leD : OpR X (compareOp .LtE) (rOrd (fun i j => decide (i ≤ j)) fun s t => !decide (t.cps.toList < s.cps.toList)) := op_le.or op_le_str
theorem op_gtD : OpR X (compareOp .Gt) (rOrd (fun i j => decide (j < i)) fun s t => decide (t.cps.toList < s.cps.toList)) := op_gt.or op_gt_str
theorem op_geD : OpR X (compareOp .GtE) (rOrd (fun i j => decide (j ≤ i)) fun s t => !decide (s.cps.toList < t.cps.toList)) := op_ge.or op_ge_str
theorem ord_rd {f : Int → Int → Bool} {g : Str → Str → Bool} {w2 : W2} (h1 : ∀ i j μ P, w2 (.int i) (.int j) μ P → P (.bool (f i j)) μ) (h2 : ∀ i j μ P, w2 (.str i) (.str j) μ P → P (.bool (g i j)) μ)
    (h3 : ∀ x y μ P, (∀ i j, ¬ (x = .int i ∧ y = .int j)) → (∀ i j, ¬ (x = .str i ∧ y = .str j)) → w2 x y μ P → False) : R2D K (rOrd f g) w2 := by
  intro R μ H x y dx dy P Q ok ix iy w k
  cases ix with
  | int i => cases iy with
    | int j => exact .inl ⟨i, j, rfl, rfl, k.val ok (h1 _ _ _ _ w) (.bool _)⟩
    | _ => exact (h3 _ _ _ _ (fun i j h => by cases h.2) (fun i j h => by cases h.1) w).elim
  | str s => cases iy with
    | str t => exact .inr ⟨s, t, rfl, rfl, k.val ok (h2 _ _ _ _ w) (.bool _)⟩
    | _ => exact (h3 _ _ _ _ (fun i j h => by cases h.1) (fun i j h => by cases h.2) w).elim
  | _ => exact (h3 _ _ _ _ (fun i j h => by cases h.1) (fun i j h => by cases h.1) w).elim
theorem lt_rd : R2D K (rOrd (fun i j => decide (i < j)) fun s t => decide (s.cps.toList < t.cps.toList)) wLt := ord_rd (fun _ _ _ _ h => h) (fun _ _ _ _ h => h) fun x y μ P h1 h2 w => by
  unfold wLt at w; split at w
  · exact h1 _ _ ⟨rfl, rfl⟩
  · exact h2 _ _ ⟨rfl, rfl⟩
  · exact w
theorem le_rd : R2D K (rOrd (fun i j => decide (i ≤ j)) fun s t => !decide (t.cps.toList < s.cps.toList)) wLe := ord_rd (fun _ _ _ _ h => h) (fun _ _ _ _ h => h) fun x y μ P h1 h2 w => by
  unfold wLe at w; split at w
  · exact h1 _ _ ⟨rfl, rfl⟩
  · exact h2 _ _ ⟨rfl, rfl⟩
  · exact w
theorem gt_rd : R2D K (rOrd (fun i j => decide (j < i)) fun s t => decide (t.cps.toList < s.cps.toList)) wGt := ord_rd (fun _ _ _ _ h => h) (fun _ _ _ _ h => h) fun x y μ P h1 h2 w => by
  unfold wGt at w; split at w
  · exact h1 _ _ ⟨rfl, rfl⟩
  · exact h2 _ _ ⟨rfl, rfl⟩
  · exact w
theorem ge_rd : R2D K (rOrd (fun i j => decide (j ≤ i)) fun s t => !decide (s.cps.toList < t.cps.toList)) wGe := ord_rd (fun _ _ _ _ h => h) (fun _ _ _ _ h => h) fun x y μ P h1 h2 w => by
  unfold wGe at w; split at w
  · exact h1 _ _ ⟨rfl, rfl⟩
  · exact h2 _ _ ⟨rfl, rfl⟩
  · exact w
end

/-! ### plain data -/
def keyPy : Key → PyData
  | .inl i => .int i
  | .inr x => .str x
mutual
def toPy : DV → PyData
  | .none => .none
  | .bool b => .bool b
  | .int i => .int i
  | .str x => .str x
  | .tup ds => .tuple (toPys ds)
  | .lst ds => .list (toPys ds)
  | .dct kvs => .dict (toPyKv kvs)
  | .obj _ => .none
  | .fix _ => .none
def toPys : List DV → List PyData
  | [] => []
  | d :: ds => toPy d :: toPys ds
def toPyKv : List (Key × DV) → List (PyData × PyData)
  | [] => []
  | (k, d) :: r => (keyPy k, toPy d) :: toPyKv r
end
mutual
/-- without objects -/
def noObj : DV → Bool
  | .tup ds => noObjs ds
  | .lst ds => noObjs ds
  | .dct kvs => noObjKv kvs
  | .obj _ => false
  | .fix _ => false
  | _ => true
def noObjs : List DV → Bool
  | [] => true
  | d :: ds => noObj d && noObjs ds
def noObjKv : List (Key × DV) → Bool
  | [] => true
  | (_, d) :: r => noObj d && noObjKv r
end
theorem toPys_map : ∀ ds : List DV, toPys ds = ds.map toPy
  | [] => rfl
  | d :: ds => by rw [toPys, toPys_map ds]; rfl
mutual
theorem Is.dp {K : PySem.W.Frag} {H : Hp} : ∀ {v : V} {d : DV}, Is K H v d → noObj d = true → (toPy d).canLay0 = true → Dp K H v (toPy d)
  | _, _, .none, _, _ => .non
  | _, _, .bool b, _, _ => .bl b
  | _, _, .int i, _, _ => .int i
  | _, _, .str x, _, _ => .str x
  | _, _, .tup h r, n, c => .tup h.t (Iss.dp r n c)
  | _, _, .lst h r, n, c => .lst (SqL.of h) (Iss.dp r n c)
  | _, _, .dct _ _ _, _, c => absurd (show false = true from c) Bool.false_ne_true
  | _, _, .obj _, n, _ => absurd (show false = true from n) Bool.false_ne_true
  | _, _, .fix _ _, n, _ => absurd (show false = true from n) Bool.false_ne_true
theorem Iss.dp {K : PySem.W.Frag} {H : Hp} : ∀ {vs : List V} {ds : List DV}, Iss K H vs ds → noObjs ds = true → PyData.canLayAll0 (toPys ds) = true → DpAll K H vs (toPys ds)
  | _, _, .nil, _, _ => .nil
  | _, _, .cons h r, n, c => by
    have n' := (Bool.and_eq_true_iff.mp n)
    have c' := (Bool.and_eq_true_iff.mp c)
    exact .cons (Is.dp h n'.1 c'.1) (Iss.dp r n'.2 c'.2)
end
/-- data that == and in may compare at any depth -/
def shapedD (d : DV) : Bool := noObj d && SeqAt.shaped (toPy d)
theorem Is.dpS {K : PySem.W.Frag} {H : Hp} {v : V} {d : DV} (h : Is K H v d) (s : shapedD d = true) : Dp K H v (toPy d) ∧ SeqAt.shaped (toPy d) = true := by
  have s' := Bool.and_eq_true_iff.mp s
  exact ⟨h.dp s'.1 (SeqAt.canLay_of_shaped s'.2), s'.2⟩
def deepEq (x y : DV) : Bool := PyData.eqv (toPy x) (toPy y)
def wEq : W2
  | .none, .none, μ, P => P (.bool true) μ
  | .none, .int _, μ, P => P (.bool false) μ
  | .none, .str _, μ, P => P (.bool false) μ
  | .none, .bool _, μ, P => P (.bool false) μ
  | .int _, .none, μ, P => P (.bool false) μ
  | .str _, .none, μ, P => P (.bool false) μ
  | .bool _, .none, μ, P => P (.bool false) μ
  | .int i, .int j, μ, P => P (.bool (decide (i = j))) μ
  | .bool i, .bool j, μ, P => P (.bool (decide (i = j))) μ
  | .str i, .str j, μ, P => P (.bool (decide (i = j))) μ
  | .int _, .str _, μ, P => P (.bool false) μ
  | .str _, .int _, μ, P => P (.bool false) μ
  | .bool _, .str _, μ, P => P (.bool false) μ
  | .str _, .bool _, μ, P => P (.bool false) μ
  | .lst xs, .lst ys, μ, P => shapedD (.lst xs) = true ∧ shapedD (.lst ys) = true ∧ P (.bool (deepEq (.lst xs) (.lst ys))) μ
  | .tup xs, .tup ys, μ, P => shapedD (.tup xs) = true ∧ shapedD (.tup ys) = true ∧ P (.bool (deepEq (.tup xs) (.tup ys))) μ
  | _, _, _, _ => False
def notB (w2 : W2) : W2 := fun x y μ P => w2 x y μ fun d μ1 => match d with | .bool b => P (.bool (!b)) μ1 | _ => False
section
variable {K : PySem.W.Frag} {X : Cx}
def rEqA (K : PySem.W.Frag) : R2 := fun x y H Q => rEq x y H Q ∨ rEqD K x y H Q
def rNeA (K : PySem.W.Frag) : R2 := fun x y H Q => rNe x y H Q ∨ rNeD K x y H Q
theorem op_eqA (hu : X.A.units + 64 < cLine) : OpR X (compareOp .Eq) (rEqA X.K) := op_eq.or (op_eqD hu)
theorem op_neA (hu : X.A.units + 64 < cLine) : OpR X (compareOp .NotEq) (rNeA X.K) := op_ne.or (op_neD hu)
theorem Is.up {R : Hp} {μ : Mh} {H : Hp} {v : V} {d : DV} (h : Is K (hid R μ H) v d) : Is K H v d := h.mono hid_le
theorem eq_core {x y : V} {dx dy : DV} {μ : Mh} {H : Hp} {P : DV → Mh → Prop} (ix : Is K H x dx) (iy : Is K H y dy) (w : wEq dx dy μ P) :
    (∃ b, scal x y = true ∧ decide (x = y) = b ∧ P (.bool b) μ) ∨ (∃ d e, Dp K H x d ∧ Dp K H y e ∧ SeqAt.shaped d = true ∧ SeqAt.shaped e = true ∧ P (.bool (PyData.eqv d e)) μ) := by
  cases ix with
  | none => cases iy with
    | none => exact .inl ⟨_, rfl, rfl, w⟩
    | int j => exact .inl ⟨_, rfl, rfl, w⟩
    | bool j => exact .inl ⟨_, rfl, rfl, w⟩
    | str j => exact .inl ⟨_, rfl, rfl, w⟩
    | _ => exact (show False from w).elim
  | int i => cases iy with
    | none => exact .inl ⟨_, rfl, rfl, w⟩
    | int j => exact .inl ⟨_, rfl, dec_int, (by rw [Bool.beq_eq_decide_eq]; exact w)⟩
    | str j => exact .inl ⟨_, rfl, rfl, w⟩
    | _ => exact (show False from w).elim
  | bool i => cases iy with
    | none => exact .inl ⟨_, rfl, rfl, w⟩
    | bool j => exact .inl ⟨_, rfl, dec_bl, (by rw [Bool.beq_eq_decide_eq]; exact w)⟩
    | str j => exact .inl ⟨_, rfl, rfl, w⟩
    | _ => exact (show False from w).elim
  | str i => cases iy with
    | none => exact .inl ⟨_, rfl, rfl, w⟩
    | int j => exact .inl ⟨_, rfl, rfl, w⟩
    | bool j => exact .inl ⟨_, rfl, rfl, w⟩
    | str j => exact .inl ⟨_, rfl, dec_str, (by rw [Bool.beq_eq_decide_eq]; exact w)⟩
    | _ => exact (show False from w).elim
  | lst hx rx => cases iy with
    | lst hy ry =>
      obtain ⟨s1, s2, w⟩ := w
      obtain ⟨p1, q1⟩ := (Is.lst (K := K) hx rx).dpS s1
      obtain ⟨p2, q2⟩ := (Is.lst (K := K) hy ry).dpS s2
      exact .inr ⟨_, _, p1, p2, q1, q2, w⟩
    | _ => exact (show False from w).elim
  | tup hx rx => cases iy with
    | tup hy ry =>
      obtain ⟨s1, s2, w⟩ := w
      obtain ⟨p1, q1⟩ := (Is.tup (K := K) hx rx).dpS s1
      obtain ⟨p2, q2⟩ := (Is.tup (K := K) hy ry).dpS s2
      exact .inr ⟨_, _, p1, p2, q1, q2, w⟩
    | _ => exact (show False from w).elim
  | _ => exact (show False from w).elim
/-- an object as it stands -/
def lookO (a : Addr) : Option MO → DV
  | some (.lst ds) => .lst ds
  | some (.dct kvs) => .dct kvs
  | _ => .obj a
def look (μ : Mh) : DV → DV
  | .obj a => lookO a (μ a)
  | d => d
theorem Is.look {R : Hp} {μ : Mh} {H : Hp} {v : V} {d : DV} (o : Ok K R μ H) (i : Is K (hid R μ H) v d) : Is K H v (Dz.look μ d) := by
  cases i with
  | obj a =>
    show Is K H (.ref a) (lookO a (μ a))
    cases e : μ a with
    | none => exact .obj a
    | some m =>
      cases m with
      | lst ds =>
        obtain ⟨xs, h, r⟩ := o.ob a _ e
        exact .lst h (r.mono hid_le)
      | dct ds =>
        obtain ⟨xs, h, q, r⟩ := o.ob a _ e
        exact .dct h q (r.mono hid_le)
      | _ => exact .obj a
  | none => exact .none
  | bool b => exact .bool b
  | int i => exact .int i
  | str s => exact .str s
  | lst h r => exact (Is.lst h r).mono hid_le
  | tup h r => exact (Is.tup h r).mono hid_le
  | dct h q r => exact (Is.dct h q r).mono hid_le
  | fix h r => exact (Is.fix h r).mono hid_le
def wEqL : W2 := fun x y μ P => wEq (look μ x) (look μ y) μ P
def wNeL : W2 := notB wEqL
theorem eq_rd : R2D K (rEqA K) wEqL := by
  intro R μ H x y dx dy P Q ok ix iy w k
  rcases eq_core (ix.look ok) (iy.look ok) w with ⟨b, h1, h2, h3⟩ | ⟨d, e, p1, p2, q1, q2, h3⟩
  · exact .inl ⟨h1, by rw [h2]; exact k.val ok h3 (.bool b)⟩
  · exact .inr ⟨d, e, p1, p2, q1, q2, k.val ok h3 (.bool _)⟩
theorem ne_rd : R2D K (rNeA K) wNeL := by
  intro R μ H x y dx dy P Q ok ix iy w k
  rcases eq_core (ix.look ok) (iy.look ok) w with ⟨b, h1, h2, h3⟩ | ⟨d, e, p1, p2, q1, q2, h3⟩
  · exact .inl ⟨h1, by rw [h2]; exact k.val ok h3 (.bool _)⟩
  · exact .inr ⟨d, e, p1, p2, q1, q2, k.val ok h3 (.bool _)⟩
/-! is None -/
def isNone : DV → Bool
  | .none => true
  | _ => false
def wIsN : W2 := fun x y μ P => match y with | .none => P (.bool (isNone x)) μ | _ => False
def wNotN : W2 := fun x y μ P => match y with | .none => P (.bool (!isNone x)) μ | _ => False
theorem isNone_of {H : Hp} {v : V} {d : DV} (h : Is K H v d) : decide (v = .non) = isNone d := by cases h <;> rfl
theorem isN_rd : R2D K (fun x y H Q => y = .non ∧ Q (.bl (decide (x = .non))) H) wIsN := by
  intro R μ H x y dx dy P Q ok ix iy w k
  cases iy with
  | none => exact ⟨rfl, by rw [isNone_of ix]; exact k.val ok w (.bool _)⟩
  | _ => exact (show False from w).elim
theorem notN_rd : R2D K (fun x y H Q => y = .non ∧ Q (.bl (!decide (x = .non))) H) wNotN := by
  intro R μ H x y dx dy P Q ok ix iy w k
  cases iy with
  | none => exact ⟨rfl, by rw [isNone_of ix]; exact k.val ok w (.bool _)⟩
  | _ => exact (show False from w).elim
/-! in -/
def flatD : DV → Bool
  | .none | .bool _ | .int _ | .str _ => true
  | _ => false
def eqF : DV → DV → Bool
  | .none, .none => true
  | .bool a, .bool b => a == b
  | .bool a, .int b => (if a then 1 else 0) == b
  | .int a, .bool b => a == (if b then 1 else 0)
  | .int a, .int b => a == b
  | .str a, .str b => a == b
  | _, _ => false
def inF (x : DV) (ds : List DV) : Bool := ds.any fun y => eqF y x
def inDeep (x : DV) (ds : List DV) : Bool := ds.any fun y => PyData.eqv (toPy y) (toPy x)
/-- x in a list or tuple: of flat things, or of data at any depth; a text in a text -/
def wIn : W2 := fun x y μ P => match y with
  | .lst ds => (flatD x = true ∧ ds.all flatD = true ∧ P (.bool (inF x ds)) μ) ∨ (shapedD x = true ∧ shapedD (.lst ds) = true ∧ P (.bool (inDeep x ds)) μ)
  | .tup ds => (flatD x = true ∧ ds.all flatD = true ∧ P (.bool (inF x ds)) μ) ∨ (shapedD x = true ∧ shapedD (.tup ds) = true ∧ P (.bool (inDeep x ds)) μ)
  | .str z => match x with
    | .str s => (∃ c, s = ⟨#[c]⟩ ∧ P (.bool (decide (c ∈ z.cps.toList))) μ) ∨ P (.bool (!(Builtin.Str.occurrences z s 0 z.length 1).isEmpty)) μ
    | _ => False
  | _ => False
def wNotIn : W2 := notB wIn
theorem flat_of {H : Hp} {v : V} {d : DV} (h : Is K H v d) : flatV v = flatD d := by cases h <;> rfl
theorem flats_of {H : Hp} : ∀ {vs : List V} {ds : List DV}, Iss K H vs ds → vs.all flatV = ds.all flatD
  | _, _, .nil => rfl
  | _, _, .cons h r => by rw [List.all_cons, List.all_cons, flat_of h, flats_of r]
theorem eqV_of {H : Hp} {v u : V} {d e : DV} (h : Is K H v d) (h' : Is K H u e) (f : flatD d = true) (f' : flatD e = true) : eqV v u = eqF d e := by
  cases h <;> first | (cases h' <;> first | rfl | exact absurd (show false = true from f') Bool.false_ne_true) | exact absurd (show false = true from f) Bool.false_ne_true
theorem inV_of {H : Hp} {v : V} {d : DV} (h : Is K H v d) (f : flatD d = true) : ∀ {vs : List V} {ds : List DV}, Iss K H vs ds → ds.all flatD = true → inV v vs = inF d ds
  | _, _, .nil, _ => rfl
  | _, _, .cons (v := v1) (vs := vs1) (d := d1) (ds := ds1) h1 r, fs => by
    rw [List.all_cons, Bool.and_eq_true] at fs
    have e := inV_of h f r fs.2
    show (eqV v1 v || inV v vs1) = (eqF d1 d || inF d ds1)
    rw [e, eqV_of h1 h fs.1 f]
def rInTD (K : PySem.W.Frag) : R2 := fun x y H Q => ∃ d ds, Dp K H x d ∧ Dp K H y (.tuple ds) ∧ SeqAt.shaped d = true ∧ SeqAt.shaped (.tuple ds) = true ∧ Q (.bl (ds.any fun z => PyData.eqv z d)) H
def rNotInTD (K : PySem.W.Frag) : R2 := fun x y H Q => ∃ d ds, Dp K H x d ∧ Dp K H y (.tuple ds) ∧ SeqAt.shaped d = true ∧ SeqAt.shaped (.tuple ds) = true ∧ Q (.bl (!ds.any fun z => PyData.eqv z d)) H
theorem room_in_tup {A : Around} {d : PyData} {ds : List PyData} (h : SeqAt.shaped d = true) (hu : A.units + 65 < cLine) : A.units + 1 + min (PyData.depthAll ds) d.depth < cLine := by
  have h1 := SeqAt.depth_of_shaped h
  have h2 : min (PyData.depthAll ds) d.depth ≤ d.depth := Nat.min_le_right _ _
  omega
theorem op_inTD (hu : X.A.units + 65 < cLine) : OpR X (compareOp .In) (rInTD X.K) := by
  intro pins s σ H x y v u Q I rx ry h
  obtain ⟨d, ds, hd, he, sd, se, q⟩ := h
  obtain ⟨as, r1⟩ := Dp.reads I d x v hd rx
  obtain ⟨bs, r2⟩ := Dp.reads I (.tuple ds) y u he ry
  exact SeqAt.in_tuple_reads r2 r1 (SeqAt.canLay_of_shaped se) (SeqAt.canLay_of_shaped sd) (room_in_tup sd hu) ⟨.bl _, H, I, rfl, q⟩
theorem op_notInTD (hu : X.A.units + 65 < cLine) : OpR X (compareOp .NotIn) (rNotInTD X.K) := by
  intro pins s σ H x y v u Q I rx ry h
  obtain ⟨d, ds, hd, he, sd, se, q⟩ := h
  obtain ⟨as, r1⟩ := Dp.reads I d x v hd rx
  obtain ⟨bs, r2⟩ := Dp.reads I (.tuple ds) y u he ry
  exact SeqAt.notIn_tuple_reads r2 r1 (SeqAt.canLay_of_shaped se) (SeqAt.canLay_of_shaped sd) (room_in_tup sd hu) ⟨.bl _, H, I, rfl, q⟩
def rInA (K : PySem.W.Frag) : R2 := fun x y H Q => rIn K false x y H Q ∨ rInD K x y H Q ∨ rInTD K x y H Q ∨ (∃ (c : Nat) (z : Str), x = .str ⟨#[c]⟩ ∧ y = .str z ∧ Q (.bl (decide (c ∈ z.cps.toList))) H) ∨
  (∃ i j, x = .str i ∧ y = .str j ∧ Q (.bl (!(Builtin.Str.occurrences j i 0 j.length 1).isEmpty)) H)
def rNotInA (K : PySem.W.Frag) : R2 := fun x y H Q => rIn K true x y H Q ∨ rNotInD K x y H Q ∨ rNotInTD K x y H Q ∨ (∃ (c : Nat) (z : Str), x = .str ⟨#[c]⟩ ∧ y = .str z ∧ Q (.bl (!decide (c ∈ z.cps.toList))) H) ∨
  (∃ i j, x = .str i ∧ y = .str j ∧ Q (.bl (!(!(Builtin.Str.occurrences j i 0 j.length 1).isEmpty))) H)
theorem op_inA (hu : X.A.units + 65 < cLine) : OpR X (compareOp .In) (rInA X.K) := op_in_seq.or ((op_inD hu).or ((op_inTD hu).or (op_in_sign.or op_in_str)))
theorem op_notInA (hu : X.A.units + 65 < cLine) : OpR X (compareOp .NotIn) (rNotInA X.K) := op_notIn_seq.or ((op_notInD hu).or ((op_notInTD hu).or (op_notIn_sign.or op_notin_str)))
theorem any_toPys (d : PyData) : ∀ ds : List DV, ((toPys ds).any fun z => PyData.eqv z d) = ds.any fun z => PyData.eqv (toPy z) d
  | [] => rfl
  | x :: ds => by rw [toPys, List.any_cons, List.any_cons, any_toPys d ds]
theorem in_rd : R2D K (rInA K) wIn := by
  intro R μ H x y dx dy P Q ok ix iy w k
  cases iy with
  | lst hy ry =>
    rcases w with ⟨f1, f2, w⟩ | ⟨s1, s2, w⟩
    · refine .inl ⟨_, _, rfl, .inl (SqL.of (hid_le _ _ hy)), by rw [flat_of ix]; exact f1, by rw [flats_of ry]; exact f2, ?_⟩
      rw [if_neg Bool.false_ne_true, inV_of ix f1 ry f2]
      exact k.val ok w (.bool _)
    · obtain ⟨p1, q1⟩ := ix.up.dpS s1
      obtain ⟨p2, q2⟩ := (Is.up (K := K) (.lst hy ry)).dpS s2
      exact .inr (.inl ⟨_, _, p1, p2, q1, q2, by rw [any_toPys]; exact k.val ok w (.bool _)⟩)
  | tup hy ry =>
    rcases w with ⟨f1, f2, w⟩ | ⟨s1, s2, w⟩
    · refine .inl ⟨_, _, rfl, .inr (Same.seqT hid_le hy.t), by rw [flat_of ix]; exact f1, by rw [flats_of ry]; exact f2, ?_⟩
      rw [if_neg Bool.false_ne_true, inV_of ix f1 ry f2]
      exact k.val ok w (.bool _)
    · obtain ⟨p1, q1⟩ := ix.up.dpS s1
      obtain ⟨p2, q2⟩ := (Is.up (K := K) (.tup hy ry)).dpS s2
      exact .inr (.inr (.inl ⟨_, _, p1, p2, q1, q2, by rw [any_toPys]; exact k.val ok w (.bool _)⟩))
  | str z => cases ix with
    | str s =>
      rcases w with ⟨c, rfl, w⟩ | w
      · exact .inr (.inr (.inr (.inl ⟨c, z, rfl, rfl, k.val ok w (.bool _)⟩)))
      · exact .inr (.inr (.inr (.inr ⟨s, z, rfl, rfl, k.val ok w (.bool _)⟩)))
    | _ => exact (show False from w).elim
  | _ => exact (show False from w).elim
theorem notIn_rd : R2D K (rNotInA K) wNotIn := by
  intro R μ H x y dx dy P Q ok ix iy w k
  cases iy with
  | lst hy ry =>
    rcases w with ⟨f1, f2, w⟩ | ⟨s1, s2, w⟩
    · refine .inl ⟨_, _, rfl, .inl (SqL.of (hid_le _ _ hy)), by rw [flat_of ix]; exact f1, by rw [flats_of ry]; exact f2, ?_⟩
      rw [if_pos rfl, inV_of ix f1 ry f2]
      exact k.val ok w (.bool _)
    · obtain ⟨p1, q1⟩ := ix.up.dpS s1
      obtain ⟨p2, q2⟩ := (Is.up (K := K) (.lst hy ry)).dpS s2
      exact .inr (.inl ⟨_, _, p1, p2, q1, q2, by rw [any_toPys]; exact k.val ok w (.bool _)⟩)
  | tup hy ry =>
    rcases w with ⟨f1, f2, w⟩ | ⟨s1, s2, w⟩
    · refine .inl ⟨_, _, rfl, .inr (Same.seqT hid_le hy.t), by rw [flat_of ix]; exact f1, by rw [flats_of ry]; exact f2, ?_⟩
      rw [if_pos rfl, inV_of ix f1 ry f2]
      exact k.val ok w (.bool _)
    · obtain ⟨p1, q1⟩ := ix.up.dpS s1
      obtain ⟨p2, q2⟩ := (Is.up (K := K) (.tup hy ry)).dpS s2
      exact .inr (.inr (.inl ⟨_, _, p1, p2, q1, q2, by rw [any_toPys]; exact k.val ok w (.bool _)⟩))
  | str z => cases ix with
    | str s =>
      rcases w with ⟨c, rfl, w⟩ | w
      · exact .inr (.inr (.inr (.inl ⟨c, z, rfl, rfl, k.val ok w (.bool _)⟩)))
      · exact .inr (.inr (.inr (.inr ⟨s, z, rfl, rfl, k.val ok w (.bool _)⟩)))
    | _ => exact (show False from w).elim
  | _ => exact (show False from w).elim

/-! ### subscripts, slices -/
def atW {α : Type} (o : Option α) (f : α → Prop) : Prop := match o with | some d => f d | none => False
theorem atW_of {α : Type} {o : Option α} {f : α → Prop} (h : atW o f) : ∃ d, o = some d ∧ f d := by
  cases o with
  | none => exact h.elim
  | some d => exact ⟨d, rfl, h⟩
def wIx : W2
  | .lst ds, .int i, μ, P => atW (atI ds i) fun d => P d μ
  | .tup ds, .int i, μ, P => atW (atI ds i) fun d => P d μ
  | .str z, .int i, μ, P => z.length ≤ sizeLine ∧ atW (atI z.cps.toList i) fun c => P (.str ⟨#[c]⟩) μ
  | _, _, _, _ => False
theorem Iss.atI {H : Hp} {vs : List V} {ds : List DV} {i : Int} {d : DV} (r : Iss K H vs ds) (h : L2.atI ds i = some d) : ∃ v, L2.atI vs i = some v ∧ Is K H v d := by
  unfold L2.atI at h ⊢
  rw [r.length]
  cases e : ixN ds.length i with
  | none => rw [e] at h; cases h
  | some j =>
    rw [e] at h
    exact r.get h
theorem ix_rd : R2D K (rIx K) wIx := by
  intro R μ H x y dx dy P Q ok ix iy w k
  cases ix with
  | lst hx rx => cases iy with
    | int i =>
      obtain ⟨d, e, w⟩ := atW_of w
      obtain ⟨v, h1, h2⟩ := rx.atI e
      exact .inl ⟨_, _, i, v, rfl, rfl, SqL.of (hid_le _ _ hx), h1, k.val ok w h2⟩
    | _ => exact (show False from w).elim
  | tup hx rx => cases iy with
    | int i =>
      obtain ⟨d, e, w⟩ := atW_of w
      obtain ⟨v, h1, h2⟩ := rx.atI e
      exact .inr (.inl ⟨_, _, i, v, rfl, rfl, Same.seqT hid_le hx.t, h1, k.val ok w h2⟩)
    | _ => exact (show False from w).elim
  | str z => cases iy with
    | int i =>
      obtain ⟨d, e, w'⟩ := atW_of w.2
      exact .inr (.inr ⟨z, i, _, rfl, rfl, w.1, e, k.val ok w' (.str _)⟩)
    | _ => exact (show False from w).elim
  | _ => exact (show False from w).elim
abbrev WO := Rho → Mh → (Option Int → Mh → Prop) → Prop
def NxtO (K : PySem.W.Frag) (R : Hp) (μ : Mh) (H : Hp) (P : Option Int → Mh → Prop) (Q : Option Int → Hp → Prop) : Prop :=
  ∀ b μ' H', P b μ' → Ok K R μ' H' → Same (hid R μ H) (hid R μ' H') → Q b H'
def tDO (K : PySem.W.Frag) (w : WO) : TO := fun σ H Q => ∃ R ρ μ P, At K R σ ρ μ H ∧ w ρ μ P ∧ NxtO K R μ H P Q
def wNoPart : WO := fun _ μ P => P none μ
def wPart (w : WE) : WO := fun ρ μ P => w ρ μ fun d μ1 => match d with | .int i => P (some i) μ1 | _ => False
theorem PO.imp {e : Option Expr} {t t' : TO} (h : PO X e t) (i : ∀ σ H Q, t' σ H Q → t σ H Q) : PO X e t' := ⟨fun pins s σ H Q I w => h.run pins s σ H Q I (i _ _ _ w)⟩
theorem do_none : PO X none (tDO X.K wNoPart) := PO.imp po_none fun σ H Q ⟨R, ρ, μ, P, a, w, k⟩ => k _ μ H w a.ok (Same.refl _)
variable {e a b : Expr} {w wa wb : WE} {lo hi : Option Expr} {wl wh : WO} {pos p2 : Pos}
theorem do_some (h : PE X e (tD X.K w)) : PO X (some e) (tDO X.K (wPart w)) := PO.imp (po_some h) fun σ H Q ⟨R, ρ, μ, P, a, w, k⟩ => ⟨R, ρ, μ, _, a, w, fun d μ1 v H1 p1 o1 s1 i1 => by
  cases i1 with
  | int i => exact ⟨i, rfl, k _ μ1 H1 p1 o1 s1⟩
  | _ => exact (show False from p1).elim⟩
def cutD (ds : List DV) (lo hi : Option Int) : List DV := (ds.drop (HT.sIx ds.length 0 lo)).take (HT.sIx ds.length ds.length hi - HT.sIx ds.length 0 lo)
theorem Iss.cut {H : Hp} {vs : List V} {ds : List DV} (r : Iss K H vs ds) (lo hi : Option Int) : Iss K H (cutV vs lo hi) (cutD ds lo hi) := by
  unfold cutV cutD
  rw [r.length]
  exact (r.drop _).take _
def wCut : DV → Option Int → Option Int → Mh → (DV → Mh → Prop) → Prop
  | .lst ds, l, h, μ, P => P (.lst (cutD ds l h)) μ
  | .tup ds, l, h, μ, P => P (.tup (cutD ds l h)) μ
  | .str z, l, h, μ, P => z.length ≤ sizeLine ∧ P (.str (cutS z l h)) μ
  | .fix ds, l, h, μ, P => P (.lst (cutD ds l h)) μ
  | _, _, _, _, _ => False
def wSl (w : WE) (wl wh : WO) : WE := fun ρ μ P => w ρ μ fun x μ1 => wl ρ μ1 fun l μ2 => wh ρ μ2 fun h μ3 => wCut x l h μ3 P
def rSlX (K : PySem.W.Frag) : V → Option Int → Option Int → Hp → VK → Prop := fun x lo hi H Q => rSlL K x lo hi H Q ∨ rSlN K x lo hi H Q ∨ rSlS x lo hi H Q
theorem sl_any : SlR X (rSlX X.K) := sl_list.or (sl_tupN.or sl_str)
theorem d_slice (he : PE X e (tD X.K w)) (hl : PO X lo (tDO X.K wl)) (hu : PO X hi (tDO X.K wh)) : PE X (.Subscript e (.Slice lo hi none p2) pos) (tD X.K (wSl w wl wh)) :=
  PE.imp (pe_slice sl_any he hl hu) fun σ H Q ⟨R, ρ, μ, P, a, w, k⟩ => ⟨R, ρ, μ, _, a, w, fun x μ1 v H1 p1 o1 s1 i1 => ⟨R, ρ, μ1, _, a.step o1 s1, p1, fun l μ2 H2 p2 o2 s2 => ⟨R, ρ, μ2, _, a.step o2 (s1.trans s2), p2, fun h μ3 H3 p3 o3 s3 => by
    have k3 := k.step ((s1.trans s2).trans s3)
    have i3 := i1.mono (s2.trans s3)
    cases i3 with
    | lst hx rx => exact .inl ⟨_, _, rfl, SqL.of (hid_le _ _ hx), fun p n => k3.lst o3 p3 (rx.cut l h) n⟩
    | @tup a xs ds hx rx =>
      refine .inr (.inl ⟨_, _, rfl, Same.seqT hid_le hx.t, fun z => ?_, fun _ p t n nt => k3.tup nt o3 p3 (rx.cut l h) n⟩)
      have e : cutD ds l h = ds := by
        unfold cutD
        rw [← rx.length, z.1, z.2]
        simp [rx.length]
      exact k3.val o3 (by rw [← e]; exact p3) (.tup hx rx)
    | fix hx rx => exact .inl ⟨_, _, rfl, hid_le.seq hx, fun p n => k3.lst o3 p3 (rx.cut l h) n⟩
    | str z => exact .inr (.inr ⟨z, rfl, p3.1, k3.val o3 p3.2 (.str _)⟩)
    | _ => exact (show False from p3).elim⟩⟩⟩
theorem d_ix (ha : PE X a (tD X.K wa)) (hb : PE X b (tD X.K wb)) (hs : PlainIx b := by exact fun _ _ => rfl) : PE X (.Subscript a b pos) (tD X.K (wBin wIx wa wb)) := PE.imp (pe_ix ix_seq ha hb hs) (bin_imp ix_rd)
end
end Dz

set_option Elab.async false
set_option linter.all false
set_option maxRecDepth 100000
set_option maxHeartbeats 4000000
/-! DzG: a def's promise where nothing around it is being shown (repr): guards stand empty. The law's end for such promises. -/
namespace Dz
open PySem PySem.Spec L2 PyProof.Rows

/-- as FnOk, at places around which no repr runs -/
structure FnG (P : Program) (w : World) (K : PySem.W.Frag) (mg : Str → Option Value) (base : Heap) (k : Nat) (f : Addr) (fd : FuncData) (ps : List Str) (sp : Sp) : Prop where
  len : ∀ vs H Q E, sp vs H Q E → vs.length = ps.length
  run : ∀ (A : Around) (fr : List Env) (s : Shared) (H : Hp) (ar : Args) (us : List Value) (vs : List V) (Q : VK) (E : XK), A.guards = some [] → Room k A → Env0 P w K mg base A fr s H → BindsTo s fd ar (ps.zip us) → Vals vs us → sp vs H Q E →
    codeAny (model P w) A (.call (.ref f) ar) (CR CX0 fr P w H s Q E) s
theorem FnG.mono {P : Program} {w : World} {K : PySem.W.Frag} {mg : Str → Option Value} {base : Heap} {j k : Nat} {f : Addr} {fd : FuncData} {ps : List Str} {sp : Sp} (F : FnG P w K mg base j f fd ps sp) (h : j ≤ k) : FnG P w K mg base k f fd ps sp :=
  ⟨F.len, fun A fr s H ar us vs Q E hg hr => F.run A fr s H ar us vs Q E hg (hr.mono h)⟩
theorem FnOk.g {P : Program} {w : World} {K : PySem.W.Frag} {mg : Str → Option Value} {base : Heap} {k : Nat} {f : Addr} {fd : FuncData} {ps : List Str} {sp : Sp} (F : FnOk P w K mg base CX0 k f fd ps sp) : FnG P w K mg base k f fd ps sp :=
  ⟨F.len, fun A fr s H ar us vs Q E _ hr => F.run A fr s H ar us vs Q E hr⟩

/-- a def of the text keeps a promise by its body -/
theorem fng_of {P : Program} {w : World} {K : PySem.W.Frag} {mg : Str → Option Value} {base : Heap} {x qual : Str} {st : Stmt} {f : Addr} {fd : FuncData} {N ps : List Str} {k : Nat} {sp : Sp} (F : Fun K x qual st f fd) (S : FnScope N ps (defScope st)) (len : ∀ vs H Q E, sp vs H Q E → vs.length = ps.length)
    (body : ∀ (cdv : Value) (A : Around) (fr : List Env) (s : Shared) (H : Hp) (vs : List V) (Q : VK) (E : XK), A.guards = some [] → Room k (A.deeper (envOfC qual (defScope st) s.heap.objs.size f cdv)) → sp vs H Q E →
      ∃ t, PSs (cxOf CX0 P w K mg base N qual (defScope st) f cdv A fr s H E).nox (defBody st) t ∧ t { nx := fun _ H' => Q .non H', rt := Q } (start N vs) H) : FnG P w K mg base (k + 1) f fd ps sp := by
  obtain ⟨oc, od, kV, doc, pm, an, cdv, ct, osl, rfl, lk, hcd⟩ := F.ex
  refine ⟨len, fun A fr s H ar us vs Q E hgd room env bnd rel want => ?_⟩
  have inK : K.In s.heap := env.mod.kin.keeps fun b o q => (env.bs b o q).1
  have nolim : s.heap.NoLimit := env.mod.nolimit.keeps fun b o q => (env.bs b o q).1
  have count := len vs H Q E want
  have kinds : ∀ y ∈ ps.zip us, (defScope st).names.lookup y.1 = some .local ∨ ((defScope st).names.lookup y.1 = some .cell ∧ ((cellsFrom (s.heap.objs.size + 1) (defScope st).names []).lookup y.1).isSome = true) := by
    rintro ⟨nm, vv⟩ hy
    have hp := S.par nm (List.of_mem_zip hy).1
    rcases hp with hp | hp
    · exact Or.inl hp
    · exact Or.inr ⟨hp, PySem.W.cellsFrom_some _ _ _ (Or.inl hp)⟩
  refine codeAny_call_function room.depth (inK _ _ lk) rfl S.co S.gen rfl (PySem.W.codeRec_of inK hcd) (bnd _ _ _ _ ?_)
  refine wpAny_newFunctionEnv_cells S.kind kinds fun ev hev s1 x1 => ?_
  subst hev
  refine ⟨nolim.keeps x1.toInCall.keep, codeAny_func ?_⟩
  obtain ⟨t, ht0, hq⟩ := body cdv A fr s H vs Q E hgd (room.deeper _) want
  have ht := ht0.nox
  have I0 := inv_start (CX := CX0) (E := E) S room.hd env count rel x1
  refine wpAny_mono (ht.run [] s1 (start N vs) H _ I0 hq) (fun flow s2 hs => ?_) fun er s2 hs => hs
  cases flow with
  | next =>
    obtain ⟨σ2, H2, J, q⟩ := hs
    exact ⟨.non, H2, J.os, J.bare, J.base, J.hok, rfl, q⟩
  | ret u =>
    obtain ⟨v, σ2, H2, J, rv, q⟩ := hs
    exact ⟨v, H2, J.os, J.bare, J.base, J.hok, rv, q⟩
  | brk =>
    obtain ⟨_, _, _, q⟩ := hs
    exact q.elim
  | cont =>
    obtain ⟨_, _, _, q⟩ := hs
    exact q.elim

section
variable {X : Cx} {k : Nat} {f : Addr} {fd : FuncData} {ps : List Str} {sp : Sp} {E : XK} {x : Str} {p pos : Pos} {e : Expr} {es : List Expr} {t : TA} {dvs : List V} {ds : List Value}
theorem runG {pins : List (Addr × Obj)} {σ : L2.St} {H : Hp} {s : Shared} {Q : VK} {ar : Args} {us : List Value} {vs : List V} (F : FnG X.prog X.w X.K X.mg X.base k f fd ps sp) (hgd : X.A.guards = some []) (hr : Room k X.A) (I : Inv X pins σ H s) (hb : BindsTo s fd ar (ps.zip us)) (r : Vals vs us) (h : sp vs H Q E) :
    wpAny (model X.prog X.w) X.A (PySem.call (.ref f) ar.pos ar.kw) (EP X pins σ Q) X.xe s := by
  refine wpAny_call (codeAny_mono (F.run X.A X.stack s H ⟨ar.pos, ar.kw⟩ us vs Q E hgd hr I.env0 hb r h) fun res s' hq => ?_)
  match res, hq with
  | .ok (.ret u), hq => exact I.after hq
theorem peg_call (F : FnG X.prog X.w X.K X.mg X.base k f fd ps sp) (hgd : X.A.guards = some []) (hr : Room k X.A) (hg : Gl X x) (hm : X.mg x = some (.ref f)) (hk : PySem.W.keepIn X.K (.ref f) = true) (hb : Binds X.K fd ps ds) (hd : Vals dvs ds)
    (ha : PA X (e :: es) t) (hdb : (x == ("__debug__" : Str)) = false) (he : starEach (e :: es) X.env = (false, eval e X.env) :: starEach es X.env) (hpl : (backTo pos (starEach es X.env)).any (·.1) = false) :
    PE X (.Call (.Name x p) (e :: es) [] pos) (tCall sp dvs E t) := by
  constructor
  intro pins s σ H Q I h
  refine wpAny_Call_Name_kw (ld_glob I hg hm (PySem.W.callWith_K (h₀ := X.base) I.ok.mod.kin hk (thn (ha.run pos pins s σ H _ I h) fun us s1 ⟨vs, H1, I1, r, q⟩ => ⟨I1.kIn, ?_⟩) he hpl) hdb)
  have rr : Vals (vs ++ dvs) (us ++ ds) := r.append hd
  exact runG (ar := ⟨us, []⟩) F hgd hr I1 (hb s1 us I1.kIn (by rw [← rr.length]; exact F.len _ _ _ _ q)) rr q
theorem peg_call0 (F : FnG X.prog X.w X.K X.mg X.base k f fd ps sp) (hgd : X.A.guards = some []) (hr : Room k X.A) (hg : Gl X x) (hm : X.mg x = some (.ref f)) (hk : PySem.W.keepIn X.K (.ref f) = true) (hb : Binds X.K fd ps ds) (hd : Vals dvs ds)
    (hdb : (x == ("__debug__" : Str)) = false) : PE X (.Call (.Name x p) [] [] pos) (tCall sp dvs E tNil) := by
  constructor
  intro pins s σ H Q I h
  refine wpAny_Call_Name_kw (ld_glob I hg hm (PySem.W.callWith_K0 I.kIn hk ?_) hdb)
  exact runG (ar := ⟨[], []⟩) (us := [] ++ ds) (vs := [] ++ dvs) F hgd hr I (hb s [] I.kIn (by rw [← (Vals.append .nil hd).length]; exact F.len _ _ _ _ h)) (Vals.append .nil hd) h
/-- keywords alone -/
theorem peg_callK0 {ks : List Str} {kws : List Keyword} {tk : TA} {g : List Value → List Value → List Value} {gV : List V → List V → List V} (F : FnG X.prog X.w X.K X.mg X.base k f fd ps sp) (hgd : X.A.guards = some []) (hr : Room k X.A) (hg : Gl X x) (hm : X.mg x = some (.ref f)) (hk : PySem.W.keepIn X.K (.ref f) = true)
    (hb : KBinds X.K fd ps ks g gV) (hkw : PK X kws tk) (hall : (backToKw pos (keywordEach kws X.env)).all (·.1.isSome) = true) (hks : (backToKw pos (keywordEach kws X.env)).filterMap (·.1) = ks) (hdb : (x == ("__debug__" : Str)) = false)
    (hpl : ((backTo pos (starEach [] X.env)).any (·.1) || (backToKw pos (keywordEach kws X.env)).any (·.1.isNone)) = false) : PE X (.Call (.Name x p) [] kws pos) (fun σ H Q => tk σ H fun zs H1 => sp (gV [] zs) H1 Q E) := by
  constructor
  intro pins s σ H Q I h
  refine wpAny_Call_Name_kw (ld_glob I hg hm (PySem.W.callWith_KW0 (h₀ := X.base) I.ok.mod.kin hk hall (thn (hkw.run pos pins s σ H _ I h) fun us s1 ⟨zs, H1, I1, r, q⟩ => ⟨I1.kIn, ?_⟩) hpl) hdb)
  rw [hks]
  have rr : Vals (gV [] zs) (g [] us) := hb.rel .nil r
  exact runG (ar := ⟨[], ks.zip us⟩) F hgd hr I1 (hb.to s1 [] us I1.kIn (by rw [← rr.length]; exact F.len _ _ _ _ q)) rr q
end

/-! ### the end -/
/-- the script is there: a list of the ints, locked (or the module's own); nothing else is tracked -/
def Entry (H : Hp) : Prop := ∀ b, H b = none ∨ ∃ o xs, H b = some (.frz o (.lst xs))
theorem law_callG {P : Program} {w : World} {K : PySem.W.Frag} {mg mb : Str → Option Value} {k : Nat} {fa a : Addr} {fd : FuncData} {x : Str} {sp : Sp} {s₁ : Shared} {vs : List Value} {ns : List Int}
    (KX : K.In s₁.heap) (hns : s₁.heap.Ns mainGlobals mg) (hb : s₁.heap.Ns builtinsNs mb) (hbb : ∀ y : Str, y ≠ "__name__" → mb y = bootBuiltins y) (hlim : s₁.heap.NoLimit) (hg : s₁.gens = #[])
    (ha : s₁.heap.get? a = some { cls := .type "list", data := .seq vs.toArray }) (hi : IntsAre vs ns) (hl : ns.length ≤ sizeLine) (hr : Room k callerA)
    (hsys : ∃ m, s₁.heap.Ns sysModules m) (F : ∀ base : Heap, K.In base → base.Ns mainGlobals mg → (∃ o, base.get? sysModules = some o) → FnG P w K mg base k fa fd [x] sp) (hbind : ∀ (s : Shared) (u : Value), BindsTo s fd ⟨[u], []⟩ [(x, u)])
    (hsp : ∀ H : Hp, Entry H → SqL K H a (ns.map V.int) → sp [.ref a] H (fun v _ => v = .bl true) fun _ _ _ => False) :
    codeAny (model P w) callerA (.call (.ref fa) ⟨[.ref a], []⟩) (fun r s' => r = .ok (.ret (.bool true)) ∧ OldK s₁.heap s'.heap ∧ s'.os = s₁.os ∧ AllBare s'.gens) s₁ := by
  have rv := vals_ints hi
  have same : ∀ H : Hp, Entry H → SqL K H a (ns.map V.int) → HOk P w H s₁.heap → (∀ b u, H b = some u → b = a ∧ K.lookup a = none) →
      codeAny (model P w) callerA (.call (.ref fa) ⟨[.ref a], []⟩) (fun r s' => r = .ok (.ret (.bool true)) ∧ OldK s₁.heap s'.heap ∧ s'.os = s₁.os ∧ AllBare s'.gens) s₁ := by
    intro H hE hS hok only
    -- what is no list at a stays below
    have low : ∀ {b : Addr} {o : Obj}, s₁.heap.get? b = some o → (b = a → K.lookup a = none → False) → (hidT s₁.heap H).get? b = some o := fun {b o} e ne => by
      refine hidT_get e ?_
      cases q : H b with
      | none => rfl
      | some u => exact (ne (only b u q).1 (only b u q).2).elim
    have lowNs : ∀ {b : Addr} {m : Str → Option Value}, s₁.heap.Ns b m → (hidT s₁.heap H).Ns b m := fun {b m} h => by
      obtain ⟨o, es, ep, e, d, rest⟩ := h
      refine ⟨o, es, ep, low e fun z _ => ?_, d, rest⟩
      subst z
      rw [ha] at e
      cases e
      exact Data.noConfusion (show Data.seq vs.toArray _ = Data.dict es ep from d)
    have lowK : K.In (hidT s₁.heap H) := fun b o e => low (KX b o e) fun z n => by
      subst z
      rw [n] at e
      cases e
    obtain ⟨ml, hl1, hl2⟩ := hlim
    have env : Env0 P w K mg (hidT s₁.heap H) callerA [] s₁ H :=
      ⟨rfl, ⟨lowK, lowNs hns, ⟨mb, lowNs hb, hbb⟩, ⟨ml, lowNs hl1, hl2⟩⟩, fun b o e => of_hidT e, Nat.le_of_eq (hidT_size _ _), trivial, (fun b z => (List.not_mem_nil (show b ∈ ([] : List Addr) from z)).elim), hok, AllBare.of_eq hg⟩
    refine codeAny_mono ((F (hidT s₁.heap H) lowK (lowNs hns) (let ⟨_, hm⟩ := hsys; let ⟨o, _, _, ho, _⟩ := lowNs hm; ⟨o, ho⟩)).run callerA [] s₁ H ⟨[.ref a], []⟩ [.ref a] [.ref a] _ _ rfl hr env (hbind s₁ (.ref a)) (.cons rfl .nil) (hsp H hE hS)) fun res s' h => ?_
    match res, h with
    | .ok (.ret u), ⟨v, H', os, bare, un, hok', r', q⟩ =>
      have q' : v = V.bl true := q
      subst q'
      obtain rfl : u = Value.bool true := r'
      refine ⟨rfl, OldK.of_keep fun b o e => ?_, os, bare⟩
      rcases hE b with z | ⟨ob, xs, z⟩
      · exact un.keep b o e z (fun y => List.not_mem_nil (show b ∈ ([] : List Addr) from y)) (fun y => List.not_mem_nil y)
      · obtain ⟨e1, _⟩ := hok b _ z
        obtain ⟨e2, _⟩ := hok' b _ (un.frzs b ob _ z)
        have e3 : some o = some ob := e.symm.trans e1
        cases e3
        exact e2
  have lenV := hi.length
  cases hk : K.lookup a with
  | some o =>
    have e := (KX a o hk).symm.trans ha
    cases e
    exact same (fun _ => none) (fun _ => Or.inl rfl) (Or.inr ⟨_, vs.toArray, _, hk, rfl, rfl, rfl, by simpa [lenV] using hl, by simpa using rv⟩) (fun b u z => by cases z) (fun b u z => by cases z)
  | none =>
    let o0 : Obj := { cls := .type "list", data := .seq vs.toArray }
    let H0 : Hp := fun b => if b = a then some (.frz o0 (.lst (ns.map V.int))) else none
    have at0 : ∀ b u, H0 b = some u → b = a ∧ u = .frz o0 (.lst (ns.map V.int)) := fun b u z => by
      by_cases hb : b = a
      · exact ⟨hb, (Option.some.inj ((if_pos hb).symm.trans z)).symm⟩
      · cases (if_neg hb).symm.trans z
    refine same H0 (fun b => ?_) (Or.inl (Or.inr ⟨o0, if_pos rfl⟩)) (fun b u z => ?_) (fun b u z => ⟨(at0 b u z).1, hk⟩)
    · by_cases hb : b = a
      · exact Or.inr ⟨o0, _, if_pos hb⟩
      · exact Or.inl (if_neg hb)
    · obtain ⟨rfl, rfl⟩ := at0 b u z
      exact ⟨ha, by rw [List.length_map]; exact hl, vs, _, rv, ha⟩
/-- the goal that k_head leaves, from the law's promise -/
theorem walk_ofG {l : PySem.W.OpenLaw} {n k : Nat} {q : Program} {loose : List Str} {XP : (Str → Option Value) → Heap → Prop} {YP : World → Heap → Prop} {d : DefRec} {K : Params → PySem.W.Frag} {sp : PySem.W.Frag → Sp} {x : Str}
    (hn : l.most = some n) (hn2 : n ≤ sizeLine) (hi : importsNone q = true) (hdf : d.params.defaults = []) (hr : Room k callerA) (hY : ∀ (w : World) (h : Heap), YP w h → (K w.params).In h)
    (F : ∀ (w : World) (mg : Str → Option Value) (fa : Addr) (h : Heap), (K w.params).In h → h.Ns mainGlobals mg → (∃ o, h.get? sysModules = some o) → mg d.name = some (.ref fa) →
      ∃ fd : FuncData, (∀ (s : Shared) (u : Value), BindsTo s fd ⟨[u], []⟩ [(x, u)]) ∧ ∀ base : Heap, (K w.params).In base → base.Ns mainGlobals mg → (∃ o, base.get? sysModules = some o) → FnG l.prog w (K w.params) mg base k fa fd [x] (sp (K w.params)))
    (hsp : ∀ (K : PySem.W.Frag) (H : Hp) (a : Addr) (ns : List Int), ns.length ≤ n → Entry H → SqL K H a (ns.map V.int) → sp K [.ref a] H (fun v _ => v = .bl true) fun _ _ _ => False) :
    PySem.W.WalkO q loose XP YP l.row.toRowW d [] (fun f vs => PySem.call f vs) := by
  refine Att.attach_call hn hdf fun w s₀ s₁ mg mb fa o pm cd doc a vs ns G Y ho hd hcd hmg hobj hints hlen hgen => ?_
  have KX := hY w _ Y
  have hsys : ∃ m, s₁.heap.Ns sysModules m := let ⟨m, hm, _⟩ := (G.T.seer hi).mods; ⟨m, hm⟩
  obtain ⟨fd, hbd, hF⟩ := F w mg fa _ KX G.T.g (let ⟨_, hm⟩ := hsys; let ⟨o, _, _, ho, _⟩ := hm; ⟨o, ho⟩) hmg
  exact law_callG KX G.T.g G.T.b G.T.builtins G.T.nolimit hgen hobj hints (Nat.le_trans hlen hn2) hr hsys hF hbd fun H hE hS => hsp (K w.params) H a ns hlen hE hS
end Dz

set_option Elab.async false
set_option linter.all false
set_option maxRecDepth 100000
set_option maxHeartbeats 4000000
/-! Dz4: targets, things walked, statements, loops, comprehensions, defs and their calls. -/
namespace Dz
open PySem L2 PyProof.Rows

/-! ### targets -/
theorem wipe_get (σ : L2.St) (j : Nat) : ∀ vs : List Nat, (wipe σ vs)[j]? = if j ∈ vs ∧ j < σ.length then some none else σ[j]?
  | [] => by simp [wipe]
  | v :: vs => by
    unfold wipe
    by_cases h : v = j
    · subst h
      by_cases hl : v < σ.length
      · rw [List.getElem?_set_self (by rw [wipe_length]; exact hl), if_pos ⟨List.mem_cons_self, hl⟩]
      · rw [List.getElem?_eq_none (by rw [List.length_set, wipe_length]; omega), if_neg (fun z => hl z.2), List.getElem?_eq_none (by omega)]
    · rw [List.getElem?_set_ne h, wipe_get σ j vs]
      by_cases c : j ∈ vs ∧ j < σ.length
      · rw [if_pos c, if_pos ⟨List.mem_cons_of_mem _ c.1, c.2⟩]
      · rw [if_neg c, if_neg fun z => c ⟨(List.mem_cons.mp z.1).resolve_left fun q => h q.symm, z.2⟩]
theorem wipe_set {σ : L2.St} {i : Nat} {x : Option V} {vs : List Nat} (h : i ∈ vs) : wipe (σ.set i x) vs = wipe σ vs := by
  apply List.ext_getElem?
  intro j
  rw [wipe_get, wipe_get, List.length_set]
  by_cases c : j ∈ vs ∧ j < σ.length
  · rw [if_pos c, if_pos c]
  · rw [if_neg c, if_neg c]
    by_cases e : i = j
    · subst e
      have hl : ¬ i < σ.length := fun z => c ⟨h, z⟩
      rw [List.getElem?_eq_none (by rw [List.length_set]; omega), List.getElem?_eq_none (by omega)]
    · rw [List.getElem?_set_ne e]
theorem wipe_wipe (σ : L2.St) (vs : List Nat) : wipe (wipe σ vs) vs = wipe σ vs := by
  apply List.ext_getElem?
  intro j
  rw [wipe_get, wipe_get, wipe_length]
  by_cases c : j ∈ vs ∧ j < σ.length
  · rw [if_pos c, if_pos c]
  · rw [if_neg c, if_neg c]
def tDG (K : PySem.W.Frag) (sl : List Nat) (wg : WG) : TG := fun v σ H Q => ∃ R ρ μ d P, At K R σ ρ μ H ∧ Is K (hid R μ H) v d ∧ wg d ρ P ∧
  ∀ ρ' σ', P ρ' → Sl K (hid R μ H) σ' ρ' → (∀ vs, (∀ i ∈ sl, i ∈ vs) → wipe σ' vs = wipe σ vs) → Q σ' H
abbrev WGs := List DV → Rho → (Rho → Prop) → Prop
def tDGs (K : PySem.W.Frag) (sl : List Nat) (wg : WGs) : TGs := fun vs σ H Q => ∃ R ρ μ ds P, At K R σ ρ μ H ∧ Iss K (hid R μ H) vs ds ∧ wg ds ρ P ∧
  ∀ ρ' σ', P ρ' → Sl K (hid R μ H) σ' ρ' → (∀ vs, (∀ i ∈ sl, i ∈ vs) → wipe σ' vs = wipe σ vs) → Q σ' H
theorem PG.imp {X : Cx} {e : Expr} {t t' : TG} (h : PG X e t) (i : ∀ v σ H Q, t' v σ H Q → t v σ H Q) : PG X e t' := ⟨fun pins s σ H v u Q I r w => h.run pins s σ H v u Q I r (i _ _ _ _ w)⟩
theorem PGs.imp {X : Cx} {e : List Expr} {t t' : TGs} (h : PGs X e t) (i : ∀ v σ H Q, t' v σ H Q → t v σ H Q) : PGs X e t' := ⟨fun pins s σ H v u Q I r w => h.run pins s σ H v u Q I r (i _ _ _ _ w)⟩
theorem PI.imp {X : Cx} {tg e : Expr} {t t' : TI} (h : PI X tg e t) (i : ∀ σ H Q, t' σ H Q → t σ H Q) : PI X tg e t' := ⟨fun pins s σ H Q I w => h.run pins s σ H Q I (i _ _ _ w)⟩
def wgName (i : Nat) : WG := fun d ρ P => P (ρ.set i (some d))
def wgNil : WGs := fun ds ρ P => ds = [] ∧ P ρ
def wgCons (g : WG) (gs : WGs) : WGs := fun ds ρ P => match ds with | d :: r => g d ρ fun ρ1 => gs r ρ1 P | [] => False
def wgTup (n : Nat) (gs : WGs) : WG := fun d ρ P => match d with | .tup ds => ds.length = n ∧ gs ds ρ P | _ => False
section
variable {X : Cx} {pos : Pos} {e : Expr} {es : List Expr} {g : WG} {gs : WGs} {s1 s2 : List Nat}
theorem dg_name {i : Nat} {x : Str} (hN : X.N.Nodup) (hi : X.N[i]? = some x) (hx : Loc X.env.scope x) (hf : X.fn x = true ∨ X.env.scope.names.lookup x = some .local := by first | exact .inl rfl | exact .inr rfl | assumption) : PG X (.Name x pos) (tDG X.K [i] (wgName i)) :=
  PG.imp (pg_name hN hi hx hf) fun v σ H Q ⟨R, ρ, μ, d, P, a, r, w, k⟩ => k _ _ w (a.sl.set i r) fun vs h => wipe_set (h i List.mem_cons_self)
theorem dgs_nil : PGs X [] (tDGs X.K [] wgNil) := PGs.imp pgs_nil fun v σ H Q ⟨R, ρ, μ, d, P, a, r, w, k⟩ => by
  obtain ⟨rfl, w⟩ := w
  cases r
  exact ⟨rfl, k _ _ w a.sl fun _ _ => rfl⟩
theorem dgs_cons (h1 : PG X e (tDG X.K s1 g)) (h2 : PGs X es (tDGs X.K s2 gs)) (hs : (assignEach (e :: es) X.env).map (·.2) = assign e X.env :: (assignEach es X.env).map (·.2) := by rfl) : PGs X (e :: es) (tDGs X.K (s1 ++ s2) (wgCons g gs)) :=
  PGs.imp (pgs_cons h1 h2 hs) fun v σ H Q ⟨R, ρ, μ, ds, P, a, r, w, k⟩ => by
    cases r with
    | nil => exact (show False from w).elim
    | cons r rr =>
      refine ⟨_, _, rfl, R, ρ, μ, _, _, a, r, w, fun ρ1 σ1 p1 sl1 w1 => ⟨R, ρ1, μ, _, P, ⟨a.ok, sl1⟩, rr, p1, fun ρ2 σ2 p2 sl2 w2 => k ρ2 σ2 p2 sl2 fun vs h => ?_⟩⟩
      rw [w2 vs fun i hi => h i (List.mem_append_right _ hi), w1 vs fun i hi => h i (List.mem_append_left _ hi)]
theorem dg_tup {k n : Nat} (hc : X.calm = true) (h : PGs X es (tDGs X.K s1 gs)) (hn : (assignEach es X.env).length = n := by rfl) (hst : (assignEach es X.env).findIdx? (·.1) = none := by rfl) : PG X (.Tuple es k pos) (tDG X.K s1 (wgTup n gs)) :=
  PG.imp (pg_tup hc h hn hst) fun v σ H Q ⟨R, ρ, μ, d, P, a, r, w, k⟩ => by
    cases r with
    | tup hx rx => exact ⟨_, _, rfl, Same.seqT hid_le hx.t, by rw [rx.length]; exact w.1, R, ρ, μ, _, P, a, rx, w.2, k⟩
    | _ => exact (show False from w).elim
end

/-! ### what is walked -/
structure ItD (K : PySem.W.Frag) (Hm : Hp) (J : It) (xs : List DV) : Prop where
  go : ∀ R μ H i, Ok K R μ H → Same Hm (hid R μ H) → i < xs.length → J.go i H
  yld : ∀ R μ H i x H', Ok K R μ H → Same Hm (hid R μ H) → J.yld i H x H' → i < xs.length → ∃ d, xs[i]? = some d ∧ Ok K R μ H' ∧ Same (hid R μ H) (hid R μ H') ∧ Is K (hid R μ H') x d
  stop : ∀ R μ H i, Ok K R μ H → Same Hm (hid R μ H) → xs.length ≤ i → J.stop i H
theorem ItD.lst {K : PySem.W.Frag} {Hm : Hp} {a : Addr} {vs : List V} {xs : List DV} (h : Hm a = some (.lst vs)) (r : Iss K Hm vs xs) : ItD K Hm (Itl K a) xs where
  go := fun R μ H i o s hi => by
    obtain ⟨v, e, _⟩ := r.get (List.getElem?_eq_getElem hi)
    exact ⟨vs, v, SqL.of (hid_le _ _ (s _ _ h)), e⟩
  yld := fun R μ H i x H' o s y hi => by
    obtain ⟨rfl, y⟩ := y
    have e := y vs (SqL.of (hid_le _ _ (s _ _ h)))
    obtain ⟨d, e2, k⟩ := r.getV e
    exact ⟨d, e2, o, Same.refl _, k.mono s⟩
  stop := fun R μ H i o s hi => ⟨vs, SqL.of (hid_le _ _ (s _ _ h)), by rw [r.length]; exact hi⟩
theorem ItD.tup {K : PySem.W.Frag} {Hm : Hp} {a : Addr} {vs : List V} {xs : List DV} (h : SqT K Hm a vs) (r : Iss K Hm vs xs) : ItD K Hm (Itt K a) xs where
  go := fun R μ H i o s hi => by
    obtain ⟨v, e, _⟩ := r.get (List.getElem?_eq_getElem hi)
    exact ⟨vs, v, Same.seqT (s.trans hid_le) h, e⟩
  yld := fun R μ H i x H' o s y hi => by
    obtain ⟨rfl, y⟩ := y
    have e := y vs (Same.seqT (s.trans hid_le) h)
    obtain ⟨d, e2, k⟩ := r.getV e
    exact ⟨d, e2, o, Same.refl _, k.mono s⟩
  stop := fun R μ H i o s hi => ⟨vs, Same.seqT (s.trans hid_le) h, by rw [r.length]; exact hi⟩
def signs (z : Str) : List DV := z.cps.toList.map fun c => .str ⟨#[c]⟩
theorem ItD.str {K : PySem.W.Frag} {Hm : Hp} {z : Str} : ItD K Hm (Its z) (signs z) where
  go := fun R μ H i o s hi => by
    unfold signs at hi
    rw [List.length_map, Array.length_toList] at hi
    exact hi
  yld := fun R μ H i x H' o s y hi => by
    obtain ⟨rfl, c, e, rfl⟩ := y
    refine ⟨.str ⟨#[c]⟩, ?_, o, Same.refl _, .str _⟩
    unfold signs
    rw [List.getElem?_map, Array.getElem?_toList, e]
    rfl
  stop := fun R μ H i o s hi => by
    unfold signs at hi
    rw [List.length_map, Array.length_toList] at hi
    exact hi
def rngD (lo : Int) (n : Nat) : List DV := (List.range n).map fun i : Nat => .int (lo + (i : Int))
theorem ItD.rng {K : PySem.W.Frag} {Hm : Hp} {lo : Int} {n : Nat} : ItD K Hm (Itr lo n) (rngD lo n) where
  go := fun R μ H i o s hi => by
    unfold rngD at hi
    rw [List.length_map, List.length_range] at hi
    exact hi
  yld := fun R μ H i x H' o s y hi => by
    obtain ⟨rfl, rfl⟩ := y
    unfold rngD at hi ⊢
    rw [List.length_map, List.length_range] at hi
    refine ⟨.int (lo + (i : Int)), ?_, o, Same.refl _, .int _⟩
    rw [List.getElem?_map, List.getElem?_range hi]
    rfl
  stop := fun R μ H i o s hi => by
    unfold rngD at hi
    rw [List.length_map, List.length_range] at hi
    exact hi
abbrev WI := Rho → Mh → (List DV → Mh → Prop) → Prop
def tDI (K : PySem.W.Frag) (ws : WI) : TI := fun σ H RR => ∃ R ρ μ P, At K R σ ρ μ H ∧ ws ρ μ P ∧ ∀ xs μ' H' J, P xs μ' → Ok K R μ' H' → Same (hid R μ H) (hid R μ' H') → ItD K (hid R μ' H') J xs → RR J H'
def sLst (w : WE) : WI := fun ρ μ P => w ρ μ fun d μ1 => match d with | .lst xs => P xs μ1 | _ => False
def sTup (w : WE) : WI := fun ρ μ P => w ρ μ fun d μ1 => match d with | .tup xs => P xs μ1 | _ => False
def sStr (w : WE) : WI := fun ρ μ P => w ρ μ fun d μ1 => match d with | .str z => P (signs z) μ1 | _ => False
def sRng1 (w : WE) : WI := fun ρ μ P => w ρ μ fun d μ1 => match d with | .int j => j < 2 ^ 62 ∧ -(2 ^ 62) ≤ j ∧ P (rngD 0 j.toNat) μ1 | _ => False
def sRng2 (wa wb : WE) : WI := fun ρ μ P => wa ρ μ fun c μ1 => wb ρ μ1 fun d μ2 => match c, d with | .int i, .int j => (-(2 ^ 62) ≤ i ∧ i < 2 ^ 62 ∧ -(2 ^ 62) ≤ j ∧ j < 2 ^ 62) ∧ P (rngD i (j - i).toNat) μ2 | _, _ => False
section
variable {X : Cx} {tg e a b : Expr} {w wa wb : WE} {p pos : Pos}
theorem di_list (h : PE X e (tD X.K w)) : PI X tg e (tDI X.K (sLst w)) := PI.imp (pi_list h) fun σ H RR ⟨R, ρ, μ, P, a, w, k⟩ => ⟨R, ρ, μ, _, a, w, fun d μ1 v H1 p1 o1 s1 i1 => by
  cases i1 with
  | lst hx rx => exact ⟨_, rfl, ⟨_, SqL.of (hid_le _ _ hx)⟩, k _ μ1 H1 _ p1 o1 s1 (.lst hx rx)⟩
  | _ => exact (show False from p1).elim⟩
theorem di_tup (h : PE X e (tD X.K w)) : PI X tg e (tDI X.K (sTup w)) := PI.imp (pi_tup h) fun σ H RR ⟨R, ρ, μ, P, a, w, k⟩ => ⟨R, ρ, μ, _, a, w, fun d μ1 v H1 p1 o1 s1 i1 => by
  cases i1 with
  | tup hx rx => exact ⟨_, rfl, ⟨_, Same.seqT hid_le hx.t⟩, k _ μ1 H1 _ p1 o1 s1 (.tup hx.t rx)⟩
  | _ => exact (show False from p1).elim⟩
theorem di_str (h : PE X e (tD X.K w)) : PI X tg e (tDI X.K (sStr w)) := PI.imp (pi_str h) fun σ H RR ⟨R, ρ, μ, P, a, w, k⟩ => ⟨R, ρ, μ, _, a, w, fun d μ1 v H1 p1 o1 s1 i1 => by
  cases i1 with
  | str z => exact ⟨_, rfl, k _ μ1 H1 _ p1 o1 s1 .str⟩
  | _ => exact (show False from p1).elim⟩
theorem di_range1 (hg : Gl X "range") (hm : X.mg "range" = none) (h : PE X a (tD X.K w)) (hs : starEach [a] X.env = [(false, eval a X.env)] := by rfl) : PI X tg (.Call (.Name "range" p) [a] [] pos) (tDI X.K (sRng1 w)) :=
  PI.imp (pi_range1 hg hm (pa_cons h pa_nil hs) hs) fun σ H RR ⟨R, ρ, μ, P, a, w, k⟩ => ⟨R, ρ, μ, _, a, w, fun d μ1 v H1 p1 o1 s1 i1 => by
    cases i1 with
    | int j => exact ⟨j, rfl, p1.2.1, p1.1, k _ μ1 H1 _ p1.2.2 o1 s1 .rng⟩
    | _ => exact (show False from p1).elim⟩
theorem di_range2 (hg : Gl X "range") (hm : X.mg "range" = none) (ha : PE X a (tD X.K wa)) (hb : PE X b (tD X.K wb)) (hs : starEach [a, b] X.env = [(false, eval a X.env), (false, eval b X.env)] := by rfl) (hs2 : starEach [b] X.env = [(false, eval b X.env)] := by rfl) :
    PI X tg (.Call (.Name "range" p) [a, b] [] pos) (tDI X.K (sRng2 wa wb)) :=
  PI.imp (pi_range2 hg hm (pa_cons ha (pa_cons hb pa_nil hs2) (by rw [hs, hs2])) hs hs2) fun σ H RR ⟨R, ρ, μ, P, a, w, k⟩ => ⟨R, ρ, μ, _, a, w, fun c μ1 u H1 p1 o1 s1 i1 => ⟨R, ρ, μ1, _, a.step o1 s1, p1, fun d μ2 v H2 p2 o2 s2 i2 => by
    cases i1 with
    | int i =>
      cases i2 with
      | int j => exact ⟨i, j, rfl, p2.1, k _ μ2 H2 _ p2.2 o2 (s1.trans s2) .rng⟩
      | _ => exact (show False from p2).elim
    | _ => exact (show False from p2).elim⟩⟩
end

/-! ### statements -/
def wSeq (t u : WS) : WS := fun E ρ μ => t { E with nx := u E } ρ μ
def wNext : WS := fun E ρ μ => E.nx ρ μ
def wBrk : WS := fun E ρ μ => E.bk ρ μ
def wCnt : WS := fun E ρ μ => E.ct ρ μ
def wAsg (w : WE) (g : WG) : WS := fun E ρ μ => w ρ μ fun d μ1 => g d ρ fun ρ1 => E.nx ρ1 μ1
def wDrop (w : WE) : WS := fun E ρ μ => w ρ μ fun _ μ1 => E.nx ρ μ1
def wRet (w : WE) : WS := fun E ρ μ => w ρ μ fun d μ1 => E.rt d μ1
def wRetN : WS := fun E _ μ => E.rt .none μ
def wIfS (c : WT) (t u : WS) : WS := fun E ρ μ => c ρ μ fun b μ1 => match b with | true => t E ρ μ1 | false => u E ρ μ1
def wPar (i j : Nat) (wa : WA) : WS := fun E ρ μ => wa ρ μ fun ds μ1 => match ds with | [x, y] => E.nx ((ρ.set i (some x)).set j (some y)) μ1 | _ => False
section
variable {X : Cx} {st : Stmt} {rest sa sb : List Stmt} {t u : WS} {e tg : Expr} {w : WE} {g : WG} {sl : List Nat} {pos : Pos}
theorem dss_nil : PSs X [] (tDS X.K wNext) := PSs.imp pss_nil fun D σ H ⟨R, ρ, μ, E, a, w, k⟩ => k.nx ρ μ σ H w a (Same.refl _)
theorem dss_cons (h1 : PS X st (tDS X.K t)) (h2 : PSs X rest (tDS X.K u)) : PSs X (st :: rest) (tDS X.K (wSeq t u)) := PSs.imp (pss_cons h1 h2) fun D σ H ⟨R, ρ, μ, E, a, w, k⟩ =>
  ⟨R, ρ, μ, _, a, w, ⟨fun ρ1 μ1 σ1 H1 p1 a1 s1 => ⟨R, ρ1, μ1, E, a1, p1, k.step s1⟩, k.rt, k.bk, k.ct⟩⟩
theorem dss_one (h : PS X st (tDS X.K t)) : PSs X [st] (tDS X.K t) := pss_one h
theorem ds_pass : PS X (.Pass pos) (tDS X.K wNext) := PS.imp ps_pass fun D σ H ⟨R, ρ, μ, E, a, w, k⟩ => k.nx ρ μ σ H w a (Same.refl _)
theorem ds_break : PS X (.Break pos) (tDS X.K wBrk) := PS.imp ps_break fun D σ H ⟨R, ρ, μ, E, a, w, k⟩ => k.bk ρ μ σ H w a (Same.refl _)
theorem ds_continue : PS X (.Continue pos) (tDS X.K wCnt) := PS.imp ps_continue fun D σ H ⟨R, ρ, μ, E, a, w, k⟩ => k.ct ρ μ σ H w a (Same.refl _)
theorem asg_imp {K : PySem.W.Frag} : ∀ D σ H, tDS K (wAsg w g) D σ H → tAsg (tD K w) (tDG K sl g) D σ H := fun D σ H ⟨R, ρ, μ, E, a, w, k⟩ =>
  ⟨R, ρ, μ, _, a, w, fun d μ1 v H1 p1 o1 s1 i1 => ⟨R, ρ, μ1, d, _, a.step o1 s1, i1, p1, fun ρ' σ' p2 sl2 _ => k.nx ρ' μ1 σ' H1 p2 ⟨o1, sl2⟩ s1⟩⟩
theorem ds_asg (he : PE X e (tD X.K w)) (hg : PG X tg (tDG X.K sl g)) (hs : swapsWithSole [tg] e pos.line X.env = pure false := by rfl) (hw : swappedStores [tg] e X.env = pure none := by rfl) (h1 : (assignEach [tg] X.env).map (·.2) = [assign tg X.env] := by rfl) : PS X (.Assign [tg] e pos) (tDS X.K (wAsg w g)) :=
  PS.imp (ps_asg he hg hs hw h1) asg_imp
theorem ds_set {i : Nat} {x : Str} {pos' : Pos} (hN : X.N.Nodup) (hi : X.N[i]? = some x) (hx : Loc X.env.scope x) (he : PE X e (tD X.K w)) (hs : swapsWith e (some (.Name x pos')) pos.line X.env = pure false := by rfl)
    (hf : X.fn x = true ∨ X.env.scope.names.lookup x = some .local := by first | exact .inl rfl | exact .inr rfl | assumption) : PS X (.Assign [.Name x pos'] e pos) (tDS X.K (wAsg w (wgName i))) :=
  PS.imp (ps_set hN hi hx he hs hf) fun D σ H ⟨R, ρ, μ, E, a, w, k⟩ => ⟨R, ρ, μ, _, a, w, fun d μ1 v H1 p1 o1 s1 i1 => k.nx _ μ1 _ H1 p1 ⟨o1, (a.sl.mono s1).set i i1⟩ s1⟩
theorem ds_par {i j : Nat} {x y : Str} {a b : Expr} {wa : WA} {px py pt : Pos} {kt k2 pt2} (hN : X.N.Nodup) (hi : X.N[i]? = some x) (hj : X.N[j]? = some y) (hij : i ≠ j) (hx : X.env.scope.names.lookup x = some .local) (hy : X.env.scope.names.lookup y = some .local) (ha : PA X [a, b] (tDA X.K wa))
    (hw : swappedStores [.Tuple [.Name x px, .Name y py] kt pt] (.Tuple [a, b] k2 pt2) X.env = pure (some [x, y])) (hc : X.calm = true := by rfl) (hs : swapsWithSole [.Tuple [.Name x px, .Name y py] kt pt] (.Tuple [a, b] k2 pt2) pos.line X.env = pure false := by rfl) :
    PS X (.Assign [.Tuple [.Name x px, .Name y py] kt pt] (.Tuple [a, b] k2 pt2) pos) (tDS X.K (wPar i j wa)) :=
  PS.imp (ps_par hc hN hi hj hij hx hy ha hw hs) fun D σ H ⟨R, ρ, μ, E, a, w, k⟩ => ⟨R, ρ, μ, _, a, w, fun ds μ1 vs H1 p1 o1 s1 i1 => by
    cases i1 with
    | nil => exact (show False from p1).elim
    | cons i1 r => cases r with
      | nil => exact (show False from p1).elim
      | cons i2 r => cases r with
        | nil => exact ⟨_, _, rfl, k.nx _ μ1 _ H1 p1 ⟨o1, ((a.sl.mono s1).set i i1).set j i2⟩ s1⟩
        | cons _ _ => exact (show False from p1).elim⟩
theorem ds_expr (he : PE X e (tD X.K w)) (hs : swapsWith e none pos.line X.env = pure false := by rfl) : PS X (.Expr e pos) (tDS X.K (wDrop w)) :=
  PS.imp (ps_expr he hs) fun D σ H ⟨R, ρ, μ, E, a, w, k⟩ => ⟨R, ρ, μ, _, a, w, fun d μ1 v H1 p1 o1 s1 i1 => k.nx ρ μ1 σ H1 p1 (a.step o1 s1) s1⟩
theorem ds_ret (he : PE X e (tD X.K w)) : PS X (.Return (some e) pos) (tDS X.K (wRet w)) :=
  PS.imp (ps_ret he) fun D σ H ⟨R, ρ, μ, E, a, w, k⟩ => ⟨R, ρ, μ, _, a, w, k.rt⟩
theorem ds_retN : PS X (.Return none pos) (tDS X.K wRetN) := PS.imp ps_retN fun D σ H ⟨R, ρ, μ, E, a, w, k⟩ => k.rt _ μ _ H w a.ok (Same.refl _) .none
theorem ds_if {c : Expr} {tc : WT} (hc : PT X c (tDT X.K tc)) (ha : PSs X sa (tDS X.K t)) (hb : PSs X sb (tDS X.K u)) : PS X (.If c sa sb pos) (tDS X.K (wIfS tc t u)) :=
  PS.imp (ps_if hc ha hb) fun D σ H ⟨R, ρ, μ, E, a, w, k⟩ => ⟨R, ρ, μ, _, a, w, fun b μ1 H1 p1 o1 s1 => by
    cases b with
    | true => exact iteT ⟨R, ρ, μ1, E, a.step o1 s1, p1, k.step s1⟩
    | false => exact iteF ⟨R, ρ, μ1, E, a.step o1 s1, p1, k.step s1⟩⟩

/-! ### loops -/
def forW (g : WG) (b : WS) (E : DEnds) : List DV → Rho → Mh → Prop
  | [], ρ, μ => E.nx ρ μ
  | x :: xs, ρ, μ => g x ρ fun ρ1 => b { nx := forW g b E xs, rt := E.rt, bk := E.nx, ct := forW g b E xs } ρ1 μ
def wFor (ws : WI) (g : WG) (b : WS) : WS := fun E ρ μ => ws ρ μ fun xs μ1 => forW g b E xs ρ μ1
theorem drop_at {α : Type} {xs : List α} {i : Nat} {d : α} (h : xs[i]? = some d) : xs.drop i = d :: xs.drop (i + 1) := by
  obtain ⟨hi, e⟩ := List.getElem?_eq_some_iff.mp h
  rw [List.drop_eq_getElem_cons hi, e]
theorem ds_for {iter : Expr} {body : List Stmt} {ws : WI} {b : WS} (hi : PI X tg iter (tDI X.K ws)) (hg : PG X tg (tDG X.K sl g)) (hb : PSs X body (tDS X.K b)) (hp : PassesOwn (model X.prog X.w) X.A X.env X.xe := by exact PassesOwn.never) (hc : X.calm = true := by rfl)
    (hs : ∀ x, foldedSetIterable iter X.env x = pure x := by intro _; rfl) : PS X (.For tg iter body [] pos) (tDS X.K (wFor ws g b)) :=
  PS.imp (ps_for hp hc hi hg hb hs) fun D σ H ⟨R, ρ, μ, E, a, w, k⟩ => ⟨R, ρ, μ, _, a, w, fun xs μ1 H1 J p1 o1 s1 it => by
    refine ⟨fun i m σ' H' => m = xs.length - i ∧ i ≤ xs.length ∧ ∃ ρ' μ', At X.K R σ' ρ' μ' H' ∧ Same (hid R μ1 H1) (hid R μ' H') ∧ forW g b E (xs.drop i) ρ' μ', ⟨_, rfl, Nat.zero_le _, ρ, μ1, a.step o1 s1, Same.refl _, p1⟩, ?_⟩
    rintro i m σ2 H2 ⟨rfl, hi, ρ2, μ2, a2, s2, w2⟩
    by_cases hlt : i < xs.length
    · refine .inr ⟨it.go R μ2 H2 i a2.ok s2 hlt, fun σ' H' => ∃ ρ' μ', At X.K R σ' ρ' μ' H' ∧ Same (hid R μ1 H1) (hid R μ' H') ∧ forW g b E (xs.drop (i + 1)) ρ' μ', fun σ' H' ⟨ρ', μ', a', s', w'⟩ => ⟨_, ?_, rfl, hlt, ρ', μ', a', s', w'⟩, fun x H3 y => ?_⟩
      · omega
      · obtain ⟨d, hd, o3, s3, r3⟩ := it.yld R μ2 H2 i x H3 a2.ok s2 y hlt
        rw [drop_at hd] at w2
        refine ⟨R, ρ2, μ2, d, _, a2.step o3 s3, r3, w2, fun ρ4 σ4 w4 sl4 _ => ⟨R, ρ4, μ2, _, ⟨o3, sl4⟩, w4, ⟨fun ρ5 μ5 σ5 H5 p5 a5 s5 => ⟨ρ5, μ5, a5, (s2.trans s3).trans s5, p5⟩, ?_, ?_, fun ρ5 μ5 σ5 H5 p5 a5 s5 => ⟨ρ5, μ5, a5, (s2.trans s3).trans s5, p5⟩⟩⟩⟩
        · exact k.rt.step ((s1.trans s2).trans s3)
        · exact k.nx.step ((s1.trans s2).trans s3)
    · have e : i = xs.length := by omega
      subst e
      rw [List.drop_length] at w2
      exact .inl ⟨it.stop R μ2 H2 _ a2.ok s2 (Nat.le_refl _), k.nx ρ2 μ2 σ2 H2 w2 a2 (s1.trans s2)⟩⟩
def wWhile (c : WT) (b : WS) : WS := fun E ρ μ => ∃ W : Nat → Rho → Mh → Prop, (∃ m, W m ρ μ) ∧ ∀ m ρ μ, W m ρ μ → c ρ μ fun z μ1 => match z with
  | true => b { nx := fun ρ' μ' => ∃ m', m' < m ∧ W m' ρ' μ', rt := E.rt, bk := E.nx, ct := fun ρ' μ' => ∃ m', m' < m ∧ W m' ρ' μ' } ρ μ1
  | false => E.nx ρ μ1
theorem ds_while {c : Expr} {body : List Stmt} {tc : WT} {b : WS} (hc : PT X c (tDT X.K tc)) (hb : PSs X body (tDS X.K b)) (hp : PassesOwn (model X.prog X.w) X.A X.env X.xe := by exact PassesOwn.never) : PS X (.While c body [] pos) (tDS X.K (wWhile tc b)) :=
  PS.imp (ps_while hp hc hb) fun D σ H ⟨R, ρ, μ, E, a, ⟨W, ⟨m0, w0⟩, w⟩, k⟩ => by
    refine ⟨fun m σ' H' => ∃ ρ' μ', At X.K R σ' ρ' μ' H' ∧ Same (hid R μ H) (hid R μ' H') ∧ W m ρ' μ', ⟨m0, ρ, μ, a, Same.refl _, w0⟩, ?_⟩
    rintro m σ1 H1 ⟨ρ1, μ1, a1, s1, w1⟩
    refine ⟨R, ρ1, μ1, _, a1, w m ρ1 μ1 w1, fun z μ2 H2 p2 o2 s2 => ?_⟩
    cases z with
    | true =>
      refine ⟨fun σ' H' => ∃ m', m' < m ∧ ∃ ρ' μ', At X.K R σ' ρ' μ' H' ∧ Same (hid R μ H) (hid R μ' H') ∧ W m' ρ' μ', fun σ' H' h => h, R, ρ1, μ2, _, a1.step o2 s2, p2, ⟨?_, k.rt.step (s1.trans s2), k.nx.step (s1.trans s2), ?_⟩⟩
      · rintro ρ3 μ3 σ3 H3 ⟨m', hm, w3⟩ a3 s3
        exact ⟨m', hm, ρ3, μ3, a3, (s1.trans s2).trans s3, w3⟩
      · rintro ρ3 μ3 σ3 H3 ⟨m', hm, w3⟩ a3 s3
        exact ⟨m', hm, ρ3, μ3, a3, (s1.trans s2).trans s3, w3⟩
    | false => exact k.nx ρ1 μ2 σ1 H2 p2 (a1.step o2 s2) (s1.trans s2)
end

/-! ### comprehensions -/
def compW (g : WG) (t : WT) (e : WE) (ρ : Rho) : List DV → List DV → Mh → (List DV → Mh → Prop) → Prop
  | [], acc, μ, P => P acc μ
  | x :: xs, acc, μ, P => g x ρ fun ρ1 => t ρ1 μ fun b μ1 => match b with
    | true => e ρ1 μ1 fun y μ2 => acc.length < sizeLine ∧ compW g t e ρ xs (acc ++ [y]) μ2 P
    | false => compW g t e ρ xs acc μ1 P
def wLc (ws : WI) (g : WG) (t : WT) (e : WE) (vs : List Nat) : WE := fun ρ μ P => ws ρ μ fun xs μ1 => compW g t e (wipeD ρ vs) xs [] μ1 fun acc μ2 => P (.lst acc) μ2
section
variable {K : PySem.W.Frag} {R : Hp} {μ μ' : Mh} {H H' : Hp} {D : Addr} {o o' : HO}
/-- a thing set aside -/
theorem Ok.frame (k : Ok K R μ H) (n : H D = none) : Ok K (upd R D o) μ (upd H D o) ∧ hid (upd R D o) μ (upd H D o) = hid R μ H := by
  have k2 := k.new (o := o) n
  have e : hid (upd R D o) μ (upd H D o) = hid R μ H := by
    funext b
    by_cases z : b = D
    · subst z
      have h1 : hid (upd R b o) μ (upd H b o) b = none := by
        unfold hid
        rw [if_neg fun q => by rw [upd_same] at q; exact Bool.false_ne_true q.1]
      have h2 : hid R μ H b = none := by
        unfold hid
        rw [n]
        split <;> rfl
      rw [h1, h2]
    · unfold hid
      rw [upd_ne z, upd_ne z]
  refine ⟨⟨fun a u h => ?_, fun a u h => ?_, fun a u h => ?_⟩, e⟩
  · by_cases z : a = D
    · subst z
      rw [upd_same] at h ⊢
      exact h
    · rw [upd_ne z] at h ⊢
      exact k.fr a u h
  · by_cases z : a = D
    · subst z
      exact k.freeM n
    · rw [upd_ne z] at h
      exact k.dj a u h
  · have := k2.ob a u h
    rw [e]
    refine MOk.mono ?_ rfl (fun _ _ => rfl) h (fun _ q => q) ?_ (Hm := hid R μ H) (μ := μ) (H := upd H D o)
    · exact Same.refl _
    · have ne : ∀ {b u}, H b = some u → b ≠ D := fun q z => by subst z; rw [n] at q; cases q
      obtain ⟨w, hw⟩ := (k.ob a u h).here
      refine (k.ob a u h).mono (Same.refl _) (upd_ne (ne hw)) (fun b hb => ?_) h (fun _ z => z)
      rw [h] at hb
      cases u with
      | ext near φ =>
        obtain ⟨_, _, hn, _⟩ := k.ob a _ h
        obtain ⟨v, hv⟩ := (k.ob b _ (hn b hb)).here
        exact upd_ne (ne hv)
      | _ => cases hb
/-- what was set aside changes -/
theorem Ok.reframe (k : Ok K (upd R D o) μ H) : Ok K (upd R D o') μ (upd H D o') ∧ hid (upd R D o') μ (upd H D o') = hid (upd R D o) μ H := by
  have hm : μ D = none := k.dj D o upd_same
  have hH : H D = some o := k.fr D o upd_same
  have e : hid (upd R D o') μ (upd H D o') = hid (upd R D o) μ H := by
    funext b
    by_cases z : b = D
    · subst z
      have h1 : ∀ (u : HO) (G : Hp), hid (upd R b u) μ G b = none := fun u G => by
        unfold hid
        rw [if_neg fun q => by rw [upd_same] at q; exact Bool.false_ne_true q.1]
      rw [h1, h1]
    · unfold hid
      rw [upd_ne z, upd_ne z, upd_ne z]
  refine ⟨⟨fun a u h => ?_, fun a u h => ?_, fun a u h => ?_⟩, e⟩
  · by_cases z : a = D
    · subst z
      rw [upd_same] at h ⊢
      exact h
    · rw [upd_ne z] at h ⊢
      exact k.fr a u (by rw [upd_ne z]; exact h)
  · by_cases z : a = D
    · subst z
      exact hm
    · rw [upd_ne z] at h
      exact k.dj a u (by rw [upd_ne z]; exact h)
  · rw [e]
    have ne : ∀ {b m}, μ b = some m → b ≠ D := fun q z => by subst z; rw [hm] at q; cases q
    refine (k.ob a u h).mono (Same.refl _) (upd_ne (ne h)) (fun b hb => ?_) h (fun _ z => z)
    rw [h] at hb
    cases u with
    | ext near φ =>
      obtain ⟨_, _, hn, _⟩ := k.ob a _ h
      exact upd_ne (ne (hn b hb))
    | _ => cases hb
/-- what was set aside is let go -/
theorem Ok.unframe (k : Ok K (upd R D o) μ H) (n : R D = none) : Ok K R μ H ∧ Same (hid (upd R D o) μ H) (hid R μ H) ∧ hid R μ H D = some o := by
  have hm : μ D = none := k.dj D o upd_same
  have hH : H D = some o := k.fr D o upd_same
  have s : Same (hid (upd R D o) μ H) (hid R μ H) := fun b u h => by
    obtain ⟨e1, e2, e3⟩ := hid_some h
    by_cases z : b = D
    · subst z
      rw [upd_same] at e1
      cases e1
    · rw [upd_ne z] at e1
      rw [hid_at e1 e2]
      exact e3
  refine ⟨⟨fun a u h => ?_, fun a u h => ?_, fun a u h => (k.ob a u h).mono s rfl (fun _ _ => rfl) h (fun _ z => z)⟩, s, by rw [hid_at n hm]; exact hH⟩
  · refine k.fr a u ?_
    rw [upd_ne (fun z => by subst z; rw [n] at h; cases h)]
    exact h
  · refine k.dj a u ?_
    rw [upd_ne (fun z => by subst z; rw [n] at h; cases h)]
    exact h
end
section
variable {X : Cx} {elt tg iter : Expr} {ifs : List Expr} {scope : Scope} {own : List (Str × Nat)} {pos : Pos} {ws : WI} {g : WG} {t : WT} {e : WE} {sl : List Nat}
theorem lc_imp {K : PySem.W.Frag} {vs : List Nat} (hv : ∀ i ∈ sl, i ∈ vs) : ∀ σ H Q, tD K (wLc ws g t e vs) σ H Q → tLc (tDI K ws) (tDG K sl g) (tDT K t) (tD K e) vs σ H Q := fun σ H Q ⟨R, ρ, μ, P, a, w, k⟩ =>
  ⟨R, ρ, μ, _, a, w, fun xs μ1 H1 J p1 o1 s1 it => fun D n => by
    have rn := o1.freeR n
    refine ⟨fun i m H' => m = xs.length - i ∧ i ≤ xs.length ∧ ∃ μ' acc accV, Ok K (upd R D (.lst accV)) μ' H' ∧ Same (hid R μ1 H1) (hid (upd R D (.lst accV)) μ' H') ∧ Iss K (hid (upd R D (.lst accV)) μ' H') accV acc ∧
      compW g t e (wipeD ρ vs) (xs.drop i) acc μ' fun acc μ2 => P (.lst acc) μ2, ?_, ?_⟩
    · obtain ⟨o2, e2⟩ := o1.frame (o := .lst []) n
      exact ⟨_, rfl, Nat.zero_le _, μ1, [], [], o2, by rw [e2]; exact Same.refl _, .nil, p1⟩
    rintro i m H2 ⟨rfl, hi, μ2, acc, accV, o2, s2, r2, w2⟩
    by_cases hlt : i < xs.length
    · refine .inr ⟨it.go _ μ2 H2 i o2 s2 hlt, fun H' => ∃ μ' acc accV, Ok K (upd R D (.lst accV)) μ' H' ∧ Same (hid R μ1 H1) (hid (upd R D (.lst accV)) μ' H') ∧ Iss K (hid (upd R D (.lst accV)) μ' H') accV acc ∧
        compW g t e (wipeD ρ vs) (xs.drop (i + 1)) acc μ' fun acc μ2 => P (.lst acc) μ2, fun H' ⟨μ', acc', accV', o', s', r', w'⟩ => ⟨_, ?_, rfl, hlt, μ', acc', accV', o', s', r', w'⟩, fun x H3 y => ?_⟩
      · omega
      · obtain ⟨d, hd, o3, s3, r3⟩ := it.yld _ μ2 H2 i x H3 o2 s2 y hlt
        rw [drop_at hd] at w2
        have sl3 : Sl K (hid (upd R D (.lst accV)) μ2 H3) (wipe σ vs) (wipeD ρ vs) := (a.sl.mono ((s1.trans s2).trans s3)).wipe vs
        refine ⟨_, wipeD ρ vs, μ2, d, _, ⟨o3, sl3⟩, r3, w2, fun ρ4 σ4 w4 sl4 ww => ⟨by rw [ww vs hv, wipe_wipe], _, ρ4, μ2, _, ⟨o3, sl4⟩, w4, fun b μ5 H5 p5 o5 s5 => ?_⟩⟩
        cases b with
        | false => exact iteF ⟨μ5, acc, accV, o5, (s2.trans s3).trans s5, r2.mono (s3.trans s5), p5⟩
        | true =>
          refine iteT ⟨_, ρ4, μ5, _, ⟨o5, sl4.mono s5⟩, p5, fun y μ6 v H6 p6 o6 s6 r6 => ⟨accV, o6.fr D _ upd_same, ?_, ?_⟩⟩
          · rw [r2.length]
            exact p6.1
          · obtain ⟨o7, e7⟩ := o6.reframe (o' := .lst (accV ++ [v]))
            refine ⟨μ6, acc ++ [y], accV ++ [v], o7, ?_, ?_, p6.2⟩
            · rw [e7]
              exact ((s2.trans s3).trans s5).trans s6
            · rw [e7]
              exact (r2.mono ((s3.trans s5).trans s6)).append (.cons r6 .nil)
    · have e' : i = xs.length := by omega
      subst e'
      rw [List.drop_length] at w2
      obtain ⟨o4, s4, h4⟩ := o2.unframe rn
      exact .inl ⟨it.stop _ μ2 H2 _ o2 s2 (Nat.le_refl _), k _ μ2 _ H2 w2 o4 (s1.trans (s2.trans s4)) (.lst h4 (r2.mono s4))⟩⟩
def wYes : WT := fun _ μ P => P true μ
theorem PTs.imp {X : Cx} {es : List Expr} {t t' : TT} (h : PTs X es t) (i : ∀ σ H Q, t' σ H Q → t σ H Q) : PTs X es t' := ⟨fun pins s σ H Q I w => h.run pins s σ H Q I (i _ _ _ w)⟩
theorem dts_nil : PTs X [] (tDT X.K wYes) := PTs.imp pts_nil fun σ H Q ⟨R, ρ, μ, P, a, w, k⟩ => k true μ H w a.ok (Same.refl _)
theorem dts_one {c : Expr} {t : WT} (h : PT X c (tDT X.K t)) : PTs X [c] (tDT X.K t) := pts_one h
theorem d_lc (hi : PI X tg iter (tDI X.K ws)) (ok : BlkOk X.N X.env.scope scope own)
    (hg : ∀ (s : Shared) (H : Hp) (C : Addr) (cl : List (Str × Addr)) (fp : List Addr), PG (X.blk s H scope (compEnvC scope cl C X.env) fp) tg (tDG X.K sl g)) (ht : ∀ (s : Shared) (H : Hp) (C : Addr) (cl : List (Str × Addr)) (fp : List Addr), PTs (X.blk s H scope (compEnvC scope cl C X.env) fp) ifs (tDT X.K t))
    (he : ∀ (s : Shared) (H : Hp) (C : Addr) (cl : List (Str × Addr)) (fp : List Addr), PE (X.blk s H scope (compEnvC scope cl C X.env) fp) elt (tD X.K e)) (hN : X.N.Nodup) (hv : ∀ i ∈ sl, i ∈ own.map (·.2) := by decide) (hc : X.calm = true := by rfl) (hs : ∀ x, foldedSetIterable iter X.env x = pure x := by intro _; rfl) :
    PE X (.ListComp elt [⟨tg, iter, ifs, 0⟩] scope pos) (tD X.K (wLc ws g t e (own.map (·.2)))) := PE.imp (pe_lc hc hN hi ok hg ht he hs) (lc_imp hv)
theorem ds_setLc {i : Nat} {y : Str} {py spos : Pos} (hy : X.N[i]? = some y) (hyl : X.env.scope.names.lookup y = some .local) (hsw : swapsWith (.ListComp elt [⟨tg, iter, ifs, 0⟩] scope pos) (some (.Name y py)) spos.line X.env = pure true) (hi : PI X tg iter (tDI X.K ws)) (ok : BlkOk X.N X.env.scope scope own)
    (hg : ∀ (s : Shared) (H : Hp) (C : Addr) (cl : List (Str × Addr)) (fp : List Addr), PG (X.blk s H scope (compEnvC scope cl C X.env) fp) tg (tDG X.K sl g)) (ht : ∀ (s : Shared) (H : Hp) (C : Addr) (cl : List (Str × Addr)) (fp : List Addr), PTs (X.blk s H scope (compEnvC scope cl C X.env) fp) ifs (tDT X.K t))
    (he : ∀ (s : Shared) (H : Hp) (C : Addr) (cl : List (Str × Addr)) (fp : List Addr), PE (X.blk s H scope (compEnvC scope cl C X.env) fp) elt (tD X.K e)) (hN : X.N.Nodup) (hv : ∀ i ∈ sl, i ∈ own.map (·.2) := by decide) (hc : X.calm = true := by rfl) (hs : ∀ x, foldedSetIterable iter X.env x = pure x := by intro _; rfl) :
    PS X (.Assign [.Name y py] (.ListComp elt [⟨tg, iter, ifs, 0⟩] scope pos) spos) (tDS X.K (wAsg (wLc ws g t e (own.map (·.2))) (wgName i))) :=
  PS.imp (ps_setLc hc hN hy hyl hsw hi ok hg ht he hs) fun D σ H ⟨R, ρ, μ, E, a, w, k⟩ => lc_imp hv σ H _ ⟨R, ρ, μ, _, a, w, fun d μ1 v H1 p1 o1 s1 i1 => k.nx _ μ1 _ H1 p1 ⟨o1, (a.sl.mono s1).set i i1⟩ s1⟩
end

/-! ### defs and their calls -/
section
variable {P : Program} {w0 : World} {K : PySem.W.Frag} {mg : Str → Option Value} {base : Heap}
theorem fn_dat {x qual : Str} {st : Stmt} {f : Addr} {fd : FuncData} {N ps : List Str} {k n : Nat} {w : WS} {wf : WF} (F : Fun K x qual st f fd) (S : FnScope N ps (defScope st)) (hn : ps.length = n)
    (hb : ∀ (cdv : Value) (A : Around) (outer : List Env) (s : Shared) (H : Hp) (E : XK), A.guards = some [] → Room k (A.deeper (envOfC qual (defScope st) s.heap.objs.size f cdv)) →
      PSs (cxOf CX0 P w0 K mg base N qual (defScope st) f cdv A outer s H E).nox (defBody st) (tDS K w))
    (hw : ∀ ds μ Q, ds.length = n → wf ds μ Q → w { nx := fun _ μ' => Q .none μ', rt := Q } (ds.map some ++ List.replicate (N.length - n) none) μ) : FnG P w0 K mg base (k + 1) f fd ps (spD K n wf) := by
  refine fng_of F S (fun vs H Q E h => ?_) (fun cdv A outer s H vs Q E hgd hr h => ?_)
  · obtain ⟨R, ds, μ, P', o, r, l, _⟩ := h
    rw [r.length, l, hn]
  · obtain ⟨R, ds, μ, P', o, r, l, w1, k1⟩ := h
    refine ⟨_, hb cdv A outer s H E hgd hr, R, _, μ, _, ⟨o, ?_⟩, hw ds μ P' l w1, ⟨fun ρ' μ' σ' H' p a' s' => ?_, k1, fun _ _ _ _ p => p.elim, fun _ _ _ _ p => p.elim⟩⟩
    · rw [← l]
      exact Sl.start r
    · exact k1 .none μ' .non H' p a'.ok s' .none
end
section
variable {X : Cx} {k n : Nat} {f : Addr} {fd : FuncData} {ps : List Str} {wf : WF} {x : Str} {p pos : Pos} {e : Expr} {es : List Expr} {wa wk : WA}
def wCall (n : Nat) (wf : WF) (wa : WA) : WE := fun ρ μ P => wa ρ μ fun ds μ1 => ds.length = n ∧ wf ds μ1 P
def wCallD (n : Nat) (wf : WF) (dds : List DV) (wa : WA) : WE := fun ρ μ P => wa ρ μ fun ds μ1 => (ds ++ dds).length = n ∧ wf (ds ++ dds) μ1 P
theorem call_imp {K : PySem.W.Frag} {dvs : List V} {dds : List DV} (hd : ∀ H, Iss K H dvs dds) : ∀ σ H Q, tD K (wCallD n wf dds wa) σ H Q → tCall (spD K n wf) dvs E0 (tDA K wa) σ H Q := fun σ H Q ⟨R, ρ, μ, P, a, w, k⟩ =>
  ⟨R, ρ, μ, _, a, w, fun ds μ1 vs H1 p1 o1 s1 i1 => ⟨R, ds ++ dds, μ1, P, o1, i1.append (hd _), p1.1, p1.2, k.step s1⟩⟩
/-- with the defaults of the last parameters -/
theorem d_callD {dvs : List V} {us : List Value} {dds : List DV} (hd : ∀ H, Iss X.K H dvs dds) (F : FnG X.prog X.w X.K X.mg X.base k f fd ps (spD X.K n wf)) (hgd : X.A.guards = some []) (hr : Room k X.A) (hg : Gl X x) (hm : X.mg x = some (.ref f)) (hk : PySem.W.keepIn X.K (.ref f) = true) (hb : Binds X.K fd ps us) (hv : Vals dvs us) (ha : PA X (e :: es) (tDA X.K wa))
    (hdb : (x == ("__debug__" : Str)) = false := by decide) (he : starEach (e :: es) X.env = (false, eval e X.env) :: starEach es X.env := by rfl) (hpl : (backTo pos (starEach es X.env)).any (·.1) = false := by rfl) :
    PE X (.Call (.Name x p) (e :: es) [] pos) (tD X.K (wCallD n wf dds wa)) :=
  PE.imp (peg_call F hgd hr hg hm hk hb hv ha hdb he hpl) (call_imp hd)
theorem d_call (F : FnG X.prog X.w X.K X.mg X.base k f fd ps (spD X.K n wf)) (hgd : X.A.guards = some []) (hr : Room k X.A) (hg : Gl X x) (hm : X.mg x = some (.ref f)) (hk : PySem.W.keepIn X.K (.ref f) = true) (hb : Binds X.K fd ps []) (ha : PA X (e :: es) (tDA X.K wa)) (hd : (x == ("__debug__" : Str)) = false := by decide)
    (he : starEach (e :: es) X.env = (false, eval e X.env) :: starEach es X.env := by rfl) (hpl : (backTo pos (starEach es X.env)).any (·.1) = false := by rfl) : PE X (.Call (.Name x p) (e :: es) [] pos) (tD X.K (wCall n wf wa)) :=
  PE.imp (d_callD (dvs := []) (dds := []) (fun _ => .nil) F hgd hr hg hm hk hb .nil ha hd he hpl) fun σ H Q ⟨R, ρ, μ, P, a, w, k⟩ => ⟨R, ρ, μ, P, a, by simpa [wCall, wCallD] using w, k⟩
theorem d_call0 (F : FnG X.prog X.w X.K X.mg X.base k f fd ps (spD X.K n wf)) (hgd : X.A.guards = some []) (hr : Room k X.A) (hg : Gl X x) (hm : X.mg x = some (.ref f)) (hk : PySem.W.keepIn X.K (.ref f) = true) (hb : Binds X.K fd ps []) (hd : (x == ("__debug__" : Str)) = false := by decide) : PE X (.Call (.Name x p) [] [] pos) (tD X.K (wCall n wf wNil)) :=
  PE.imp (peg_call0 (E := E0) F hgd hr hg hm hk hb .nil hd) fun σ H Q ⟨R, ρ, μ, P, a, w, k⟩ => ⟨R, [], μ, P, a.ok, .nil, w.1, w.2, k⟩
/-- keywords alone: gD puts them in the parameters' order -/
def wCallK (n : Nat) (wf : WF) (gD : List DV → List DV) (wk : WA) : WE := fun ρ μ P => wk ρ μ fun ds μ1 => (gD ds).length = n ∧ wf (gD ds) μ1 P
theorem d_callK0 {ks : List Str} {kws : List Keyword} {g : List Value → List Value → List Value} {gV : List V → List V → List V} (gD : List DV → List DV) (hg' : ∀ (K : PySem.W.Frag) (H : Hp) (vs : List V) (ds : List DV), Iss K H vs ds → Iss K H (gV [] vs) (gD ds))
    (F : FnG X.prog X.w X.K X.mg X.base k f fd ps (spD X.K n wf)) (hgd : X.A.guards = some []) (hr : Room k X.A) (hg : Gl X x) (hm : X.mg x = some (.ref f)) (hk : PySem.W.keepIn X.K (.ref f) = true) (hb : KBinds X.K fd ps ks g gV) (hkw : PK X kws (tDA X.K wk))
    (hall : (backToKw pos (keywordEach kws X.env)).all (·.1.isSome) = true := by rfl) (hks : (backToKw pos (keywordEach kws X.env)).filterMap (·.1) = ks := by rfl) (hdb : (x == ("__debug__" : Str)) = false := by decide)
    (hpl : ((backTo pos (starEach [] X.env)).any (·.1) || (backToKw pos (keywordEach kws X.env)).any (·.1.isNone)) = false := by rfl) : PE X (.Call (.Name x p) [] kws pos) (tD X.K (wCallK n wf gD wk)) :=
  PE.imp (peg_callK0 (E := E0) F hgd hr hg hm hk hb hkw hall hks hdb hpl) fun σ H Q ⟨R, ρ, μ, P, a, w, k⟩ => ⟨R, ρ, μ, _, a, w, fun ds μ1 vs H1 p1 o1 s1 i1 => ⟨R, gD ds, μ1, P, o1, hg' _ _ _ _ i1, p1.1, p1.2, k.step s1⟩⟩
end
end Dz

set_option Elab.async false
set_option linter.all false
set_option maxRecDepth 100000
set_option maxHeartbeats 4000000
/-! Dz5: calls of built-ins over data: len, isinstance, repr, abs, all, tuple, list, int, str, join; displays of dicts. -/
namespace Dz
open PySem L2
abbrev WB := List DV → Mh → (DV → Mh → Prop) → Prop
def RAD (K : PySem.W.Frag) (r : List V → Hp → VK → Prop) (w : WB) : Prop := ∀ R μ H vs ds P Q, Ok K R μ H → Iss K (hid R μ H) vs ds → w ds μ P → Nxt K R μ H P Q → r vs H Q
def wB (wb : WB) (wa : WA) : WE := fun ρ μ P => wa ρ μ fun ds μ1 => wb ds μ1 P
section
variable {X : Cx} {x : Str} {p pos : Pos} {e : Expr} {es : List Expr} {wa : WA} {id T : String} {r : List V → Hp → VK → Prop} {wb : WB} {w : WE}
theorem cb_imp {K : PySem.W.Frag} (hr : RAD K r wb) : ∀ σ H Q, tD K (wB wb wa) σ H Q → tCB r (tDA K wa) σ H Q := fun σ H Q ⟨R, ρ, μ, P, a, w, k⟩ =>
  ⟨R, ρ, μ, _, a, w, fun ds μ1 vs H1 p1 o1 s1 i1 => hr R μ1 H1 vs ds P Q o1 i1 p1 (k.step s1)⟩
theorem d_callB (hc : CallR X (.builtin id) r) (hr : RAD X.K r wb) (hg : Gl X x) (hm : X.mg x = none) (hv : bootBuiltins x = some (.builtin id)) (ha : PA X (e :: es) (tDA X.K wa)) (hn : x ≠ "__name__" := by decide) (hdb : (x == ("__debug__" : Str)) = false := by decide)
    (he : starEach (e :: es) X.env = (false, eval e X.env) :: starEach es X.env := by rfl) (hpl : (backTo pos (starEach es X.env)).any (·.1) = false := by rfl) : PE X (.Call (.Name x p) (e :: es) [] pos) (tD X.K (wB wb wa)) :=
  PE.imp (pe_callB hc hg hm hv ha hn hdb he hpl) (cb_imp hr)
theorem d_callTy (hc : CallR X (.type T) r) (hr : RAD X.K r wb) (hg : Gl X x) (hm : X.mg x = none) (hv : bootBuiltins x = some (.type T)) (ha : PA X (e :: es) (tDA X.K wa)) (hn : x ≠ "__name__" := by decide) (hdb : (x == ("__debug__" : Str)) = false := by decide)
    (he : starEach (e :: es) X.env = (false, eval e X.env) :: starEach es X.env := by rfl) (hpl : (backTo pos (starEach es X.env)).any (·.1) = false := by rfl) : PE X (.Call (.Name x p) (e :: es) [] pos) (tD X.K (wB wb wa)) :=
  PE.imp (pe_callTy hc hg hm hv ha hn hdb he hpl) (cb_imp hr)
end

/-! ### len, abs, all, any, tuple, list, int -/
def wLen : WB
  | [.lst ds], μ, P => P (.int (ds.length : Int)) μ
  | [.tup ds], μ, P => P (.int (ds.length : Int)) μ
  | [.str z], μ, P => z.length ≤ sizeLine ∧ P (.int (z.length : Int)) μ
  | [.obj a], μ, P => match μ a with | some (.lst ds) => P (.int (ds.length : Int)) μ | _ => False
  | _, _, _ => False
def wAbs : WB
  | [.int i], μ, P => P (.int (if i < 0 then -i else i)) μ
  | _, _, _ => False
def wAll : WB
  | [.lst ds], μ, P => ∃ bs : List Bool, ds = bs.map DV.bool ∧ P (.bool (bs.all id)) μ
  | _, _, _ => False
def wAny : WB
  | [.lst ds], μ, P => ∃ bs : List Bool, ds = bs.map DV.bool ∧ P (.bool (bs.any id)) μ
  | _, _, _ => False
def wTuple : WB
  | [.lst ds], μ, P => P (.tup ds) μ
  | [.tup ds], μ, P => P (.tup ds) μ
  | [.obj a], μ, P => match μ a with | some (.lst ds) => P (.tup ds) μ | _ => False
  | _, _, _ => False
def wList : WB
  | [.lst ds], μ, P => P (.lst ds) μ
  | [.tup ds], μ, P => P (.lst ds) μ
  | [.obj a], μ, P => match μ a with | some (.lst ds) => P (.lst ds) μ | _ => False
  | _, _, _ => False
def wInt1 : WB
  | [.int i], μ, P => P (.int i) μ
  | [.bool b], μ, P => P (.int (if b then 1 else 0)) μ
  | _, _, _ => False
def wStrI : WB
  | [.int i], μ, P => i.natAbs.log2 < 1920 ∧ P (.str (toString i)) μ
  | _, _, _ => False
def wMax2 : WB
  | [.int i, .int j], μ, P => P (.int (if j > i then j else i)) μ
  | _, _, _ => False
def wMin2 : WB
  | [.int i, .int j], μ, P => P (.int (if j < i then j else i)) μ
  | _, _, _ => False
def wMaxL : WB
  | [.lst ds], μ, P => ∃ ns : List Int, ds = ns.map DV.int ∧ 0 < ns.length ∧ ∀ m, m ∈ ns → (∀ y, y ∈ ns → y ≤ m) → P (.int m) μ
  | _, _, _ => False
def wMinL : WB
  | [.lst ds], μ, P => ∃ ns : List Int, ds = ns.map DV.int ∧ 0 < ns.length ∧ ∀ m, m ∈ ns → (∀ y, y ∈ ns → m ≤ y) → P (.int m) μ
  | _, _, _ => False
section
variable {K : PySem.W.Frag} {X : Cx}
theorem Iss.one {H : Hp} {vs : List V} {d : DV} (h : Iss K H vs [d]) : ∃ v, vs = [v] ∧ Is K H v d := by
  cases h with
  | cons a b => cases b; exact ⟨_, rfl, a⟩
theorem Iss.two {H : Hp} {vs : List V} {d e : DV} (h : Iss K H vs [d, e]) : ∃ v u, vs = [v, u] ∧ Is K H v d ∧ Is K H u e := by
  cases h with
  | cons a b => cases b with
    | cons c d => cases d; exact ⟨_, _, rfl, a, c⟩
theorem len_rd : RAD K (fun xs H Q => ∃ x n, xs = [x] ∧ LenV K x H n ∧ Q (.int n) H) wLen := by
  intro R μ H vs ds P Q o i w k
  match ds, w with
  | [.lst ds], w =>
    obtain ⟨v, rfl, i1⟩ := i.one
    cases i1 with | lst hx rx => exact ⟨_, _, rfl, .inl ⟨_, SqL.of (hid_le _ _ hx), rfl⟩, by rw [rx.length]; exact k.val o w (.int _)⟩
  | [.tup ds], w =>
    obtain ⟨v, rfl, i1⟩ := i.one
    cases i1 with | tup hx rx => exact ⟨_, _, rfl, .inr ⟨_, Same.seqT hid_le hx.t, rfl⟩, by rw [rx.length]; exact k.val o w (.int _)⟩
  | [.str z], w =>
    obtain ⟨v, rfl, i1⟩ := i.one
    cases i1 with | str z => exact ⟨_, _, rfl, ⟨w.1, rfl⟩, k.val o w.2 (.int _)⟩
  | [.obj a], w =>
    obtain ⟨v, rfl, i1⟩ := i.one
    have w' : (match μ a with | some (.lst ds) => P (.int (ds.length : Int)) μ | _ => False) := w
    split at w'
    · rename_i ds e
      obtain ⟨xs, h1, r⟩ := o.ob a _ e
      cases i1
      exact ⟨_, _, rfl, .inl ⟨_, SqL.of h1, rfl⟩, by rw [r.length]; exact k.val o w' (.int _)⟩
    · exact w'.elim
theorem abs_rd : RAD K (fun xs H Q => ∃ i, xs = [.int i] ∧ Q (.int (if i < 0 then -i else i)) H) wAbs := by
  intro R μ H vs ds P Q o i w k
  match ds, w with
  | [.int j], w =>
    obtain ⟨v, rfl, i1⟩ := i.one
    cases i1
    exact ⟨j, rfl, k.val o w (.int _)⟩
theorem bools_of {H : Hp} : ∀ {vs : List V} {bs : List Bool}, Iss K H vs (bs.map DV.bool) → vs = bs.map V.bl
  | _, [], h => by cases h; rfl
  | _, b :: bs, h => by
    cases h with
    | cons a r =>
      cases a
      rw [List.map_cons, bools_of r]
theorem nums_of {H : Hp} : ∀ {vs : List V} {ns : List Int}, Iss K H vs (ns.map DV.int) → vs = ns.map V.int
  | _, [], h => by cases h; rfl
  | _, b :: bs, h => by
    cases h with
    | cons a r =>
      cases a
      rw [List.map_cons, nums_of r]
theorem texts_of {H : Hp} : ∀ {vs : List V} {ns : List Str}, Iss K H vs (ns.map DV.str) → vs = ns.map V.str
  | _, [], h => by cases h; rfl
  | _, b :: bs, h => by
    cases h with
    | cons a r =>
      cases a
      rw [List.map_cons, texts_of r]
theorem texts_is {H : Hp} : ∀ ns : List Str, Iss K H (ns.map V.str) (ns.map DV.str)
  | [] => .nil
  | _ :: ns => .cons (.str _) (texts_is ns)
theorem nums_is {H : Hp} : ∀ ns : List Int, Iss K H (ns.map V.int) (ns.map DV.int)
  | [] => .nil
  | _ :: ns => .cons (.int _) (nums_is ns)
theorem all_rd : RAD K (rAll K) wAll := by
  intro R μ H vs ds P Q o i w k
  match ds, w with
  | [.lst ds], ⟨bs, e, w⟩ =>
    subst e
    obtain ⟨v, rfl, i1⟩ := i.one
    cases i1 with | lst hx rx => exact ⟨_, bs, rfl, by rw [← bools_of rx]; exact SqL.of (hid_le _ _ hx), k.val o w (.bool _)⟩
theorem any_rd : RAD K (rAny K) wAny := by
  intro R μ H vs ds P Q o i w k
  match ds, w with
  | [.lst ds], ⟨bs, e, w⟩ =>
    subst e
    obtain ⟨v, rfl, i1⟩ := i.one
    cases i1 with | lst hx rx => exact ⟨_, bs, rfl, by rw [← bools_of rx]; exact SqL.of (hid_le _ _ hx), k.val o w (.bool _)⟩
theorem tuple_rd : RAD K (fun xs H Q => ∃ p ys, xs = [.ref p] ∧ ((SqL K H p ys ∧ ∀ l o, H l = none → NewT o → Q (.ref l) (upd H l (.frz o (.tup ys)))) ∨ (SqT K H p ys ∧ Q (.ref p) H))) wTuple := by
  intro R μ H vs ds P Q o i w k
  match ds, w with
  | [.lst ds], w =>
    obtain ⟨v, rfl, i1⟩ := i.one
    cases i1 with | lst hx rx => exact ⟨_, _, rfl, .inl ⟨SqL.of (hid_le _ _ hx), fun l t n nt => k.tup nt o w rx n⟩⟩
  | [.tup ds], w =>
    obtain ⟨v, rfl, i1⟩ := i.one
    cases i1 with | tup hx rx => exact ⟨_, _, rfl, .inr ⟨Same.seqT hid_le hx.t, k.val o w (.tup hx rx)⟩⟩
  | [.obj a], w =>
    obtain ⟨v, rfl, i1⟩ := i.one
    have w' : (match μ a with | some (.lst ds) => P (.tup ds) μ | _ => False) := w
    split at w'
    · rename_i ds e
      obtain ⟨xs, h1, r⟩ := o.ob a _ e
      cases i1
      exact ⟨_, _, rfl, .inl ⟨SqL.of h1, fun l t n nt => k.tup nt o w' r n⟩⟩
    · exact w'.elim
theorem list_rd : RAD K (fun xs H Q => ∃ p ys, xs = [.ref p] ∧ (SqL K H p ys ∨ SqT K H p ys) ∧ ∀ l, H l = none → Q (.ref l) (upd H l (.lst ys))) wList := by
  intro R μ H vs ds P Q o i w k
  match ds, w with
  | [.lst ds], w =>
    obtain ⟨v, rfl, i1⟩ := i.one
    cases i1 with | lst hx rx => exact ⟨_, _, rfl, .inl (SqL.of (hid_le _ _ hx)), fun l n => k.lst o w rx n⟩
  | [.tup ds], w =>
    obtain ⟨v, rfl, i1⟩ := i.one
    cases i1 with | tup hx rx => exact ⟨_, _, rfl, .inr (Same.seqT hid_le hx.t), fun l n => k.lst o w rx n⟩
  | [.obj a], w =>
    obtain ⟨v, rfl, i1⟩ := i.one
    have w' : (match μ a with | some (.lst ds) => P (.lst ds) μ | _ => False) := w
    split at w'
    · rename_i ds e
      obtain ⟨xs, h1, r⟩ := o.ob a _ e
      cases i1
      exact ⟨_, _, rfl, .inl (SqL.of h1), fun l n => k.lst o w' r n⟩
    · exact w'.elim
theorem int1_rd : RAD K (fun xs H Q => (∃ i, xs = [.int i] ∧ Q (.int i) H) ∨ ∃ k, xs = [.bl k] ∧ Q (.int (if k then 1 else 0)) H) wInt1 := by
  intro R μ H vs ds P Q o i w k
  match ds, w with
  | [.int j], w =>
    obtain ⟨v, rfl, i1⟩ := i.one
    cases i1
    exact .inl ⟨j, rfl, k.val o w (.int _)⟩
  | [.bool b], w =>
    obtain ⟨v, rfl, i1⟩ := i.one
    cases i1
    exact .inr ⟨b, rfl, k.val o w (.int _)⟩
theorem strI_rd : RAD K (fun xs H Q => ∃ i, xs = [.int i] ∧ i.natAbs.log2 < 1920 ∧ Q (.str (toString i)) H) wStrI := by
  intro R μ H vs ds P Q o i w k
  match ds, w with
  | [.int j], w =>
    obtain ⟨v, rfl, i1⟩ := i.one
    cases i1
    exact ⟨j, rfl, w.1, k.val o w.2 (.str _)⟩
theorem max2_rd : RAD K (fun xs H Q => ∃ i j, xs = [.int i, .int j] ∧ Q (.int (if j > i then j else i)) H) wMax2 := by
  intro R μ H vs ds P Q o i w k
  match ds, w with
  | [.int a, .int b], w =>
    obtain ⟨v, u, rfl, i1, j1⟩ := i.two
    cases i1
    cases j1
    exact ⟨a, b, rfl, k.val o w (.int _)⟩
theorem min2_rd : RAD K (fun xs H Q => ∃ i j, xs = [.int i, .int j] ∧ Q (.int (if j < i then j else i)) H) wMin2 := by
  intro R μ H vs ds P Q o i w k
  match ds, w with
  | [.int a, .int b], w =>
    obtain ⟨v, u, rfl, i1, j1⟩ := i.two
    cases i1
    cases j1
    exact ⟨a, b, rfl, k.val o w (.int _)⟩
theorem maxL_rd : RAD K (rMax K) wMaxL := by
  intro R μ H vs ds P Q o i w k
  match ds, w with
  | [.lst ds], ⟨ns, e, h, w⟩ =>
    subst e
    obtain ⟨v, rfl, i1⟩ := i.one
    cases i1 with | lst hx rx => exact ⟨_, ns, rfl, by rw [← nums_of rx]; exact SqL.of (hid_le _ _ hx), h, fun m hm hl => k.val o (w m hm hl) (.int _)⟩
theorem minL_rd : RAD K (rMin K) wMinL := by
  intro R μ H vs ds P Q o i w k
  match ds, w with
  | [.lst ds], ⟨ns, e, h, w⟩ =>
    subst e
    obtain ⟨v, rfl, i1⟩ := i.one
    cases i1 with | lst hx rx => exact ⟨_, ns, rfl, by rw [← nums_of rx]; exact SqL.of (hid_le _ _ hx), h, fun m hm hl => k.val o (w m hm hl) (.int _)⟩
variable {e a b : Expr} {es : List Expr} {wa : WA} {w wx wy : WE} {p pos : Pos}
theorem d_len (hg : Gl X "len") (hm : X.mg "len" = none) (ha : PE X e (tD X.K w)) (hs : starEach [e] X.env = [(false, eval e X.env)] := by rfl) : PE X (.Call (.Name "len" p) [e] [] pos) (tD X.K (wB wLen (wCons w wNil))) :=
  d_callB call_len len_rd hg hm PySem.boot_len (da_cons ha da_nil hs) (by decide) (by decide) hs rfl
theorem d_abs (hg : Gl X "abs") (hm : X.mg "abs" = none) (ha : PE X e (tD X.K w)) (hs : starEach [e] X.env = [(false, eval e X.env)] := by rfl) : PE X (.Call (.Name "abs" p) [e] [] pos) (tD X.K (wB wAbs (wCons w wNil))) :=
  d_callB call_abs abs_rd hg hm (by decide +kernel) (da_cons ha da_nil hs) (by decide) (by decide) hs rfl
theorem d_all (hg : Gl X "all") (hm : X.mg "all" = none) (ha : PE X e (tD X.K w)) (hc : X.calm = true := by rfl) (hs : starEach [e] X.env = [(false, eval e X.env)] := by rfl) : PE X (.Call (.Name "all" p) [e] [] pos) (tD X.K (wB wAll (wCons w wNil))) :=
  d_callB (cr_all hc) all_rd hg hm (by decide +kernel) (da_cons ha da_nil hs) (by decide) (by decide) hs rfl
theorem d_any (hg : Gl X "any") (hm : X.mg "any" = none) (ha : PE X e (tD X.K w)) (hc : X.calm = true := by rfl) (hs : starEach [e] X.env = [(false, eval e X.env)] := by rfl) : PE X (.Call (.Name "any" p) [e] [] pos) (tD X.K (wB wAny (wCons w wNil))) :=
  d_callB (cr_any hc) any_rd hg hm (by decide +kernel) (da_cons ha da_nil hs) (by decide) (by decide) hs rfl
theorem d_tuple (hg : Gl X "tuple") (hm : X.mg "tuple" = none) (ha : PE X e (tD X.K w)) (hs : starEach [e] X.env = [(false, eval e X.env)] := by rfl) : PE X (.Call (.Name "tuple" p) [e] [] pos) (tD X.K (wB wTuple (wCons w wNil))) :=
  d_callTy call_tupleN tuple_rd hg hm (by decide +kernel) (da_cons ha da_nil hs) (by decide) (by decide) hs rfl
theorem d_list (hg : Gl X "list") (hm : X.mg "list" = none) (ha : PE X e (tD X.K w)) (hs : starEach [e] X.env = [(false, eval e X.env)] := by rfl) : PE X (.Call (.Name "list" p) [e] [] pos) (tD X.K (wB wList (wCons w wNil))) :=
  d_callTy call_list_of list_rd hg hm (by decide +kernel) (da_cons ha da_nil hs) (by decide) (by decide) hs rfl
theorem d_int1 (hg : Gl X "int") (hm : X.mg "int" = none) (ha : PE X e (tD X.K w)) (hs : starEach [e] X.env = [(false, eval e X.env)] := by rfl) : PE X (.Call (.Name "int" p) [e] [] pos) (tD X.K (wB wInt1 (wCons w wNil))) :=
  d_callTy call_int1 int1_rd hg hm (by decide +kernel) (da_cons ha da_nil hs) (by decide) (by decide) hs rfl
theorem d_strI (hg : Gl X "str") (hm : X.mg "str" = none) (ha : PE X e (tD X.K w)) (hs : starEach [e] X.env = [(false, eval e X.env)] := by rfl) : PE X (.Call (.Name "str" p) [e] [] pos) (tD X.K (wB wStrI (wCons w wNil))) :=
  d_callTy call_str_int strI_rd hg hm (by decide +kernel) (da_cons ha da_nil hs) (by decide) (by decide) hs rfl
theorem d_maxL (hg : Gl X "max") (hm : X.mg "max" = none) (ha : PE X e (tD X.K w)) (hc : X.calm = true := by rfl) (hs : starEach [e] X.env = [(false, eval e X.env)] := by rfl) : PE X (.Call (.Name "max" p) [e] [] pos) (tD X.K (wB wMaxL (wCons w wNil))) :=
  d_callB (cr_max hc) maxL_rd hg hm (by decide +kernel) (da_cons ha da_nil hs) (by decide) (by decide) hs rfl
theorem d_minL (hg : Gl X "min") (hm : X.mg "min" = none) (ha : PE X e (tD X.K w)) (hc : X.calm = true := by rfl) (hs : starEach [e] X.env = [(false, eval e X.env)] := by rfl) : PE X (.Call (.Name "min" p) [e] [] pos) (tD X.K (wB wMinL (wCons w wNil))) :=
  d_callB (cr_min hc) minL_rd hg hm (by decide +kernel) (da_cons ha da_nil hs) (by decide) (by decide) hs rfl
theorem d_max2 (hg : Gl X "max") (hm : X.mg "max" = none) (ha : PE X a (tD X.K wx)) (hb : PE X b (tD X.K wy)) (hc : X.calm = true := by rfl) (hs : starEach [a, b] X.env = (false, eval a X.env) :: starEach [b] X.env := by rfl) (hs2 : starEach [b] X.env = [(false, eval b X.env)] := by rfl) :
    PE X (.Call (.Name "max" p) [a, b] [] pos) (tD X.K (wB wMax2 (wCons wx (wCons wy wNil)))) :=
  d_callB (call_max2 hc) max2_rd hg hm (by decide +kernel) (da_cons ha (da_cons hb da_nil hs2) hs) (by decide) (by decide) hs (by rw [hs2]; rfl)
theorem d_min2 (hg : Gl X "min") (hm : X.mg "min" = none) (ha : PE X a (tD X.K wx)) (hb : PE X b (tD X.K wy)) (hc : X.calm = true := by rfl) (hs : starEach [a, b] X.env = (false, eval a X.env) :: starEach [b] X.env := by rfl) (hs2 : starEach [b] X.env = [(false, eval b X.env)] := by rfl) :
    PE X (.Call (.Name "min" p) [a, b] [] pos) (tD X.K (wB wMin2 (wCons wx (wCons wy wNil)))) :=
  d_callB (call_min2 hc) min2_rd hg hm (by decide +kernel) (da_cons ha (da_cons hb da_nil hs2) hs) (by decide) (by decide) hs (by rw [hs2]; rfl)

/-! ### isinstance -/
inductive Ty where
  | none | bool | int | str | tup | lst | dct
def Ty.name : Ty → String
  | .none => "NoneType" | .bool => "bool" | .int => "int" | .str => "str" | .tup => "tuple" | .lst => "list" | .dct => "dict"
def tyD : DV → Mh → Option Ty
  | .none, _ => some .none
  | .bool _, _ => some .bool
  | .int _, _ => some .int
  | .str _, _ => some .str
  | .tup _, _ => some .tup
  | .lst _, _ => some .lst
  | .dct _, _ => some .dct
  | .obj a, μ => match μ a with | some (.lst _) => some .lst | some (.dct _) => some .dct | _ => Option.none
  | .fix _, _ => Option.none
theorem ty_of {R : Hp} {μ : Mh} {H : Hp} {v : V} {d : DV} {t : Ty} (o : Ok K R μ H) (i : Is K (hid R μ H) v d) (h : tyD d μ = some t) : TyX K H v (.type t.name) := by
  cases i with
  | none => cases h; exact .base .non
  | bool b => cases h; exact .base (.bl b)
  | int b => cases h; exact .base (.int b)
  | str b => cases h; exact .base (.str b)
  | lst hx rx => cases h; exact .base (.lst (hid_le _ _ hx))
  | dct hx _ _ => cases h; exact .base (.dK (hid_le _ _ hx))
  | tup hx rx =>
    cases h
    rcases hx with ⟨ob, hx, _⟩ | ⟨ob, its, n, hk, hc, _⟩
    · exact .fTuple (hid_le _ _ hx)
    · exact .kTuple hk hc.1
  | obj a =>
    have h' : (match μ a with | some (.lst _) => some Ty.lst | some (.dct _) => some Ty.dct | _ => Option.none) = some t := h
    split at h'
    · rename_i ds e
      cases h'
      obtain ⟨xs, h1, r⟩ := o.ob a _ e
      exact .base (.lst h1)
    · rename_i ds e
      cases h'
      obtain ⟨xs, h1, r⟩ := o.ob a _ e
      exact .base (.dK h1)
    · cases h'
  | fix _ _ => cases h
def wIsi (f : Ty → Bool) (w : WE) : WE := fun ρ μ P => w ρ μ fun d μ1 => atW (tyD d μ1) fun t => P (.bool (f t)) μ1
theorem d_isi {Tn : Str} {T : String} {p2 : Pos} (f : Ty → Bool) (hf : ∀ t : Ty, kitB t.name T = some (f t)) (hg : Gl X "isinstance") (hm : X.mg "isinstance" = none) (hg2 : Gl X Tn) (hm2 : X.mg Tn = none) (hv2 : bootBuiltins Tn = some (.type T)) (ha : PE X e (tD X.K w))
    (hs : starEach [e, .Name Tn p2] X.env = (false, eval e X.env) :: starEach [.Name Tn p2] X.env := by rfl) (hs2 : starEach [.Name Tn p2] X.env = [(false, eval (.Name Tn p2) X.env)] := by rfl) (hn : Tn ≠ "__name__" := by decide) (hdb : (Tn == ("__debug__" : Str)) = false := by decide) :
    PE X (.Call (.Name "isinstance" p) [e, .Name Tn p2] [] pos) (tD X.K (wIsi f w)) :=
  PE.imp (pe_callB call_isi hg hm (by decide +kernel) (pa_cons ha (pa_cons (pe_bltn (v := .ty T) hg2 hm2 hv2 rfl hn hdb) pa_nil hs2) hs) (by decide) (by decide) hs (by rw [hs2]; rfl)) fun σ H Q ⟨R, ρ, μ, P, a, w, k⟩ =>
    ⟨R, ρ, μ, _, a, w, fun d μ1 v H1 p1 o1 s1 i1 => by
      obtain ⟨t, ht, p2⟩ := atW_of p1
      exact ⟨v, .ty T, _, _, f t, rfl, .ty T, ty_of o1 i1 ht, kit_ty (hf t), k _ μ1 _ H1 p2 o1 s1 (.bool _)⟩⟩
def tyStr : Ty → Bool | .str => true | _ => false
def tyInt : Ty → Bool | .int => true | .bool => true | _ => false
def tyBool : Ty → Bool | .bool => true | _ => false
def tyTup : Ty → Bool | .tup => true | _ => false
def tyLst : Ty → Bool | .lst => true | _ => false
def tyDct : Ty → Bool | .dct => true | _ => false
theorem hf_str : ∀ t : Ty, kitB t.name "str" = some (tyStr t) := by intro t; cases t <;> decide +kernel
theorem hf_int : ∀ t : Ty, kitB t.name "int" = some (tyInt t) := by intro t; cases t <;> decide +kernel
theorem hf_bool : ∀ t : Ty, kitB t.name "bool" = some (tyBool t) := by intro t; cases t <;> decide +kernel
theorem hf_tup : ∀ t : Ty, kitB t.name "tuple" = some (tyTup t) := by intro t; cases t <;> decide +kernel
theorem hf_lst : ∀ t : Ty, kitB t.name "list" = some (tyLst t) := by intro t; cases t <;> decide +kernel
theorem hf_dct : ∀ t : Ty, kitB t.name "dict" = some (tyDct t) := by intro t; cases t <;> decide +kernel
theorem boot_str : bootBuiltins "str" = some (.type "str") := by decide +kernel
theorem boot_int : bootBuiltins "int" = some (.type "int") := by decide +kernel
theorem boot_bool : bootBuiltins "bool" = some (.type "bool") := by decide +kernel
theorem boot_tup : bootBuiltins "tuple" = some (.type "tuple") := by decide +kernel
theorem boot_lst : bootBuiltins "list" = some (.type "list") := by decide +kernel
theorem boot_dct : bootBuiltins "dict" = some (.type "dict") := by decide +kernel

/-! ### sep.join(texts) -/
def joinD (a : Str) (ds : List DV) (μ : Mh) (P : DV → Mh → Prop) : Prop := ∃ ys : List Str, ds = ys.map DV.str ∧ (ys.map (·.length)).sum + ys.length * a.length ≤ 16777216 ∧ P (.str (Txt.join a ys)) μ
def wJoin (wx wy : WE) : WE := fun ρ μ P => wx ρ μ fun x μ1 => match x with
  | .str a => wy ρ μ1 fun y μ2 => match y with
    | .lst ds => joinD a ds μ2 P
    | .tup ds => joinD a ds μ2 P
    | _ => False
  | _ => False
theorem d_join {apos : Pos} (ho : PE X a (tD X.K wx)) (he : PE X b (tD X.K wy)) (hs : starEach [b] X.env = [(false, eval b X.env)] := by rfl) (hbase : attributeBase a "join" X.env (eval a X.env) = eval a X.env := by rfl) (hline : (apos.endLine == pos.line) = true := by rfl) :
    PE X (.Call (.Attribute a "join" apos) [b] [] pos) (tD X.K (wJoin wx wy)) :=
  PE.imp (pe_join ho he hs hbase hline) fun σ H Q ⟨R, ρ, μ, P, a, w, k⟩ => ⟨R, ρ, μ, _, a, w, fun x μ1 v H1 p1 o1 s1 i1 => by
    cases i1 with
    | str z => exact ⟨⟨z, rfl⟩, R, ρ, μ1, _, a.step o1 s1, p1, fun y μ2 u H2 p2 o2 s2 i2 => by
        cases i2 with
        | lst hy ry =>
          obtain ⟨ys, e, h1, h2⟩ := p2
          subst e
          exact ⟨z, _, ys, rfl, rfl, .inl (by rw [← texts_of ry]; exact SqL.of (hid_le _ _ hy)), h1, k _ μ2 _ H2 h2 o2 (s1.trans s2) (.str _)⟩
        | tup hy ry =>
          obtain ⟨ys, e, h1, h2⟩ := p2
          subst e
          exact ⟨z, _, ys, rfl, rfl, .inr (by rw [← texts_of ry]; exact Same.seqT hid_le hy.t), h1, k _ μ2 _ H2 h2 o2 (s1.trans s2) (.str _)⟩
        | _ => exact (show False from p2).elim⟩
    | _ => exact (show False from p1).elim⟩
end
end Dz

set_option Elab.async false
set_option linter.all false
set_option maxRecDepth 100000
set_option maxHeartbeats 4000000
/-! Dz6: repr of data, displays of dicts, order of tuples. -/
namespace Dz
open PySem L2

/-! ### data as the library reads it -/
def ReadsIn (h : Heap) (v : Value) (d : PyData) : Prop := ∃ as, Reads h v d as ∧ sysModules ∉ as
def ReadsInAll (h : Heap) (vs : List Value) (ds : List PyData) : Prop := ∃ as, ReadsAll h vs ds as ∧ sysModules ∉ as
theorem ReadsInAll.cons {h : Heap} {v : Value} {d : PyData} {vs : List Value} {ds : List PyData} (a : ReadsIn h v d) (b : ReadsInAll h vs ds) : ReadsInAll h (v :: vs) (d :: ds) := by
  obtain ⟨as, r1, n1⟩ := a
  obtain ⟨bs, r2, n2⟩ := b
  exact ⟨_, .cons r1 r2, fun m => (List.mem_append.mp m).elim n1 n2⟩
section
variable {X : Cx} {pins : List (Addr × Obj)} {σ : L2.St} {H : Hp} {s : Shared}
theorem ne_sys (I : Inv X pins σ H s) (hs : ∃ o, X.base.get? sysModules = some o) {a : Addr} {u : HO} (h : H a = some u) : sysModules ≠ a := by
  obtain ⟨o, e⟩ := hs
  intro z
  subst z
  rw [(I.bs _ _ e).2] at h
  cases h
theorem key_reads {h : Heap} : ∀ {es : List DictEntry} {vs : List (Key × Value)} {P : Program} {w : World}, Pairs (mixKind P w) es vs → ReadsInAll h (es.map (·.key)) (vs.map fun kv => keyPy kv.1)
  | _, _, _, _, .nil => ⟨[], .nil, by simp⟩
  | _, _, _, _, .cons h1 h2 r => by
    refine ReadsInAll.cons ?_ (key_reads r)
    rcases keyIs_shape h1 with ⟨i, t, e1, e2⟩ | ⟨i, t, e1, e2⟩
    · show ReadsIn h (DictEntry.key _) (keyPy (Prod.fst _))
      rw [e1, e2]
      exact ⟨[], .int i t, by simp⟩
    · show ReadsIn h (DictEntry.key _) (keyPy (Prod.fst _))
      rw [e1, e2]
      exact ⟨[], .str i t, by simp⟩
theorem vals_eq {es : List DictEntry} {vs : List (Key × Value)} {P : Program} {w : World} (r : Pairs (mixKind P w) es vs) : es.map (·.val) = vs.map (·.2) := by
  induction r with
  | nil => rfl
  | cons h1 h2 _ ih => rw [List.map_cons, List.map_cons, h2, ih]
theorem toPyKv_keys : ∀ ds : List (Key × DV), (toPyKv ds).map (·.1) = ds.map fun kv => keyPy kv.1
  | [] => rfl
  | (k, d) :: r => by rw [toPyKv, List.map_cons, List.map_cons, toPyKv_keys r]
theorem toPyKv_vals : ∀ ds : List (Key × DV), (toPyKv ds).map (·.2) = toPys (ds.map (·.2))
  | [] => rfl
  | (k, d) :: r => by rw [toPyKv, List.map_cons, List.map_cons, toPyKv_vals r]; rfl
theorem noObjKv_vals : ∀ ds : List (Key × DV), noObjKv ds = noObjs (ds.map (·.2))
  | [] => rfl
  | (k, d) :: r => by rw [noObjKv, List.map_cons, noObjKv_vals r]; rfl
theorem kv_vals {κ : Type} {kvs : List (κ × V)} {vs : List (κ × Value)} (r : KV kvs vs) : Vals (kvs.map (·.2)) (vs.map (·.2)) := by
  unfold KV at r
  induction r with
  | nil => exact .nil
  | cons q _ ih => exact .cons q.2 ih
mutual
theorem Is.reads (I : Inv X pins σ H s) (hs : ∃ o, X.base.get? sysModules = some o) : ∀ {v : V} {d : DV} {u : Value}, Is X.K H v d → noObj d = true → RelV v u → ReadsIn s.heap u (toPy d)
  | _, _, _, .none, _, r => by cases r; exact ⟨_, .none, by simp⟩
  | _, _, _, .bool b, _, r => by cases r; exact ⟨_, .bool b, by simp⟩
  | _, _, _, .int i, _, r => by obtain ⟨t, rfl⟩ := r; exact ⟨_, .int i t, by simp⟩
  | _, _, _, .str i, _, r => by obtain ⟨t, rfl⟩ := r; exact ⟨_, .str i t, by simp⟩
  | _, _, _, .tup h rr, n, r => by
    cases r
    obtain ⟨its, rv, ⟨o, ho, hc, m, hd⟩, _⟩ := I.tuple h.t
    obtain ⟨as, hr, ns⟩ := Iss.reads I hs rr n rv
    exact ⟨_, .tuple ho hc hd hr, ns⟩
  | _, _, _, .lst h rr, n, r => by
    cases r
    obtain ⟨its, rv, ⟨o, m, ho, hc, _, hd⟩, _⟩ := I.list (SqL.of h)
    obtain ⟨as, hr, ns⟩ := Iss.reads I hs rr n rv
    exact ⟨_, .list ho hc hd hr, fun z => (List.mem_cons.mp z).elim (ne_sys I hs h) ns⟩
  | _, _, _, .dct (a := a) (kvs := kvs) (ds := ds) h k rr, n, r => by
    cases r
    obtain ⟨_, _, vs, rv, ob, es, ep, ho, hx, hd, _, pr, _⟩ := (show ObjOk X.prog X.w H s.heap a (.dK kvs) from I.hok a _ h)
    have rv2 : Vals (kvs.map (·.2)) (vs.map (·.2)) := kv_vals rv
    obtain ⟨as, r1, n1⟩ := key_reads (h := s.heap) pr
    obtain ⟨bs, r2, n2⟩ := Iss.reads I hs rr (by rw [← noObjKv_vals]; exact n) rv2
    have kk : vs.map (fun kv => keyPy kv.1) = (toPyKv ds).map (·.1) := by
      rw [toPyKv_keys]
      have e1 : vs.map (·.1) = ds.map (·.1) := rv.keys.symm.trans k
      have e2 := congrArg (List.map keyPy) e1
      rw [List.map_map, List.map_map] at e2
      exact e2
    rw [kk] at r1
    rw [← vals_eq pr, ← toPyKv_vals] at r2
    exact ⟨_, .dict ho hx.1 hd r1 r2, fun z => (List.mem_append.mp z).elim (fun z => (List.mem_cons.mp z).elim (ne_sys I hs h) n1) n2⟩
  | _, _, _, .obj _, n, _ => absurd (show false = true from n) Bool.false_ne_true
  | _, _, _, .fix _ _, n, _ => absurd (show false = true from n) Bool.false_ne_true
theorem Iss.reads (I : Inv X pins σ H s) (hs : ∃ o, X.base.get? sysModules = some o) : ∀ {vs : List V} {ds : List DV} {us : List Value}, Iss X.K H vs ds → noObjs ds = true → Vals vs us → ReadsInAll s.heap us (toPys ds)
  | _, _, _, .nil, _, r => by cases r; exact ⟨_, .nil, by simp⟩
  | _, _, _, .cons h rr, n, r => by
    cases r with
    | cons r1 r2 =>
      have n' := Bool.and_eq_true_iff.mp n
      exact ReadsInAll.cons (Is.reads I hs h n'.1 r1) (Iss.reads I hs rr n'.2 r2)
end
end

/-! ### repr -/
/-- data whose text the model can write -/
structure Shows (d : DV) : Prop where
  no : noObj d = true
  sh : (toPy d).showable = true
  len : (toPy d).shown.length ≤ sizeLine
  dep : (toPy d).depth ≤ 60
def shownD (d : DV) : Str := (toPy d).shown
def wRepr : WB
  | [d], μ, P => Shows d ∧ P (.str (shownD d)) μ
  | _, _, _ => False
def rReprD (K : PySem.W.Frag) : List V → Hp → VK → Prop := fun xs H Q => ∃ x d, xs = [x] ∧ Is K H x d ∧ Shows d ∧ Q (.str (shownD d)) H
section
variable {X : Cx}
theorem call_reprD {k : Nat} (hg : X.A.guards = some []) (hr : Room k X.A) (hs : ∃ o, X.base.get? sysModules = some o) : CallR X (.builtin "repr") (rReprD X.K) := by
  intro pins s σ H xs us Q I r h
  obtain ⟨x, d, rfl, i, S, q⟩ := h
  obtain ⟨u, rfl, rx⟩ := vals1 r
  have hu := hr.un
  cases i with
  | none =>
    cases rx
    exact PySem.P.repr_of_none ⟨.str _, H, I.tok _, ⟨_, rfl⟩, q⟩
  | bool b =>
    cases rx
    exact PySem.P.repr_of_bool ⟨.str _, H, I.tok _, ⟨_, rfl⟩, q⟩
  | int j =>
    obtain ⟨t, rfl⟩ := rx
    exact PySem.P.repr_of_int (by have := S.sh; simpa [toPy, PyData.showable] using this) ⟨.str _, H, I.tok _, ⟨_, rfl⟩, q⟩
  | str z =>
    obtain ⟨t, rfl⟩ := rx
    exact PySem.P.repr_of_str ⟨.str _, H, I.tok _, ⟨_, rfl⟩, q⟩ S.len
  | obj a => exact absurd (show false = true from S.no) Bool.false_ne_true
  | fix _ _ => exact absurd (show false = true from S.no) Bool.false_ne_true
  | tup h rr =>
    obtain ⟨as, rd, ns⟩ := Is.reads I hs (.tup h rr) S.no rx
    cases rx
    refine repr_of_reads' rd S.sh (fun _ => ns) hg (by have := S.dep; omega) (fun _ _ e => e) (fun h' v tk hk => ?_) S.len
    exact ⟨.str _, H, I.kept hk, ⟨_, rfl⟩, q⟩
  | lst h rr =>
    obtain ⟨as, rd, ns⟩ := Is.reads I hs (.lst h rr) S.no rx
    cases rx
    refine repr_of_reads' rd S.sh (fun _ => ns) hg (by have := S.dep; omega) (fun _ _ e => e) (fun h' v tk hk => ?_) S.len
    exact ⟨.str _, H, I.kept hk, ⟨_, rfl⟩, q⟩
  | dct h kk rr =>
    obtain ⟨as, rd, ns⟩ := Is.reads I hs (.dct h kk rr) S.no rx
    cases rx
    refine repr_of_reads' rd S.sh (fun _ => ns) hg (by have := S.dep; omega) (fun _ _ e => e) (fun h' v tk hk => ?_) S.len
    exact ⟨.str _, H, I.kept hk, ⟨_, rfl⟩, q⟩
theorem repr_rd {K : PySem.W.Frag} : RAD K (rReprD K) wRepr := by
  intro R μ H vs ds P Q o i w k
  match ds, w with
  | [d], w =>
    obtain ⟨v, rfl, i1⟩ := i.one
    exact ⟨v, d, rfl, i1.up, w.1, k.val o w.2 (.str _)⟩
theorem d_repr {k : Nat} {e : Expr} {w : WE} {p pos : Pos} (hgd : X.A.guards = some []) (hr : Room k X.A) (hsm : ∃ o, X.base.get? sysModules = some o) (hg : Gl X "repr") (hm : X.mg "repr" = none) (ha : PE X e (tD X.K w)) (hs : starEach [e] X.env = [(false, eval e X.env)] := by rfl) :
    PE X (.Call (.Name "repr" p) [e] [] pos) (tD X.K (wB wRepr (wCons w wNil))) :=
  d_callB (call_reprD hgd hr hsm) repr_rd hg hm (by decide +kernel) (da_cons ha da_nil hs) (by decide) (by decide) hs rfl

/-! ### {}, {k: v, ..} -/
def wPairs : List (Key × WE) → Rho → Mh → (List (Key × DV) → Mh → Prop) → Prop
  | [], _, μ, P => P [] μ
  | (k, w) :: r, ρ, μ, P => w ρ μ fun d μ1 => wPairs r ρ μ1 fun ds μ2 => P ((k, d) :: ds) μ2
/-- a dict as data: the keys written, each once -/
def wDct (ws : List (Key × WE)) : WE := fun ρ μ P => wPairs ws ρ μ fun ds μ1 => P (.dct ds) μ1
theorem d_dct0 {pos : Pos} : PE X (.Dict [] [] pos) (tD X.K (wC (.dct []))) :=
  PE.imp pe_dnewK fun σ H Q ⟨R, ρ, μ, P, a, w, k⟩ => fun p n => k _ μ _ _ w (a.ok.new n) (a.ok.sameNew n) (.dct (hid_new a.ok n) rfl .nil)
/-- one pair -/
theorem d_dct1 {pos : Pos} {kx vx : Expr} {key : Key} {w : WE} (hk : PE X kx (tC (kV key))) (hv : PE X vx (tD X.K w)) : PE X (.Dict [some kx] [vx] pos) (tD X.K (wDct [(key, w)])) :=
  PE.imp (pe_disp (pps_cons hk hv pps_nil) rfl rfl (fun z => by cases z) (Nat.le_of_ble_eq_true rfl)) fun σ H Q ⟨R, ρ, μ, P, a, w, k⟩ => fun p n => by
    obtain ⟨o1, e1⟩ := a.ok.frame (o := .dK []) n
    refine ⟨upd R p (.dK []), ρ, μ, _, ⟨o1, by rw [e1]; exact a.sl⟩, w, fun d μ1 v H1 p1 o2 s2 i2 => ⟨o2.fr p _ upd_same, [(key, v)], rfl, Nat.le_of_ble_eq_true rfl, ?_⟩⟩
    have rn := a.ok.freeR n
    rw [e1] at s2
    have em : mergeK [] [(key, v)] = [(key, v)] := rfl
    rw [em]
    obtain ⟨o3, e3⟩ := o2.reframe (o' := .dK [(key, v)])
    obtain ⟨o4, s4, h4⟩ := o3.unframe rn
    rw [e3] at s4
    exact k _ μ1 _ _ p1 o4 (s2.trans s4) (.dct h4 rfl (.cons (i2.mono s4) .nil))
end

/-! ### order of tuples -/
def ltB : DV → DV → Bool
  | .int i, .int j => decide (i < j)
  | .str s, .str t => ltS s t
  | _, _ => false
def cmpB : DV → DV → Bool
  | .int _, .int _ => true
  | .str _, .str _ => true
  | _, _ => false
/-- place by place of one kind, ints or texts -/
def cmpAll : List DV → List DV → Bool
  | x :: xs, y :: ys => cmpB x y && cmpAll xs ys
  | _, _ => true
def lexB : List DV → List DV → Bool
  | [], [] => false
  | [], _ :: _ => true
  | _ :: _, [] => false
  | x :: xs, y :: ys => if eqF x y = true then lexB xs ys else ltB x y
def eAt (xs ys : List DV) (j : Nat) : Bool := match xs[j]?, ys[j]? with | some x, some y => eqF x y | _, _ => true
def rAt (xs ys : List DV) (j : Nat) : Bool := match xs[j]?, ys[j]? with | some x, some y => ltB x y | _, _ => false
theorem lexAt_shift {z : Bool} : ∀ (k i : Nat) (e r e' r' : Nat → Bool), (∀ j, e' j = e (j + 1)) → (∀ j, r' j = r (j + 1)) → Ob.lexAt e r z (i + 1) k = Ob.lexAt e' r' z i k
  | 0, _, _, _, _, _, _, _ => rfl
  | k + 1, i, e, r, e', r', he, hr => by
    rw [Ob.lexAt_succ, Ob.lexAt_succ, lexAt_shift k (i + 1) e r e' r' he hr, he, hr]
theorem lexAt_lexB : ∀ xs ys : List DV, Ob.lexAt (eAt xs ys) (rAt xs ys) (decide (xs.length < ys.length)) 0 (min xs.length ys.length) = lexB xs ys
  | [], [] => rfl
  | [], _ :: _ => by simp [Ob.lexAt_zero, lexB]
  | _ :: _, [] => by simp [Ob.lexAt_zero, lexB]
  | x :: xs, y :: ys => by
    have h : min (x :: xs).length (y :: ys).length = min xs.length ys.length + 1 := by simp only [List.length_cons]; omega
    have hz : decide ((x :: xs).length < (y :: ys).length) = decide (xs.length < ys.length) := by simp
    rw [h, hz, Ob.lexAt_succ, lexAt_shift _ 0 (eAt (x :: xs) (y :: ys)) (rAt (x :: xs) (y :: ys)) (eAt xs ys) (rAt xs ys) (fun j => by simp [eAt]) (fun j => by simp [rAt]), lexAt_lexB xs ys]
    rfl
theorem cmpAll_at : ∀ {xs ys : List DV} {j : Nat} {x y : DV}, cmpAll xs ys = true → xs[j]? = some x → ys[j]? = some y → cmpB x y = true
  | [], _, j, _, _, _, h, _ => by simp at h
  | _ :: _, [], j, _, _, _, _, h => by simp at h
  | a :: xs, b :: ys, 0, x, y, c, h1, h2 => by
    simp at h1 h2
    subst h1 h2
    exact (Bool.and_eq_true_iff.mp c).1
  | a :: xs, b :: ys, j + 1, x, y, c, h1, h2 => cmpAll_at (j := j) (Bool.and_eq_true_iff.mp c).2 (by simpa using h1) (by simpa using h2)
def rLtTD (K : PySem.W.Frag) : R2 := fun x y H Q => ∃ a b xs ys dx dy, x = .ref a ∧ y = .ref b ∧ SqT K H a xs ∧ SqT K H b ys ∧ Iss K H xs dx ∧ Iss K H ys dy ∧ cmpAll dx dy = true ∧ Q (.bl (lexB dx dy)) H
theorem op_ltTD {X : Cx} (hu : X.A.units < cLine) : OpR X (compareOp .Lt) (rLtTD X.K) := by
  intro pins s σ H x y v u Q I rx ry h
  obtain ⟨a, b, xs, ys, dx, dy, rfl, rfl, ha, hb, i1, i2, c, q⟩ := h
  cases rx
  cases ry
  obtain ⟨its, r1, p1, _⟩ := I.tuple ha
  obtain ⟨its2, r2, p2, _⟩ := I.tuple hb
  have pick : ∀ {us : List Value} {zs : List V} {ds : List DV}, Vals zs us → Iss X.K H zs ds → ∀ (j : Nat) (h1 : j < us.toArray.size), ∃ z d, ds[j]? = some d ∧ Is X.K H z d ∧ RelV z us.toArray[j] := fun {us zs ds} r i j h1 => by
    have hl := r.length
    have hj : j < zs.length := by simp at h1; omega
    obtain ⟨u, e1, e2⟩ := r.get (List.getElem?_eq_getElem hj)
    obtain ⟨d, e3, e4⟩ := i.getV (List.getElem?_eq_getElem hj)
    refine ⟨_, d, e3, e4, ?_⟩
    have h2 : j < us.length := by simpa using h1
    rw [List.getElem?_eq_getElem h2] at e1
    cases e1
    simpa using e2
  have fl : ∀ {d e : DV}, cmpB d e = true → flatD d = true ∧ flatD e = true := fun {d e} h => by
    cases d <;> cases e <;> first | exact ⟨rfl, rfl⟩ | cases h
  have run := Ob.RcOp.tuples_lt (A := X.A) (e := eAt dx dy) (r := rAt dx dy) p1 p2 hu (fun j h1 h2 => by
    obtain ⟨z1, d1, e1, k1, t1⟩ := pick r1 i1 j h1
    obtain ⟨z2, d2, e2, k2, t2⟩ := pick r2 i2 j h2
    have cc := cmpAll_at c e1 e2
    have e : eAt dx dy j = eqV z1 z2 := by
      unfold eAt
      rw [e1, e2, eqV_of k1 k2 (fl cc).1 (fl cc).2]
    rw [e]
    exact eqAt_V t1 t2 (by rw [flat_of k1]; exact (fl cc).1) (by rw [flat_of k2]; exact (fl cc).2)) (fun j h1 h2 hne => by
    obtain ⟨z1, d1, e1, k1, t1⟩ := pick r1 i1 j h1
    obtain ⟨z2, d2, e2, k2, t2⟩ := pick r2 i2 j h2
    have cc := cmpAll_at c e1 e2
    have e : rAt dx dy j = ltB d1 d2 := by
      unfold rAt
      rw [e1, e2]
    rw [e]
    cases d1 with
    | int i => cases d2 with
      | int k =>
        cases k1
        cases k2
        obtain ⟨tk, q1⟩ := t1
        obtain ⟨tk', q2⟩ := t2
        rw [q1, q2]
        exact Ob.RcOp.lt_int _ _ _ _
      | _ => cases cc
    | str i => cases d2 with
      | str k =>
        cases k1
        cases k2
        obtain ⟨tk, q1⟩ := t1
        obtain ⟨tk', q2⟩ := t2
        rw [q1, q2]
        exact fun _ _ _ _ h => PyProof.Rows.lt_str h
      | _ => cases cc
    | _ => cases cc) X.prog X.w
  refine run _ _ ⟨.bl (lexB dx dy), H, I, ?_, q⟩
  have e1 : its.toArray.size = dx.length := by rw [List.size_toArray, ← r1.length, i1.length]
  have e2 : its2.toArray.size = dy.length := by rw [List.size_toArray, ← r2.length, i2.length]
  rw [e1, e2, lexAt_lexB]
  rfl
def wLtA : W2
  | .int i, .int j, μ, P => P (.bool (decide (i < j))) μ
  | .str s, .str t, μ, P => P (.bool (ltS s t)) μ
  | .tup xs, .tup ys, μ, P => cmpAll xs ys = true ∧ P (.bool (lexB xs ys)) μ
  | _, _, _, _ => False
section
variable {K : PySem.W.Frag} {X : Cx} {a b : Expr} {wa wb wc : WE} {pos : Pos}
def rLtA (K : PySem.W.Frag) : R2 := fun x y H Q => rOrd (fun i j => decide (i < j)) (fun s t => decide (s.cps.toList < t.cps.toList)) x y H Q ∨ rLtTD K x y H Q
theorem op_ltA (hu : X.A.units < cLine) : OpR X (compareOp .Lt) (rLtA X.K) := op_ltD.or (op_ltTD hu)
theorem ltA_rd : R2D K (rLtA K) wLtA := by
  intro R μ H x y dx dy P Q ok ix iy w k
  cases ix with
  | int i => cases iy with
    | int j => exact .inl (.inl ⟨i, j, rfl, rfl, k.val ok w (.bool _)⟩)
    | _ => exact (show False from w).elim
  | str i => cases iy with
    | str j => exact .inl (.inr ⟨i, j, rfl, rfl, k.val ok w (.bool _)⟩)
    | _ => exact (show False from w).elim
  | tup hx rx => cases iy with
    | tup hy ry => exact .inr ⟨_, _, _, _, _, _, rfl, rfl, Same.seqT hid_le hx.t, Same.seqT hid_le hy.t, rx.mono hid_le, ry.mono hid_le, w.1, k.val ok w.2 (.bool _)⟩
    | _ => exact (show False from w).elim
  | _ => exact (show False from w).elim

/-! ### comparisons as the text has them: c.. a value, t.. a test -/
theorem c_lt {k : Nat} (hr : Room k X.A) (ha : PE X a (tD X.K wa)) (hb : PE X b (tD X.K wb)) : PE X (.Compare a [.Lt] [b] pos) (tD X.K (wBin wLtA wa wb)) := d_cmp (op_ltA hr.units0) ltA_rd ha hb (nomark _)
theorem c_le (ha : PE X a (tD X.K wa)) (hb : PE X b (tD X.K wb)) : PE X (.Compare a [.LtE] [b] pos) (tD X.K (wBin wLe wa wb)) := d_cmp op_leD le_rd ha hb (nomark _)
theorem c_gt (ha : PE X a (tD X.K wa)) (hb : PE X b (tD X.K wb)) : PE X (.Compare a [.Gt] [b] pos) (tD X.K (wBin wGt wa wb)) := d_cmp op_gtD gt_rd ha hb (nomark _)
theorem c_ge (ha : PE X a (tD X.K wa)) (hb : PE X b (tD X.K wb)) : PE X (.Compare a [.GtE] [b] pos) (tD X.K (wBin wGe wa wb)) := d_cmp op_geD ge_rd ha hb (nomark _)
theorem c_eq {k : Nat} (hr : Room k X.A) (ha : PE X a (tD X.K wa)) (hb : PE X b (tD X.K wb)) : PE X (.Compare a [.Eq] [b] pos) (tD X.K (wBin wEqL wa wb)) := d_cmp (op_eqA hr.units) eq_rd ha hb (nomark _)
theorem c_ne {k : Nat} (hr : Room k X.A) (ha : PE X a (tD X.K wa)) (hb : PE X b (tD X.K wb)) : PE X (.Compare a [.NotEq] [b] pos) (tD X.K (wBin wNeL wa wb)) := d_cmp (op_neA hr.units) ne_rd ha hb (nomark _)
theorem c_is (ha : PE X a (tD X.K wa)) (hb : PE X b (tD X.K wb)) : PE X (.Compare a [.Is] [b] pos) (tD X.K (wBin wIsN wa wb)) := d_cmp op_isN isN_rd ha hb (nomark _)
theorem c_isnot (ha : PE X a (tD X.K wa)) (hb : PE X b (tD X.K wb)) : PE X (.Compare a [.IsNot] [b] pos) (tD X.K (wBin wNotN wa wb)) := d_cmp op_notN notN_rd ha hb (nomark _)
theorem c_in {k : Nat} (hr : Room k X.A) (ha : PE X a (tD X.K wa)) (hb : PE X b (tD X.K wb)) (hm : behindInMarks .In b = false) : PE X (.Compare a [.In] [b] pos) (tD X.K (wBin wIn wa wb)) := d_cmp (op_inA (by have := hr.un; omega)) in_rd ha hb hm
theorem c_notin {k : Nat} (hr : Room k X.A) (ha : PE X a (tD X.K wa)) (hb : PE X b (tD X.K wb)) (hm : behindInMarks .NotIn b = false) : PE X (.Compare a [.NotIn] [b] pos) (tD X.K (wBin wNotIn wa wb)) := d_cmp (op_notInA (by have := hr.un; omega)) notIn_rd ha hb hm
theorem t_lt {k : Nat} (hr : Room k X.A) (ha : PE X a (tD X.K wa)) (hb : PE X b (tD X.K wb)) : PT X (.Compare a [.Lt] [b] pos) (tDT X.K (wTest (wBin wLtA wa wb))) := dt_cmp (op_ltA hr.units0) ltA_rd ha hb (nomark _)
theorem t_le (ha : PE X a (tD X.K wa)) (hb : PE X b (tD X.K wb)) : PT X (.Compare a [.LtE] [b] pos) (tDT X.K (wTest (wBin wLe wa wb))) := dt_cmp op_leD le_rd ha hb (nomark _)
theorem t_gt (ha : PE X a (tD X.K wa)) (hb : PE X b (tD X.K wb)) : PT X (.Compare a [.Gt] [b] pos) (tDT X.K (wTest (wBin wGt wa wb))) := dt_cmp op_gtD gt_rd ha hb (nomark _)
theorem t_ge (ha : PE X a (tD X.K wa)) (hb : PE X b (tD X.K wb)) : PT X (.Compare a [.GtE] [b] pos) (tDT X.K (wTest (wBin wGe wa wb))) := dt_cmp op_geD ge_rd ha hb (nomark _)
theorem t_eq {k : Nat} (hr : Room k X.A) (ha : PE X a (tD X.K wa)) (hb : PE X b (tD X.K wb)) : PT X (.Compare a [.Eq] [b] pos) (tDT X.K (wTest (wBin wEqL wa wb))) := dt_cmp (op_eqA hr.units) eq_rd ha hb (nomark _)
theorem t_ne {k : Nat} (hr : Room k X.A) (ha : PE X a (tD X.K wa)) (hb : PE X b (tD X.K wb)) : PT X (.Compare a [.NotEq] [b] pos) (tDT X.K (wTest (wBin wNeL wa wb))) := dt_cmp (op_neA hr.units) ne_rd ha hb (nomark _)
theorem t_is (ha : PE X a (tD X.K wa)) (hb : PE X b (tD X.K wb)) : PT X (.Compare a [.Is] [b] pos) (tDT X.K (wTest (wBin wIsN wa wb))) := dt_cmp op_isN isN_rd ha hb (nomark _)
theorem t_isnot (ha : PE X a (tD X.K wa)) (hb : PE X b (tD X.K wb)) : PT X (.Compare a [.IsNot] [b] pos) (tDT X.K (wTest (wBin wNotN wa wb))) := dt_cmp op_notN notN_rd ha hb (nomark _)
theorem t_in {k : Nat} (hr : Room k X.A) (ha : PE X a (tD X.K wa)) (hb : PE X b (tD X.K wb)) (hm : behindInMarks .In b = false) : PT X (.Compare a [.In] [b] pos) (tDT X.K (wTest (wBin wIn wa wb))) := dt_cmp (op_inA (by have := hr.un; omega)) in_rd ha hb hm
theorem t_notin {k : Nat} (hr : Room k X.A) (ha : PE X a (tD X.K wa)) (hb : PE X b (tD X.K wb)) (hm : behindInMarks .NotIn b = false) : PT X (.Compare a [.NotIn] [b] pos) (tDT X.K (wTest (wBin wNotIn wa wb))) := dt_cmp (op_notInA (by have := hr.un; omega)) notIn_rd ha hb hm
end
end Dz

set_option Elab.async false
set_option linter.all false
set_option maxRecDepth 100000
set_option maxHeartbeats 4000000
/-! Dz7: lists and dicts that change. -/
namespace Dz
open PySem L2
section
variable {K : PySem.W.Frag} {R : Hp} {μ : Mh} {H : Hp} {p : Addr} {o : HO} {m0 m : MO}
/-- an object changes -/
theorem Ok.setM (k : Ok K R μ H) (h : μ p = some m0) (n0 : m0 ≠ .inner) (hok : MOk K (hid R μ H) (upd H p o) (updM μ p m) p m) : Ok K R (updM μ p m) (upd H p o) ∧ hid R (updM μ p m) (upd H p o) = hid R μ H := by
  have rn : R p = none := by
    cases e : R p with
    | none => rfl
    | some u => have := k.dj p u e; rw [h] at this; cases this
  have eh : hid R (updM μ p m) (upd H p o) = hid R μ H := by
    funext b
    by_cases z : b = p
    · subst z
      have h1 : ∀ (m : MO) (G : Hp) (μ : Mh), μ b = some m → hid R μ G b = none := fun m G μ e => by
        unfold hid
        rw [if_neg fun q => by rw [e] at q; exact Bool.false_ne_true q.2]
      rw [h1 m _ _ updM_same, h1 m0 _ _ h]
    · unfold hid
      rw [updM_ne z, upd_ne z]
  refine ⟨⟨fun a u e => ?_, fun a u e => ?_, fun a u e => ?_⟩, eh⟩
  · rw [upd_ne (fun z => by subst z; rw [rn] at e; cases e)]
    exact k.fr a u e
  · rw [updM_ne (fun z => by subst z; rw [rn] at e; cases e)]
    exact k.dj a u e
  · rw [eh]
    by_cases z : a = p
    · subst z
      rw [updM_same] at e
      cases e
      exact hok
    · rw [updM_ne z] at e
      refine (k.ob a u e).mono (Same.refl _) (upd_ne z) (fun b hb => ?_) e (fun b q => ?_)
      · rw [e] at hb
        cases u with
        | ext near φ =>
          obtain ⟨_, _, hn, _⟩ := k.ob a _ e
          refine upd_ne fun y => ?_
          subst y
          have := hn _ hb
          rw [h] at this
          cases this
          exact n0 rfl
        | _ => cases hb
      · rw [updM_ne fun y => ?_]
        · exact q
        · subst y
          rw [h] at q
          cases q
          exact n0 rfl
end
def valD (kvs : List (Key × DV)) (k : Key) : Option DV := (kvs.find? fun kv => decide (kv.1 = k)).map (·.2)
def putD (kvs : List (Key × DV)) (k : Key) (d : DV) : List (Key × DV) := if (kvs.any fun kv => decide (kv.1 = k)) = true then kvs.map (fun kv => if kv.1 = k then (kv.1, d) else kv) else kvs ++ [(k, d)]
def keyD : DV → Option Key
  | .int i => some (.inl i)
  | .str x => some (.inr x)
  | _ => none
theorem keyD_of {K : PySem.W.Frag} {H : Hp} {v : V} {d : DV} {k : Key} (i : Is K H v d) (h : keyD d = some k) : v = kV k := by
  cases i <;> first | (cases h; rfl) | cases h
section
variable {K : PySem.W.Frag} {H : Hp}
theorem Iss.val : ∀ {kvs : List (Key × V)} {ds : List (Key × DV)} {k : Key} {d : DV}, kvs.map (·.1) = ds.map (·.1) → Iss K H (kvs.map (·.2)) (ds.map (·.2)) → valD ds k = some d → ∃ v, valV kvs k = some v ∧ Is K H v d
  | [], [], _, _, _, _, h => by cases h
  | [], _ :: _, _, _, e, _, _ => by cases e
  | _ :: _, [], _, _, e, _, _ => by cases e
  | (a, v) :: kvs, (b, x) :: ds, k, d, e, r, h => by
    simp only [List.map_cons, List.cons.injEq] at e
    obtain ⟨rfl, e⟩ := e
    simp only [List.map_cons] at r
    cases r with
    | cons r1 r2 =>
      unfold valD at h
      unfold valV
      by_cases c : a = k
      · rw [List.find?_cons_of_pos (by simpa using c)] at h ⊢
        cases h
        exact ⟨v, rfl, r1⟩
      · rw [List.find?_cons_of_neg (by simpa using c)] at h ⊢
        exact Iss.val e r2 h
theorem Iss.put : ∀ {kvs : List (Key × V)} {ds : List (Key × DV)} {k : Key} {v : V} {d : DV}, kvs.map (·.1) = ds.map (·.1) → Iss K H (kvs.map (·.2)) (ds.map (·.2)) → Is K H v d → (putK kvs k v).map (·.1) = (putD ds k d).map (·.1) ∧ Iss K H ((putK kvs k v).map (·.2)) ((putD ds k d).map (·.2)) := by
  intro kvs ds k v d e r i
  have ha : (kvs.any fun kv => decide (kv.1 = k)) = (ds.any fun kv => decide (kv.1 = k)) := by
    have h1 : (kvs.any fun kv => decide (kv.1 = k)) = (kvs.map (·.1)).any fun a => decide (a = k) := by rw [List.any_map]; rfl
    have h2 : (ds.any fun kv => decide (kv.1 = k)) = (ds.map (·.1)).any fun a => decide (a = k) := by rw [List.any_map]; rfl
    rw [h1, h2, e]
  unfold putK putD
  rw [ha]
  by_cases c : (ds.any fun kv => decide (kv.1 = k)) = true
  · rw [if_pos c, if_pos c]
    clear ha c
    induction kvs generalizing ds with
    | nil => cases ds with
      | nil => exact ⟨rfl, .nil⟩
      | cons _ _ => cases e
    | cons a kvs ih => cases ds with
      | nil => cases e
      | cons b ds =>
        simp only [List.map_cons, List.cons.injEq] at e
        simp only [List.map_cons] at r
        cases r with
        | cons r1 r2 =>
          obtain ⟨h1, h2⟩ := ih e.2 r2
          simp only [List.map_cons]
          refine ⟨by rw [h1]; congr 1; rw [e.1]; split <;> first | rfl | exact e.1, .cons ?_ h2⟩
          rw [e.1]
          split
          · exact i
          · exact r1
  · rw [if_neg c, if_neg c]
    simp only [List.map_append, List.map_cons, List.map_nil]
    exact ⟨by rw [e], r.append (.cons i .nil)⟩
end
/-- d[k]: there -/
def wDGet : W2 := fun x y μ P => match x with
  | .obj a => match μ a with
    | some (.dct kvs) => atW (keyD y) fun k => atW (valD kvs k) fun d => P d μ
    | _ => False
  | .dct kvs => atW (keyD y) fun k => atW (valD kvs k) fun d => P d μ
  | _ => False
def wDPut (wd wk wv : WE) : WS := fun E ρ μ => wv ρ μ fun v μ1 => wd ρ μ1 fun x μ2 => wk ρ μ2 fun y μ3 => match x with
  | .obj a => match μ3 a with
    | some (.dct kvs) => atW (keyD y) fun k => kvs.length < sizeLine ∧ E.nx ρ (updM μ3 a (.dct (putD kvs k v)))
    | _ => False
  | _ => False
def wPop : W1 := fun x μ P => match x with
  | .obj a => match μ a with
    | some (.lst ds) => atW ds[ds.length - 1]? fun y => P y (updM μ a (.lst ds.dropLast))
    | _ => False
  | _ => False
/-- a list, as it stands when the receiver is asked -/
def isLstM (x : DV) (μ : Mh) : Prop := match x with
  | .obj a => match μ a with | some (.lst _) => True | _ => False
  | _ => False
def wApp (wo we : WE) : WE := fun ρ μ P => wo ρ μ fun x μ1 => isLstM x μ1 ∧ we ρ μ1 fun y μ2 => match x with
  | .obj a => match μ2 a with
    | some (.lst ds) => ds.length < sizeLine ∧ P .none (updM μ2 a (.lst (ds ++ [y])))
    | _ => False
  | _ => False
def extW (ds : List DV) (y : DV) (Q : List DV → Prop) : Prop := match y with
  | .lst es => ds.length + es.length ≤ sizeLine ∧ Q (ds ++ es)
  | _ => False
def wExt (wo we : WE) : WE := fun ρ μ P => wo ρ μ fun x μ1 => isLstM x μ1 ∧ we ρ μ1 fun y μ2 => match x with
  | .obj a => match μ2 a with
    | some (.lst ds) => extW ds y fun zs => P .none (updM μ2 a (.lst zs))
    | _ => False
  | _ => False
section
variable {X : Cx} {e ke ve oe : Expr} {pos apos : Pos} {w wd wk wv wo we : WE}
theorem dget_core {K : PySem.W.Frag} {R : Hp} {μ : Mh} {H : Hp} {v u : V} {x y : DV} {P : DV → Mh → Prop} (o : Ok K R μ H) (i : Is K (hid R μ H) v x) (j : Is K (hid R μ H) u y) (w : wDGet x y μ P) : ∃ a z d, v = .ref a ∧ DGet H a u (some z) ∧ Is K (hid R μ H) z d ∧ P d μ := by
  cases i with
  | obj a =>
    have w' : (match μ a with | some (.dct kvs) => atW (keyD y) fun k => atW (valD kvs k) fun d => P d μ | _ => False) := w
    split at w'
    · rename_i kvs e
      obtain ⟨k, h1, w2⟩ := atW_of w'
      obtain ⟨d, h2, w3⟩ := atW_of w2
      obtain ⟨ks, h3, h4, h5⟩ := o.ob a _ e
      obtain ⟨z, h6, h7⟩ := Iss.val h4 h5 h2
      exact ⟨a, z, d, rfl, by rw [keyD_of j h1, ← h6]; exact DGet.k h3, h7, w3⟩
    · exact w'.elim
  | dct h4 h5 h6 =>
    obtain ⟨k, h1, w2⟩ := atW_of (show atW (keyD y) _ from w)
    obtain ⟨d, h2, w3⟩ := atW_of w2
    obtain ⟨z, h7, h8⟩ := Iss.val h5 h6 h2
    exact ⟨_, z, d, rfl, by rw [keyD_of j h1, ← h7]; exact DGet.k (hid_le _ _ h4), h8, w3⟩
  | _ => exact (show False from w).elim
theorem d_dget {k : Nat} (hr : Room k X.A) (ho : PE X oe (tD X.K wo)) (hi : PE X ke (tD X.K wk)) (hs : NoSl ke := by exact fun _ _ => rfl) : PE X (.Subscript oe ke pos) (tD X.K (wBin wDGet wo wk)) :=
  PE.imp (pe_dget (by have := hr.un; omega) ho hi hs) fun σ H Q ⟨R, ρ, μ, P, a, w, k⟩ => ⟨R, ρ, μ, _, a, w, fun x μ1 v H1 p1 o1 s1 i1 => ⟨R, ρ, μ1, _, a.step o1 s1, p1, fun y μ2 u H2 p2 o2 s2 i2 => by
    obtain ⟨b, z, d, e, g, i3, p3⟩ := dget_core o2 (i1.mono s2) i2 p2
    exact ⟨b, z, e, g, (k.step (s1.trans s2)).val o2 p3 i3⟩⟩⟩
theorem ds_dput {k : Nat} {pos' : Pos} (hr : Room k X.A) (ho : PE X oe (tD X.K wd)) (hi : PE X ke (tD X.K wk)) (hv : PE X ve (tD X.K wv)) (hs : swapsWith ve (some (.Subscript oe ke pos')) pos.line X.env = pure false := by rfl) : PS X (.Assign [.Subscript oe ke pos'] ve pos) (tDS X.K (wDPut wd wk wv)) :=
  PS.imp (ps_dput (by have := hr.un; omega) ho hi hv hs) fun D σ H ⟨R, ρ, μ, E, a, w, k⟩ => ⟨R, ρ, μ, _, a, w, fun v μ1 vv H1 p1 o1 s1 i1 => ⟨R, ρ, μ1, _, a.step o1 s1, p1, fun x μ2 xv H2 p2 o2 s2 i2 => ⟨R, ρ, μ2, _, a.step o2 (s1.trans s2), p2, fun y μ3 yv H3 p3 o3 s3 i3 => by
    cases i2 with
    | obj b =>
      have p3' : (match μ3 b with | some (.dct kvs) => atW (keyD y) fun k => kvs.length < sizeLine ∧ E.nx ρ (updM μ3 b (.dct (putD kvs k v))) | _ => False) := p3
      split at p3'
      · rename_i kvs e
        obtain ⟨key, h1, hl, w3⟩ := atW_of p3'
        obtain ⟨ks, h3, h4, h5⟩ := o3.ob b _ e
        obtain ⟨h6, h7⟩ := Iss.put (k := key) h4 h5 (i1.mono (s2.trans s3))
        obtain ⟨o4, e4⟩ := o3.setM (o := .dK (putK ks key vv)) (m := .dct (putD kvs key v)) e (by intro z; cases z) ⟨_, upd_same, h6, h7⟩
        have hlen : ks.length = kvs.length := by have := congrArg List.length h4; simpa using this
        refine ⟨b, _, rfl, by rw [keyD_of i3 h1]; exact DPut.k h3 (by rw [hlen]; exact hl), k.nx ρ _ σ _ w3 ⟨o4, ?_⟩ ?_⟩
        · rw [e4]
          exact a.sl.mono ((s1.trans s2).trans s3)
        · rw [e4]
          exact (s1.trans s2).trans s3
      · exact p3'.elim
    | _ => exact (show False from p3).elim⟩⟩⟩
theorem d_pop (ho : PE X oe (tD X.K wo)) (hbase : attributeBase oe "pop" X.env (eval oe X.env) = eval oe X.env := by rfl) (hline : (apos.endLine == pos.line) = true := by rfl) : PE X (.Call (.Attribute oe "pop" apos) [] [] pos) (tD X.K (wUn wPop wo)) :=
  PE.imp (pe_bm0 PySem.F.plainAttrs_list PySem.F.slot_list_pop PySem.F.type_list_pop mt_pop ho hbase hline) fun σ H Q ⟨R, ρ, μ, P, a, w, k⟩ => ⟨R, ρ, μ, _, a, w, fun x μ1 v H1 p1 o1 s1 i1 => by
    cases i1 with
    | obj b =>
      have p1' : (match μ1 b with | some (.lst ds) => atW ds[ds.length - 1]? fun y => P y (updM μ1 b (.lst ds.dropLast)) | _ => False) := p1
      split at p1'
      · rename_i ds e
        obtain ⟨y, hy, w2⟩ := atW_of p1'
        obtain ⟨xs, h3, h4⟩ := o1.ob b _ e
        have hl := h4.length
        obtain ⟨z, h5, h6⟩ := h4.get hy
        have hd : Iss X.K (hid R μ1 H1) xs.dropLast ds.dropLast := by
          rw [List.dropLast_eq_take, List.dropLast_eq_take, hl]
          exact h4.take _
        obtain ⟨o4, e4⟩ := o1.setM (o := .lst xs.dropLast) (m := .lst ds.dropLast) e (by intro z; cases z) ⟨_, upd_same, hd⟩
        refine ⟨.inl ⟨rfl, _, SqL.of h3⟩, b, xs, z, rfl, rfl, h3, by rw [hl]; exact h5, k _ _ _ _ w2 o4 ?_ ?_⟩
        · rw [e4]; exact s1
        · rw [e4]; exact h6
      · exact p1'.elim
    | _ => exact (show False from p1).elim⟩
theorem isLstM_of {K : PySem.W.Frag} {R : Hp} {μ : Mh} {H : Hp} {v : V} {x : DV} (o : Ok K R μ H) (i : Is K (hid R μ H) v x) (h : isLstM x μ) : ∃ b, x = .obj b ∧ v = .ref b ∧ tyV K "list" v H := by
  cases i with
  | obj b =>
    have h' : (match μ b with | some (.lst _) => True | _ => False) := h
    split at h'
    · rename_i ds e
      obtain ⟨xs, h3, h4⟩ := o.ob b _ e
      exact ⟨b, rfl, rfl, .inl ⟨rfl, _, SqL.of h3⟩⟩
    · exact h'.elim
  | _ => exact (show False from h).elim
theorem d_append (ho : PE X oe (tD X.K wo)) (he : PE X e (tD X.K we)) (hs : starEach [e] X.env = [(false, eval e X.env)] := by rfl) (hbase : attributeBase oe "append" X.env (eval oe X.env) = eval oe X.env := by rfl)
    (hfew : ((backTo pos (starEach [e] X.env)).all (fun x => !x.1) && (backToKw pos (keywordEach [] X.env)).all (fun x => x.1.isSome) && decide (([e] : List Expr).length + ([] : List Keyword).length + (if ([] : List Keyword).isEmpty then 0 else 1) < 30)) = true := by rfl) (hline : (apos.endLine == pos.line) = true := by rfl) : PE X (.Call (.Attribute oe "append" apos) [e] [] pos) (tD X.K (wApp wo we)) :=
  PE.imp (pe_bm PySem.F.plainAttrs_list PySem.F.slot_list_append PySem.F.type_list_append mt_append ho (pa_cons he pa_nil hs) hbase hfew hline hs) fun σ H Q ⟨R, ρ, μ, P, a, w, k⟩ => ⟨R, ρ, μ, _, a, w, fun x μ1 v H1 p1 o1 s1 i1 => by
    obtain ⟨b, rfl, rfl, ht⟩ := isLstM_of o1 i1 p1.1
    refine ⟨ht, R, ρ, μ1, _, a.step o1 s1, p1.2, fun y μ2 u H2 p2 o2 s2 i2 => ?_⟩
    have p2' : (match μ2 b with | some (.lst ds) => ds.length < sizeLine ∧ P .none (updM μ2 b (.lst (ds ++ [y]))) | _ => False) := p2
    split at p2'
    · rename_i ds e
      obtain ⟨xs, h3, h4⟩ := o2.ob b _ e
      obtain ⟨o4, e4⟩ := o2.setM (o := .lst (xs ++ [u])) (m := .lst (ds ++ [y])) e (by intro z; cases z) ⟨_, upd_same, h4.append (.cons i2 .nil)⟩
      refine ⟨b, xs, u, rfl, rfl, h3, by rw [h4.length]; exact p2'.1, k _ _ _ _ p2'.2 o4 ?_ .none⟩
      rw [e4]
      exact s1.trans s2
    · exact p2'.elim⟩
theorem d_extend (ho : PE X oe (tD X.K wo)) (he : PE X e (tD X.K we)) (hs : starEach [e] X.env = [(false, eval e X.env)] := by rfl) (hbase : attributeBase oe "extend" X.env (eval oe X.env) = eval oe X.env := by rfl)
    (hfew : ((backTo pos (starEach [e] X.env)).all (fun x => !x.1) && (backToKw pos (keywordEach [] X.env)).all (fun x => x.1.isSome) && decide (([e] : List Expr).length + ([] : List Keyword).length + (if ([] : List Keyword).isEmpty then 0 else 1) < 30)) = true := by rfl) (hline : (apos.endLine == pos.line) = true := by rfl) : PE X (.Call (.Attribute oe "extend" apos) [e] [] pos) (tD X.K (wExt wo we)) :=
  PE.imp (pe_bm PySem.F.plainAttrs_list PySem.F.slot_list_extend PySem.F.type_list_extend mt_extend ho (pa_cons he pa_nil hs) hbase hfew hline hs) fun σ H Q ⟨R, ρ, μ, P, a, w, k⟩ => ⟨R, ρ, μ, _, a, w, fun x μ1 v H1 p1 o1 s1 i1 => by
    obtain ⟨b, rfl, rfl, ht⟩ := isLstM_of o1 i1 p1.1
    refine ⟨ht, R, ρ, μ1, _, a.step o1 s1, p1.2, fun y μ2 u H2 p2 o2 s2 i2 => ?_⟩
    have p2' : (match μ2 b with | some (.lst ds) => extW ds y fun zs => P .none (updM μ2 b (.lst zs)) | _ => False) := p2
    split at p2'
    · rename_i ds e
      obtain ⟨xs, h3, h4⟩ := o2.ob b _ e
      cases i2 with
      | lst h5 h6 =>
        obtain ⟨o4, e4⟩ := o2.setM (o := .lst (xs ++ _)) (m := .lst (ds ++ _)) e (by intro z; cases z) ⟨_, upd_same, h4.append h6⟩
        refine ⟨b, _, xs, _, rfl, rfl, h3, hid_le _ _ h5, by rw [h4.length, h6.length]; exact p2'.1, k _ _ _ _ p2'.2 o4 ?_ .none⟩
        rw [e4]
        exact s1.trans s2
      | _ => exact (show False from p2').elim
    · exact p2'.elim⟩
end
end Dz

set_option Elab.async false
set_option linter.all false
set_option maxRecDepth 100000
set_option maxHeartbeats 4000000
/-! Dz8: defs of the text by name: where they stand, and what they promise. -/
namespace Dz
open PySem L2

/-- a def of the text stands under its name -/
def At1 (K : PySem.W.Frag) (mg : Str → Option Value) (x : Str) (st : Stmt) : Prop := ∃ f fd, mg x = some (.ref f) ∧ Fun K x x st f fd
/-- .. and keeps a promise over data, by at most level k -/
def Def (P : Program) (w : World) (K : PySem.W.Frag) (mg : Str → Option Value) (base : Heap) (k : Nat) (x : Str) (st : Stmt) (ps : List Str) (wf : WF) : Prop :=
  ∃ f fd, mg x = some (.ref f) ∧ Fun K x x st f fd ∧ FnG P w K mg base k f fd ps (spD K ps.length wf)
theorem Def.mono {P : Program} {w : World} {K : PySem.W.Frag} {mg : Str → Option Value} {base : Heap} {j k : Nat} {x : Str} {st : Stmt} {ps : List Str} {wf : WF} (h : Def P w K mg base j x st ps wf) (l : j ≤ k) : Def P w K mg base k x st ps wf :=
  let ⟨f, fd, a, b, c⟩ := h; ⟨f, fd, a, b, c.mono l⟩
/-- never called -/
def wfNo : WF := fun _ _ _ => False
theorem Def.no {P : Program} {w : World} {K : PySem.W.Frag} {mg : Str → Option Value} {base : Heap} {k : Nat} {x : Str} {st : Stmt} {ps : List Str} (h : At1 K mg x st) : Def P w K mg base k x st ps wfNo := by
  obtain ⟨f, fd, a, b⟩ := h
  exact ⟨f, fd, a, b, fun vs H Q E ⟨_, _, _, _, _, _, _, z, _⟩ => z.elim, fun A fr s H ar us vs Q E _ _ _ _ _ ⟨_, _, _, _, _, _, _, z, _⟩ => z.elim⟩
theorem Def.imp {P : Program} {w : World} {K : PySem.W.Frag} {mg : Str → Option Value} {base : Heap} {k : Nat} {x : Str} {st : Stmt} {ps : List Str} {wf wf' : WF} (h : Def P w K mg base k x st ps wf) (i : ∀ ds μ Q, wf' ds μ Q → wf ds μ Q) : Def P w K mg base k x st ps wf' := by
  obtain ⟨f, fd, a, b, c⟩ := h
  refine ⟨f, fd, a, b, fun vs H Q E ⟨R, ds, μ, P', h1, h2, h3, h4, h5⟩ => c.len vs H Q E ⟨R, ds, μ, P', h1, h2, h3, i _ _ _ h4, h5⟩, fun A fr s H ar us vs Q E g r e bb v ⟨R, ds, μ, P', h1, h2, h3, h4, h5⟩ => c.run A fr s H ar us vs Q E g r e bb v ⟨R, ds, μ, P', h1, h2, h3, i _ _ _ h4, h5⟩⟩
/-- the rule for a def: its body's reading, and that the promise gives it -/
theorem def_of {P : Program} {w0 : World} {K : PySem.W.Frag} {mg : Str → Option Value} {base : Heap} {x : Str} {st : Stmt} {N ps : List Str} {k : Nat} {w : WS} {wf : WF} (h : At1 K mg x st) (S : FnScope N ps (defScope st))
    (hb : ∀ (f : Addr) (cdv : Value) (A : Around) (outer : List Env) (s : Shared) (H : Hp) (E : XK), A.guards = some [] → Room k (A.deeper (PyProof.Rows.envOfC x (defScope st) s.heap.objs.size f cdv)) →
      PSs (cxOf CX0 P w0 K mg base N x (defScope st) f cdv A outer s H E).nox (defBody st) (tDS K w))
    (hw : ∀ ds μ Q, ds.length = ps.length → wf ds μ Q → w { nx := fun _ μ' => Q .none μ', rt := Q } (ds.map some ++ List.replicate (N.length - ps.length) none) μ) : Def P w0 K mg base (k + 1) x st ps wf := by
  obtain ⟨f, fd, a, F⟩ := h
  exact ⟨f, fd, a, F, fn_dat F S rfl (hb f) hw⟩
section
variable {X : Cx} {k j n : Nat} {st : Stmt} {ps : List Str} {wf : WF} {x : Str} {p pos : Pos} {e : Expr} {es : List Expr} {wa wk : WA}
/-- f(e, ..): hb is «fun _ _ _ _ _ _ us hl => match us, hl with | [_, _], _ => rfl» -/
theorem d_f (D : Def X.prog X.w X.K X.mg X.base k x st ps wf) (hgd : X.A.guards = some []) (hr : Room j X.A) (hk : k ≤ j) (hg : Gl X x)
    (hb : ∀ (kV doc pm : Value) (an : Option Addr) (cdv ct : Value) (us : List Value), us.length = ps.length → bindArgs (PySem.W.fnOf x x (defArgs st) (defBody st) (defScope st) .none kV doc pm an cdv ct) ⟨us, []⟩ = pure (ps.zip us))
    (ha : PA X (e :: es) (tDA X.K wa)) (hd : (x == ("__debug__" : Str)) = false := by decide) (he : starEach (e :: es) X.env = (false, eval e X.env) :: starEach es X.env := by rfl) (hpl : (backTo pos (starEach es X.env)).any (·.1) = false := by rfl) (hn : ps.length = n := by rfl) :
    PE X (.Call (.Name x p) (e :: es) [] pos) (tD X.K (wCall n wf wa)) := by
  subst hn
  obtain ⟨f, fd, hm, F, G⟩ := D
  exact d_call G hgd (hr.mono hk) hg hm F.kp (F.binds hb) ha hd he hpl
theorem d_f0 (D : Def X.prog X.w X.K X.mg X.base k x st ps wf) (hgd : X.A.guards = some []) (hr : Room j X.A) (hk : k ≤ j) (hg : Gl X x)
    (hb : ∀ (kV doc pm : Value) (an : Option Addr) (cdv ct : Value) (us : List Value), us.length = ps.length → bindArgs (PySem.W.fnOf x x (defArgs st) (defBody st) (defScope st) .none kV doc pm an cdv ct) ⟨us, []⟩ = pure (ps.zip us)) (hd : (x == ("__debug__" : Str)) = false := by decide) (hn : ps.length = n := by rfl) :
    PE X (.Call (.Name x p) [] [] pos) (tD X.K (wCall n wf wNil)) := by
  subst hn
  obtain ⟨f, fd, hm, F, G⟩ := D
  exact d_call0 G hgd (hr.mono hk) hg hm F.kp (F.binds hb) hd
/-- keywords in another order -/
def perm {α : Type} (ix : List Nat) (l : List α) : List α := ix.filterMap fun i => l[i]?
theorem perm_vals {vs : List V} {us : List Value} (r : Vals vs us) : ∀ ix : List Nat, Vals (perm ix vs) (perm ix us)
  | [] => .nil
  | i :: ix => by
    have h := perm_vals r ix
    unfold perm at h ⊢
    rw [List.filterMap_cons, List.filterMap_cons]
    cases e : vs[i]? with
    | none =>
      rw [r.none_of e]
      exact h
    | some v =>
      obtain ⟨u, e2, ru⟩ := r.get e
      rw [e2]
      exact .cons ru h
theorem perm_iss {K : PySem.W.Frag} {H : Hp} {vs : List V} {ds : List DV} (r : Iss K H vs ds) : ∀ ix : List Nat, Iss K H (perm ix vs) (perm ix ds)
  | [] => .nil
  | i :: ix => by
    have h := perm_iss r ix
    unfold perm at h ⊢
    rw [List.filterMap_cons, List.filterMap_cons]
    cases e : ds[i]? with
    | none =>
      have : vs[i]? = none := by
        rw [List.getElem?_eq_none_iff] at e ⊢
        rw [r.length]
        exact e
      rw [this]
      exact h
    | some d =>
      obtain ⟨v, e2, rv⟩ := r.get e
      rw [e2]
      exact .cons rv h
def wCallP (n : Nat) (wf : WF) (ix : List Nat) (wk : WA) : WE := fun ρ μ P => wk ρ μ fun ds μ1 => (perm ix ds).length = n ∧ wf (perm ix ds) μ1 P
/-- f(k = e, ..), keywords alone; ix: which keyword stands at each parameter -/
theorem d_fK {ks : List Str} {kws : List Keyword} (ix : List Nat) (D : Def X.prog X.w X.K X.mg X.base k x st ps wf) (hgd : X.A.guards = some []) (hr : Room j X.A) (hk : k ≤ j) (hg : Gl X x)
    (hb : ∀ (kV doc pm : Value) (an : Option Addr) (cdv ct : Value) (ws : List Value), (perm ix ws).length = ps.length → bindArgs (PySem.W.fnOf x x (defArgs st) (defBody st) (defScope st) .none kV doc pm an cdv ct) ⟨[], ks.zip ws⟩ = pure (ps.zip (perm ix ws)))
    (hkw : PK X kws (tDA X.K wk)) (hall : (backToKw pos (keywordEach kws X.env)).all (·.1.isSome) = true := by rfl) (hks : (backToKw pos (keywordEach kws X.env)).filterMap (·.1) = ks := by rfl) (hdb : (x == ("__debug__" : Str)) = false := by decide)
    (hpl : ((backTo pos (starEach [] X.env)).any (·.1) || (backToKw pos (keywordEach kws X.env)).any (·.1.isNone)) = false := by rfl) (hn : ps.length = n := by rfl) : PE X (.Call (.Name x p) [] kws pos) (tD X.K (wCallP n wf ix wk)) := by
  subst hn
  obtain ⟨f, fd, hm, F, G⟩ := D
  obtain ⟨oc, od, kV, doc, pm, an, cdv, ct, osl, efd, lk, hcd⟩ := F.ex
  refine ⟨fun pins s σ H Q I h => ?_⟩
  obtain ⟨R, ρ, μ, P, a, w, kk⟩ := h
  refine wpAny_Call_Name_kw (ld_glob I hg hm (PySem.W.callWith_KW0 (h₀ := X.base) I.ok.mod.kin F.kp hall (thn (hkw.run pos pins s σ H (fun vs H' => spD X.K ps.length wf (perm ix vs) H' Q E0) I ⟨R, ρ, μ, _, a, w, fun ds μ1 vs H1 p1 o1 s1 i1 =>
    ⟨R, perm ix ds, μ1, P, o1, perm_iss i1 ix, p1.1, p1.2, kk.step s1⟩⟩) fun us s2 ⟨zs, H2, I2, rz, q2⟩ => ⟨I2.kIn, ?_⟩) hpl) hdb)
  rw [hks]
  have rr : Vals (perm ix zs) (perm ix us) := perm_vals rz ix
  refine runG (ar := ⟨[], ks.zip us⟩) G hgd (hr.mono hk) I2 ?_ rr q2
  rw [efd]
  exact .of_eq (hb kV doc pm an cdv ct us (by rw [← rr.length]; exact G.len _ _ _ _ q2))
end
end Dz

set_option Elab.async false
set_option linter.all false
set_option maxRecDepth 100000
set_option maxHeartbeats 4000000
/-! Dz9: xs[::-1]; dicts written with many pairs; new objects out of things set aside. -/
namespace Dz
open PySem L2
section
variable {K : PySem.W.Frag} {R : Hp} {μ : Mh} {H : Hp} {p : Addr} {o o' : HO} {m : MO}
/-- what was set aside becomes an object that may change -/
theorem Ok.promote (k : Ok K (upd R p o) μ H) (rn : R p = none) (hm : MOk K (hid (upd R p o) μ H) (upd H p o') (updM μ p m) p m) : Ok K R (updM μ p m) (upd H p o') ∧ hid R (updM μ p m) (upd H p o') = hid (upd R p o) μ H := by
  have mn : μ p = none := k.dj p o upd_same
  have eh : hid R (updM μ p m) (upd H p o') = hid (upd R p o) μ H := by
    funext b
    by_cases z : b = p
    · subst z
      have h1 : hid R (updM μ b m) (upd H b o') b = none := by
        unfold hid
        rw [if_neg fun q => by rw [updM_same] at q; exact Bool.false_ne_true q.2]
      have h2 : hid (upd R b o) μ H b = none := by
        unfold hid
        rw [if_neg fun q => by rw [upd_same] at q; exact Bool.false_ne_true q.1]
      rw [h1, h2]
    · unfold hid
      rw [updM_ne z, upd_ne z, upd_ne z]
  refine ⟨⟨fun a u e => ?_, fun a u e => ?_, fun a u e => ?_⟩, eh⟩
  · have z : a ≠ p := fun z => by subst z; rw [rn] at e; cases e
    rw [upd_ne z]
    exact k.fr a u (by rw [upd_ne z]; exact e)
  · have z : a ≠ p := fun z => by subst z; rw [rn] at e; cases e
    rw [updM_ne z]
    exact k.dj a u (by rw [upd_ne z]; exact e)
  · rw [eh]
    by_cases z : a = p
    · subst z
      rw [updM_same] at e
      cases e
      exact hm
    · rw [updM_ne z] at e
      refine (k.ob a u e).mono (Same.refl _) (upd_ne z) (fun b hb => ?_) e (fun b q => ?_)
      · rw [e] at hb
        cases u with
        | ext near φ =>
          obtain ⟨_, _, hn, _⟩ := k.ob a _ e
          refine upd_ne fun y => ?_
          subst y
          have := hn _ hb
          rw [mn] at this
          cases this
        | _ => cases hb
      · rw [updM_ne fun y => by subst y; rw [mn] at q; cases q]
        exact q
end
/-! ### pairs -/
abbrev trsD (K : PySem.W.Frag) (ws : List (Key × WE)) : List (TE × TE) := ws.map fun kw => (tC (kV kw.1), tD K kw.2)
theorem pairs_imp {K : PySem.W.Frag} {R : Hp} {σ : St} {ρ : Rho} : ∀ (ws : List (Key × WE)) {μ : Mh} {H : Hp} {P : List (Key × DV) → Mh → Prop} {Q : List (V × V) → Hp → Prop}, At K R σ ρ μ H → wPairs ws ρ μ P →
    (∀ (ds : List (Key × DV)) μ' (kvs : List (Key × V)) H', P ds μ' → Ok K R μ' H' → Same (hid R μ H) (hid R μ' H') → kvs.map (·.1) = ws.map (·.1) → kvs.map (·.1) = ds.map (·.1) → Iss K (hid R μ' H') (kvs.map (·.2)) (ds.map (·.2)) → Q (kvs.map fun kv => (kV kv.1, kv.2)) H') → tPairs (trsD K ws) σ H Q
  | [], μ, H, P, Q, a, w, k => k [] μ [] H w a.ok (Same.refl _) rfl rfl .nil
  | (key, w1) :: ws, μ, H, P, Q, a, w, k => by
    show tD K w1 σ H _
    exact ⟨R, ρ, μ, _, a, w, fun d μ1 v H1 p1 o1 s1 i1 => pairs_imp ws (a.step o1 s1) p1 fun ds μ2 kvs H2 p2 o2 s2 e1 e2 i2 =>
      k ((key, d) :: ds) μ2 ((key, v) :: kvs) H2 p2 o2 (s1.trans s2) (by rw [List.map_cons, List.map_cons, e1]) (by rw [List.map_cons, List.map_cons, e2]) (.cons (i1.mono s2) i2)⟩
theorem putK_new {kvs : List (Key × V)} {k : Key} {v : V} (h : k ∉ kvs.map (·.1)) : putK kvs k v = kvs ++ [(k, v)] := by
  unfold putK
  rw [if_neg]
  intro z
  rw [List.any_eq_true] at z
  obtain ⟨x, hx, e⟩ := z
  exact h (List.mem_map.mpr ⟨x, hx, of_decide_eq_true e⟩)
theorem mergeK_new : ∀ (more acc : List (Key × V)), ((acc ++ more).map (·.1)).Nodup → mergeK acc more = acc ++ more
  | [], acc, _ => by rw [List.append_nil]; rfl
  | p :: r, acc, h => by
    show mergeK (putK acc p.1 p.2) r = _
    have h' := h
    rw [List.map_append, List.map_cons, List.nodup_append] at h'
    rw [putK_new (fun z => h'.2.2 _ z _ List.mem_cons_self rfl)]
    have e : acc ++ [(p.1, p.2)] ++ r = acc ++ p :: r := by simp
    rw [mergeK_new r _ (by rw [e]; exact h), e]
section
variable {X : Cx} {pos : Pos} {keys : List (Option Expr)} {values : List Expr}
/-- {k: v, ..}, read alone -/
theorem d_dctN (ws : List (Key × WE)) (h : PPs X pos keys values (trsD X.K ws)) (hall : keys.all (·.isSome) = true := by rfl) (hl : keys.length = values.length := by rfl) (h0 : keys ≠ [] := by intro z; cases z)
    (h15 : keys.length ≤ 15 := by decide) (hw : ws.length ≤ 15 := by decide) (hn : (ws.map (·.1)).Nodup := by decide) : PE X (.Dict keys values pos) (tD X.K (wDct ws)) :=
  PE.imp (pe_disp h hall hl h0 h15) fun σ H Q ⟨R, ρ, μ, P, a, w, k⟩ => fun p n => by
    obtain ⟨o1, e1⟩ := a.ok.frame (o := .dK []) n
    refine pairs_imp ws ⟨o1, by rw [e1]; exact a.sl⟩ w fun ds μ1 kvs H1 p1 o2 s2 e2 e3 i2 => ⟨o2.fr p _ upd_same, kvs, rfl, ?_, ?_⟩
    · have := congrArg List.length e2
      rw [List.length_map, List.length_map] at this
      omega
    have rn := a.ok.freeR n
    rw [e1] at s2
    rw [mergeK_new _ _ (by rw [List.nil_append, e2]; exact hn), List.nil_append]
    obtain ⟨o3, e4⟩ := o2.reframe (o' := .dK kvs)
    obtain ⟨o4, s4, h4⟩ := o3.unframe rn
    rw [e4] at s4
    exact k _ μ1 _ _ p1 o4 (s2.trans s4) (.dct h4 e3 (i2.mono s4))
/-- {k: v, ..} that will change -/
def wDctM (ws : List (Key × WE)) : WE := fun ρ μ P => wPairs ws ρ μ fun ds μ1 => ∀ p, μ1 p = none → P (.obj p) (updM μ1 p (.dct ds))
theorem d_dctM (ws : List (Key × WE)) (h : PPs X pos keys values (trsD X.K ws)) (hall : keys.all (·.isSome) = true := by rfl) (hl : keys.length = values.length := by rfl) (h0 : keys ≠ [] := by intro z; cases z)
    (h15 : keys.length ≤ 15 := by decide) (hw : ws.length ≤ 15 := by decide) (hn : (ws.map (·.1)).Nodup := by decide) : PE X (.Dict keys values pos) (tD X.K (wDctM ws)) :=
  PE.imp (pe_disp h hall hl h0 h15) fun σ H Q ⟨R, ρ, μ, P, a, w, k⟩ => fun p n => by
    obtain ⟨o1, e1⟩ := a.ok.frame (o := .dK []) n
    refine pairs_imp ws ⟨o1, by rw [e1]; exact a.sl⟩ w fun ds μ1 kvs H1 p1 o2 s2 e2 e3 i2 => ⟨o2.fr p _ upd_same, kvs, rfl, ?_, ?_⟩
    · have := congrArg List.length e2
      rw [List.length_map, List.length_map] at this
      omega
    have rn := a.ok.freeR n
    rw [e1] at s2
    rw [mergeK_new _ _ (by rw [List.nil_append, e2]; exact hn), List.nil_append]
    obtain ⟨o3, e4⟩ := o2.promote (o' := .dK kvs) (m := .dct ds) rn ⟨kvs, upd_same, e3, i2⟩
    refine k _ _ _ _ (p1 p (o2.dj p _ upd_same)) o3 ?_ (.obj p)
    rw [e4]
    exact s2
/-! ### xs[::-1] -/
def wRev (w : WE) : WE := fun ρ μ P => w ρ μ fun d μ1 => match d with
  | .lst ds => P (.lst ds.reverse) μ1
  | .fix ds => P (.lst ds.reverse) μ1
  | _ => False
def wRevM (w : WE) : WE := fun ρ μ P => w ρ μ fun d μ1 => match d with
  | .lst ds => ∀ p, μ1 p = none → P (.obj p) (updM μ1 p (.lst ds.reverse))
  | .fix ds => ∀ p, μ1 p = none → P (.obj p) (updM μ1 p (.lst ds.reverse))
  | _ => False
variable {e : Expr} {w : WE} {k1 : Nat} {p1 p2 p3 : Pos}
theorem d_rev (he : PE X e (tD X.K w)) : PE X (.Subscript e (.Slice none none (some (.UnaryOp .USub (.Constant (.int 1) k1 p1) p2)) p3) pos) (tD X.K (wRev w)) :=
  PE.imp (pe_revL he) fun σ H Q ⟨R, ρ, μ, P, a, w, k⟩ => ⟨R, ρ, μ, _, a, w, fun d μ1 v H1 p1 o1 s1 i1 => by
    cases i1 with
    | lst hx rx => exact ⟨_, _, rfl, SqL.of (hid_le _ _ hx), fun p n => (k.step s1).lst o1 p1 rx.reverse n⟩
    | fix hx rx => exact ⟨_, _, rfl, hid_le.seq hx, fun p n => (k.step s1).lst o1 p1 rx.reverse n⟩
    | _ => exact (show False from p1).elim⟩
theorem d_revM (he : PE X e (tD X.K w)) : PE X (.Subscript e (.Slice none none (some (.UnaryOp .USub (.Constant (.int 1) k1 p1) p2)) p3) pos) (tD X.K (wRevM w)) :=
  PE.imp (pe_revL he) fun σ H Q ⟨R, ρ, μ, P, a, w, k⟩ => ⟨R, ρ, μ, _, a, w, fun d μ1 v H1 p1 o1 s1 i1 => by
    have go : ∀ (b : Addr) (xs : List V) (ds : List DV), SqL X.K H1 b xs → Iss X.K (hid R μ1 H1) xs ds → (∀ p, μ1 p = none → P (.obj p) (updM μ1 p (.lst ds.reverse))) → ∃ a xs, V.ref b = .ref a ∧ SqL X.K H1 a xs ∧ ∀ p, H1 p = none → Q (.ref p) (upd H1 p (.lst xs.reverse)) := fun b xs ds hx rx q =>
      ⟨b, xs, rfl, hx, fun p n => by
        have fm := o1.freeM n
        have hs : Same (hid R μ1 H1) (hid R (updM μ1 p (.lst ds.reverse)) (upd H1 p (.lst xs.reverse))) := fun b u e => by
          obtain ⟨e1, e2, e3⟩ := hid_some e
          have ne := ne_of_none e3 n
          rw [hid_at e1 (by rw [updM_ne ne]; exact e2), upd_ne ne]
          exact e3
        obtain ⟨o2, s2⟩ := o1.newM (o := .lst xs.reverse) (m := .lst ds.reverse) n ⟨_, upd_same, rx.reverse.mono hs⟩ (by intro z; cases z)
        exact (k.step s1) _ _ _ _ (q p fm) o2 s2 (.obj p)⟩
    cases i1 with
    | lst hx rx => exact go _ _ _ (SqL.of (hid_le _ _ hx)) rx p1
    | fix hx rx => exact go _ _ _ (hid_le.seq hx) rx p1
    | _ => exact (show False from p1).elim⟩
end
end Dz

set_option Elab.async false
set_option linter.all false
set_option maxRecDepth 100000
set_option maxHeartbeats 2000000
/-! DzD: the deck that the laws draw from: each draw is some number below what is asked. -/
namespace Dz
open PySem L2

/-- a deck that stands at a, its cells at c, good for m draws -/
structure HasDeck (nm : Str) (μ : Mh) (a c : Addr) (m : Nat) : Prop where
  ne : c ≠ a
  ex : ∃ (t n : Int) (cells : List Int), μ a = some (.dct [(.inr "cells", .obj c), (.inr nm, .int t), (.inr "draws", .int n)]) ∧ μ c = some (.lst (cells.map .int)) ∧ 0 ≤ t ∧ t < 2 ^ 32 ∧ 0 ≤ n ∧ n + m ≤ 2 ^ 40 ∧ cells.length ≤ 63
theorem HasDeck.le {nm : Str} {μ : Mh} {a c : Addr} {m m' : Nat} (h : HasDeck nm μ a c m) (l : m' ≤ m) : HasDeck nm μ a c m' := by
  obtain ⟨ne, t, n, cs, h1, h2, h3, h4, h5, h6, h7⟩ := h
  exact ⟨ne, t, n, cs, h1, h2, h3, h4, h5, by omega, h7⟩
theorem HasDeck.keep {nm : Str} {μ μ' : Mh} {a c : Addr} {m : Nat} (h : HasDeck nm μ a c m) (h1 : μ' a = μ a) (h2 : μ' c = μ c) : HasDeck nm μ' a c m := by
  obtain ⟨ne, t, n, cs, e1, e2, r⟩ := h
  exact ⟨ne, t, n, cs, h1.trans e1, h2.trans e2, r⟩
theorem HasDeck.isSome {nm : Str} {μ : Mh} {a c : Addr} {m : Nat} (h : HasDeck nm μ a c m) : (∃ o, μ a = some o) ∧ ∃ o, μ c = some o := by
  obtain ⟨ne, t, n, cs, e1, e2, r⟩ := h
  exact ⟨⟨_, e1⟩, ⟨_, e2⟩⟩
def OnlyDeck (μ μ' : Mh) (a c : Addr) : Prop := ∀ b, b ≠ a → b ≠ c → μ' b = μ b
theorem OnlyDeck.refl {μ : Mh} {a c : Addr} : OnlyDeck μ μ a c := fun _ _ _ => rfl
theorem OnlyDeck.trans {μ μ' μ'' : Mh} {a c : Addr} (h : OnlyDeck μ μ' a c) (h' : OnlyDeck μ' μ'' a c) : OnlyDeck μ μ'' a c := fun b x y => (h' b x y).trans (h b x y)
/-- a draw below many -/
def wfDraw (nm : Str) : WF := fun ds μ Q => ∃ a c m many, ds = [.obj a, .int many] ∧ 0 < many ∧ many < 2 ^ 64 ∧ HasDeck nm μ a c (m + 1) ∧ ∀ r μ', 0 ≤ r → r < many → HasDeck nm μ' a c m → OnlyDeck μ μ' a c → Q (.int r) μ'

abbrev sm (x : Int) : Prop := 0 < x ∧ x < 2 ^ 32
theorem cm_r {i j : Int} (h : sm j) : CMul i j := by unfold sm at h; right; omega
theorem cm_l {i j : Int} (h : sm i) : CMul i j := by unfold sm at h; left; omega
theorem cpow_ten {j : Int} (h : 0 ≤ j) (h' : j ≤ 1000) : CPow 10 j := ⟨h, by omega, by decide⟩

section
variable {μ : Mh} {a : Addr} {kvs : List (Key × DV)} {y d v : DV} {k : Key} {P : DV → Mh → Prop}
theorem dget_o (h : μ a = some (.dct kvs)) (hk : keyD y = some k) (hv : valD kvs k = some d) (q : P d μ) : wDGet (.obj a) y μ P := by
  unfold wDGet
  simp only [h, hk, hv, atW]
  exact q
theorem dput_o {E : DEnds} {ρ : Rho} {i j : Nat} (h : μ a = some (.dct kvs)) (hk : keyD y = some k) (l : kvs.length < sizeLine) (h1 : ρ[i]? = some (some (.obj a))) (h2 : ρ[j]? = some (some v)) (q : E.nx ρ (updM μ a (.dct (putD kvs k v)))) : wDPut (wVar i) (wC y) (wVar j) E ρ μ := by
  unfold wDPut wVar wC
  simp only [h, h1, h2, hk, atW]
  exact ⟨l, q⟩
theorem neL_o {ds : List DV} {es : List DV} (h : μ a = some (.lst ds)) (h1 : shapedD (.lst ds) = true) (h2 : shapedD (.lst es) = true) (q : P (.bool (!deepEq (.lst ds) (.lst es))) μ) : wNeL (.obj a) (.lst es) μ P := by
  show notB wEqL _ _ _ _
  unfold notB wEqL look lookO
  simp only [h]
  exact ⟨h1, h2, q⟩
theorem pop_o {ds : List DV} (h : μ a = some (.lst ds)) (hy : ds[ds.length - 1]? = some y) (q : P y (updM μ a (.lst ds.dropLast))) : wPop (.obj a) μ P := by
  unfold wPop
  simp only [h, hy, atW]
  exact q
end
def wDraw (A B C D E F G I J L M : Int) : WS :=
  (wSeq (wPar 2 3 (wCons (wBin wAdd (wBin wDGet (wVar 0) (wC (.str "draws"))) (wC (.int 1))) (wCons (wBin wDGet (wVar 0) (wC (.str "total"))) wNil)))
    (wSeq (wDPut (wVar 0) (wC (.str "draws")) (wVar 2))
    (wSeq (wIfS (wTest (wBin wNeL (wBin wDGet (wVar 0) (wC (.str "cells"))) (wLst wNil))) (wSeq (wAsg (wUn wPop (wBin wDGet (wVar 0) (wC (.str "cells")))) (wgName 3))
    (wSeq (wIfS (wTest (wBin wGe (wVar 3) (wBin wPow (wC (.int 10)) (wC (.int 18))))) (wSeq (wDrop (wApp (wBin wDGet (wVar 0) (wC (.str "cells"))) (wBin wDiv (wVar 3) (wVar 1))))
    (wRet (wBin wMod (wVar 3) (wVar 1)))) wNext)
    (wAsg (wBin wAdd (wVar 3) (wBin wDGet (wVar 0) (wC (.str "total")))) (wgName 3)))) wNext)
    (wSeq (wAsg (wBin wMod (wBin wMul (wBin wAdd (wBin wAdd (wBin wMod (wVar 3) (wC (.int A))) (wBin wMul (wBin wMul (wC (.int B)) (wVar 2)) (wVar 2))) (wC (.int C))) (wC (.int D))) (wC (.int E))) (wgName 4))
    (wSeq (wAsg (wBin wMod (wBin wAdd (wBin wAdd (wBin wMul (wVar 4) (wVar 4)) (wBin wMul (wC (.int F)) (wVar 2))) (wC (.int G))) (wC (.int I))) (wgName 4))
    (wRet (wBin wMod (wBin wDiv (wBin wMod (wBin wMul (wVar 4) (wC (.int J))) (wC (.int L))) (wC (.int M))) (wVar 1))))))))

theorem canLay_ints : ∀ ns : List Int, PyData.canLayAll0 (toPys (ns.map DV.int)) = true
  | [] => rfl
  | n :: ns => canLay_ints ns
theorem depth_ints : ∀ ns : List Int, PyData.depthAll (toPys (ns.map DV.int)) = 0
  | [] => rfl
  | n :: ns => by
    show max 0 _ = 0
    rw [depth_ints ns]
    rfl
theorem noObjs_ints : ∀ ns : List Int, noObjs (ns.map DV.int) = true
  | [] => rfl
  | n :: ns => noObjs_ints ns
theorem shaped_ints (ns : List Int) : shapedD (.lst (ns.map .int)) = true := by
  have h1 := canLay_ints ns
  have h2 := depth_ints ns
  have h3 := noObjs_ints ns
  show (noObjs (ns.map .int) && (PyData.canLayAll0 (toPys (ns.map .int)) && decide (PyData.depthAll (toPys (ns.map .int)) + 1 ≤ 64))) = true
  rw [h1, h2, h3]
  rfl
/-- the last three rows -/
theorem draw_tail {A B C D E F G I J L M many turn cell : Int} {dk : DV} {μ : Mh} {EE : DEnds} {z : Option DV} (hA : sm A) (hB : sm B) (hD : sm D) (hE : sm E) (hF : sm F) (hI : sm I) (hJ : sm J) (hL : sm L) (hM : sm M) (h1 : 0 ≤ turn) (h2 : turn < 2 ^ 41) (hm : 0 < many)
    (q : ∀ r, 0 ≤ r → r < many → EE.rt (.int r) μ) :
    (wSeq (wAsg (wBin wMod (wBin wMul (wBin wAdd (wBin wAdd (wBin wMod (wVar 3) (wC (.int A))) (wBin wMul (wBin wMul (wC (.int B)) (wVar 2)) (wVar 2))) (wC (.int C))) (wC (.int D))) (wC (.int E))) (wgName 4))
    (wSeq (wAsg (wBin wMod (wBin wAdd (wBin wAdd (wBin wMul (wVar 4) (wVar 4)) (wBin wMul (wC (.int F)) (wVar 2))) (wC (.int G))) (wC (.int I))) (wgName 4))
    (wRet (wBin wMod (wBin wDiv (wBin wMod (wBin wMul (wVar 4) (wC (.int J))) (wC (.int L))) (wC (.int M))) (wVar 1))))) EE [some dk, some (.int many), some (.int turn), some (.int cell), z] μ := by
  have b1 : ∀ x : Int, CMul x turn := fun x => by right; omega
  have bE : ∀ x : Int, CMul (x % E) (x % E) := fun x => by
    left
    have p1 := Int.emod_nonneg x (show E ≠ 0 by omega)
    have p2 := Int.emod_lt_of_pos x hE.1
    omega
  have dM : ∀ x : Int, CDivW x M := fun x => ⟨hM.1, by
    have : M.natAbs < 2 ^ 32 := by omega
    have := (Nat.log2_lt (n := M.natAbs) (k := 9000) (by omega)).mpr (Nat.lt_of_lt_of_le this (Nat.pow_le_pow_right (by decide) (by decide)))
    exact this⟩
  refine ⟨hA.1, cm_l hB, b1 _, cm_r hD, hE.1, bE _, cm_l hF, hI.1, cm_r hJ, hL.1, dM _, hm, q _ (Int.emod_nonneg _ (by omega)) (Int.emod_lt_of_pos _ hm)⟩
theorem draw_ok {A B C D E F G I J L M : Int} (hA : sm A) (hB : sm B) (hD : sm D) (hE : sm E) (hF : sm F) (hI : sm I) (hJ : sm J) (hL : sm L) (hM : sm M) (ds : List DV) (μ : Mh) (Q : DV → Mh → Prop) (hl : ds.length = 2) (h : wfDraw "total" ds μ Q) :
    wDraw A B C D E F G I J L M { nx := fun _ μ' => Q .none μ', rt := Q } (ds.map some ++ List.replicate 3 none) μ := by
  obtain ⟨a, c, m, many, rfl, h0, h64, ⟨ne, t, n, cells, ha, hc, t0, t1, n0, n1, cl⟩, q⟩ := h
  have na : a ≠ c := fun z => ne z.symm
  let μ1 : Mh := updM μ a (.dct [(.inr "cells", .obj c), (.inr "total", .int t), (.inr "draws", .int (n + 1))])
  have ha1 : μ1 a = some (.dct [(.inr "cells", .obj c), (.inr "total", .int t), (.inr "draws", .int (n + 1))]) := updM_same
  have hc1 : μ1 c = some (.lst (cells.map .int)) := (updM_ne ne).trans hc
  have hm1 : CDivW 0 many → True := fun _ => trivial
  have dm : ∀ x : Int, CDivW x many := fun x => ⟨h0, by
    have : many.natAbs < 2 ^ 64 := by omega
    exact (Nat.log2_lt (n := many.natAbs) (k := 9000) (by omega)).mpr (Nat.lt_of_lt_of_le this (Nat.pow_le_pow_right (by decide) (by decide)))⟩
  have fin : ∀ (μ2 : Mh) (cs : List Int), μ2 a = μ1 a → μ2 c = some (.lst (cs.map .int)) → cs.length ≤ 63 → (∀ b, b ≠ a → b ≠ c → μ2 b = μ b) → ∀ r, 0 ≤ r → r < many → Q (.int r) μ2 := fun μ2 cs e1 e2 e3 e4 r r0 r1 =>
    q r μ2 r0 r1 ⟨ne, t, n + 1, cs, e1.trans ha1, e2, t0, t1, by omega, by omega, e3⟩ e4
  have v1 : ∀ x : Int, valD [(.inr "cells", .obj c), (.inr "total", .int t), (.inr "draws", .int x)] (.inr "cells") = some (.obj c) := fun _ => rfl
  have v2 : ∀ x : Int, valD [(.inr "cells", .obj c), (.inr "total", .int t), (.inr "draws", .int x)] (.inr "total") = some (.int t) := fun _ => rfl
  have v3 : ∀ x : Int, valD [(.inr "cells", .obj c), (.inr "total", .int t), (.inr "draws", .int x)] (.inr "draws") = some (.int x) := fun _ => rfl
  have v4 : putD [(.inr "cells", .obj c), (.inr "total", .int t), (.inr "draws", .int n)] (.inr "draws") (.int (n + 1)) = [(.inr "cells", .obj c), (.inr "total", .int t), (.inr "draws", .int (n + 1))] := rfl
  unfold wDraw
  have G1 := @dget_o
  have G2 := @dput_o
  have G3 := @neL_o
  have G4 := @pop_o
  generalize wDGet = g1 at G1 ⊢
  generalize wDPut = g2 at G2 ⊢
  generalize wNeL = g3 at G3 ⊢
  generalize wPop = g4 at G4 ⊢
  refine G1 (y := .str "draws") ha rfl (v3 n) ?_
  refine G1 (y := .str "total") ha rfl (v2 n) ?_
  refine G2 (v := .int (n + 1)) (kvs := [(.inr "cells", .obj c), (.inr "total", .int t), (.inr "draws", .int n)]) ha rfl (Nat.le_of_ble_eq_true rfl) rfl rfl ?_
  rw [v4]
  refine G1 (y := .str "cells") ha1 rfl (v1 _) ?_
  refine ⟨Nat.zero_le _, ?_⟩
  cases cells with
  | nil =>
    refine G3 (es := []) hc1 rfl rfl ?_
    exact draw_tail hA hB hD hE hF hI hJ hL hM (by omega) (by omega) h0 (fin μ1 [] rfl hc1 (Nat.zero_le _) fun b x y => updM_ne x)
  | cons y ys =>
    refine G3 (es := []) hc1 (shaped_ints _) rfl ?_
    refine G1 (y := .str "cells") ha1 rfl (v1 _) ?_
    have hlast : ∃ z, ((y :: ys).map DV.int)[((y :: ys).map DV.int).length - 1]? = some (.int z) := by
      refine ⟨(y :: ys).getLast (by intro z; cases z), ?_⟩
      rw [List.length_map, List.getElem?_map, List.getLast_eq_getElem, List.getElem?_eq_getElem (by simp)]
      rfl
    obtain ⟨z, hz⟩ := hlast
    refine G4 hc1 hz ?_
    have hdl : ((y :: ys).map DV.int).dropLast = (y :: ys).dropLast.map DV.int := by rw [List.map_dropLast]
    have ldl : (y :: ys).dropLast.length ≤ 62 := by rw [List.length_dropLast]; omega
    generalize (y :: ys).dropLast = cs at hdl ldl
    rw [hdl]
    let μ2 : Mh := updM μ1 c (.lst (cs.map .int))
    have ha2 : μ2 a = some (.dct [(.inr "cells", .obj c), (.inr "total", .int t), (.inr "draws", .int (n + 1))]) := (updM_ne na).trans ha1
    have hc2 : μ2 c = some (.lst (cs.map .int)) := updM_same
    refine ⟨cpow_ten (by decide) (by decide), ?_⟩
    cases hge : decide ((10 : Int) ^ 18 ≤ z) with
    | true =>
      have e : decide ((10 : Int) ^ (18 : Int).toNat ≤ z) = true := hge
      show (match decide ((10 : Int) ^ (18 : Int).toNat ≤ z) with | true => _ | false => _)
      rw [e]
      refine G1 (y := .str "cells") ha2 rfl (v1 _) ?_
      refine ⟨?_, dm z, ?_⟩
      · show isLstM (.obj c) μ2
        unfold isLstM
        simp only [hc2]
      · show (match μ2 c with | some (.lst ds) => _ | _ => False)
        rw [hc2]
        refine ⟨by rw [List.length_map, sizeLine_eq]; omega, h0, ?_⟩
        refine fin _ (cs ++ [z / many]) ((updM_ne na).trans ((updM_ne na).trans rfl)) ?_ (by simp; omega) (fun b x y => (updM_ne y).trans ((updM_ne y).trans (updM_ne x))) _ (Int.emod_nonneg _ (by omega)) (Int.emod_lt_of_pos _ h0)
        rw [updM_same, List.map_append]
        rfl
    | false =>
      have e : decide ((10 : Int) ^ (18 : Int).toNat ≤ z) = false := hge
      show (match decide ((10 : Int) ^ (18 : Int).toNat ≤ z) with | true => _ | false => _)
      rw [e]
      refine G1 (y := .str "total") ha2 rfl (v2 _) ?_
      exact draw_tail hA hB hD hE hF hI hJ hL hM (by omega) (by omega) h0 (fin μ2 cs (updM_ne na) hc2 (by omega) fun b x y => (updM_ne y).trans (updM_ne x))

/-! ### the deck made -/
def wDeck (S B A C M : Int) : WS :=
  (wSeq (wPar 1 2 (wCons (wB wList (wCons (wSl (wVar 0) wNoPart (wPart (wC (.int 63)))) wNil)) (wCons (wC (.int S)) wNil)))
    (wSeq (wFor (sLst (wVar 1)) (wgName 3) (wAsg (wBin wMod (wBin wAdd (wBin wAdd (wBin wMul (wVar 2) (wC (.int B))) (wBin wMod (wVar 3) (wC (.int A)))) (wC (.int C))) (wC (.int M))) (wgName 2)))
    (wRet (wDctM [((.inr "cells"), (wRevM (wVar 1))), ((.inr "total"), (wVar 2)), ((.inr "draws"), (wC (.int 0)))]))))
def wfDeck (nm : Str) : WF := fun ds μ Q => ∃ ns : List Int, ds = [.fix (ns.map .int)] ∧ ∀ a c μ', μ a = none → μ c = none → HasDeck nm μ' a c (2 ^ 40) → OnlyDeck μ μ' a c → Q (.obj a) μ'
theorem deck_ok {S B A C M : Int} (hS : 0 ≤ S) (hS2 : S < 2 ^ 32) (hB : sm B) (hA : sm A) (hM : sm M) (ds : List DV) (μ : Mh) (Q : DV → Mh → Prop) (hl : ds.length = 1) (h : wfDeck "total" ds μ Q) :
    wDeck S B A C M { nx := fun _ μ' => Q .none μ', rt := Q } (ds.map some ++ List.replicate 3 none) μ := by
  obtain ⟨ns, rfl, q⟩ := h
  have hcut : cutD (ns.map DV.int) none (some 63) = (ns.take 63).map DV.int := by
    have e0 : HT.sIx (ns.map DV.int).length 0 none = 0 := rfl
    have e1 : min (HT.sIx (ns.map DV.int).length (ns.map DV.int).length (some 63)) (ns.map DV.int).length = min 63 (ns.map DV.int).length := by
      show min (min (63 : Nat) _) _ = _
      omega
    unfold cutD
    rw [e0, List.drop_zero, Nat.sub_zero, List.take_eq_take_min, e1, ← List.take_eq_take_min, List.map_take]
  have hlen : (ns.take 63).length ≤ 63 := by rw [List.length_take]; omega
  have key : ∀ xs : List Int, xs.length ≤ 63 → ∀ t : Int, 0 ≤ t → t < 2 ^ 32 → ∀ z, wRet (wDctM [((.inr "cells"), (wRevM (wVar 1))), ((.inr "total"), (wVar 2)), ((.inr "draws"), (wC (.int 0)))]) { nx := fun _ μ' => Q .none μ', rt := Q } [some (.fix (ns.map .int)), some (.lst (xs.map .int)), some (.int t), z] μ := fun xs hx t t0 t1 z => by
    intro c hc a ha
    have nac : a ≠ c := fun e => by
      subst e
      have : updM μ a _ a = none := ha
      rw [updM_same] at this
      cases this
    have ha' : μ a = none := by
      have h1 : updM μ c _ a = none := ha
      rw [updM_ne nac] at h1
      exact h1
    refine q a c _ ha' hc ⟨fun e => nac e.symm, t, 0, xs.reverse, updM_same, ?_, t0, t1, by omega, by omega, by simp; omega⟩ fun b x y => (updM_ne x).trans (updM_ne y)
    rw [updM_ne fun e => nac e.symm, updM_same, List.map_reverse]
  have loop : ∀ (ys : List Int) (t : Int) (z : Option DV), 0 ≤ t → t < 2 ^ 32 → forW (wgName 3) (wAsg (wBin wMod (wBin wAdd (wBin wAdd (wBin wMul (wVar 2) (wC (.int B))) (wBin wMod (wVar 3) (wC (.int A)))) (wC (.int C))) (wC (.int M))) (wgName 2))
      { nx := wRet (wDctM [((.inr "cells"), (wRevM (wVar 1))), ((.inr "total"), (wVar 2)), ((.inr "draws"), (wC (.int 0)))]) { nx := fun _ μ' => Q .none μ', rt := Q }, rt := Q } (ys.map .int) [some (.fix (ns.map .int)), some (.lst ((ns.take 63).map .int)), some (.int t), z] μ := by
    intro ys
    induction ys with
    | nil => exact fun t z t0 t1 => key _ hlen t t0 t1 z
    | cons y ys ih =>
      intro t z t0 t1
      refine ⟨cm_r hB, hA.1, hM.1, ih _ _ (Int.emod_nonneg _ (by have := hM.1; omega)) (Int.lt_trans (Int.emod_lt_of_pos _ hM.1) hM.2)⟩
  show forW _ _ _ (cutD (ns.map DV.int) none (some 63)) [some (.fix (ns.map .int)), some (.lst (cutD (ns.map DV.int) none (some 63))), some (.int S), none] μ
  rw [hcut]
  exact loop _ S none hS hS2

/-! ### one of some -/
def wPick (f_draw : WF) : WS :=
  (wRet (wBin wIx (wVar 1) (wCall 2 f_draw (wCons (wVar 0) (wCons (wB wLen (wCons (wVar 1) wNil)) wNil)))))
def itemsD : DV → List DV
  | .lst ds => ds
  | .tup ds => ds
  | .str z => signs z
  | _ => []
def wfPick (nm : Str) : WF := fun ds μ Q => ∃ a c m y, ds = [.obj a, y] ∧ 0 < (itemsD y).length ∧ (itemsD y).length ≤ sizeLine ∧ HasDeck nm μ a c (m + 1) ∧ ∀ x μ', x ∈ itemsD y → HasDeck nm μ' a c m → OnlyDeck μ μ' a c → Q x μ'
theorem atI_nat {α : Type} {xs : List α} {r : Int} (h0 : 0 ≤ r) (h1 : r < xs.length) : ∃ x, x ∈ xs ∧ atI xs r = some x := by
  obtain ⟨n, rfl⟩ := Int.eq_ofNat_of_zero_le h0
  have hn : n < xs.length := by omega
  refine ⟨xs[n], List.getElem_mem hn, ?_⟩
  unfold atI ixN
  rw [if_pos h0, if_pos h1]
  show xs[(n : Int).toNat]? = _
  rw [Int.toNat_natCast, List.getElem?_eq_getElem hn]
theorem pick_ok {nm : Str} (ds : List DV) (μ : Mh) (Q : DV → Mh → Prop) (hl : ds.length = 2) (h : wfPick nm ds μ Q) :
    wPick (wfDraw nm) { nx := fun _ μ' => Q .none μ', rt := Q } (ds.map some ++ List.replicate 0 none) μ := by
  obtain ⟨a, c, m, y, rfl, l0, l1, hd, q⟩ := h
  have h64 : sizeLine < 2 ^ 64 := by rw [sizeLine_eq]; decide
  have go : ∀ xs : List DV, 0 < xs.length → xs.length ≤ sizeLine → (∀ r μ', 0 ≤ r → r < (xs.length : Int) → HasDeck nm μ' a c m → OnlyDeck μ μ' a c → wIx y (.int r) μ' Q) → wfDraw nm [.obj a, .int xs.length] μ fun d μ1 => wIx y d μ1 Q :=
    fun xs x0 x1 k => ⟨a, c, m, xs.length, rfl, by omega, by omega, hd, fun r μ' r0 r1 h1 o1 => k r μ' r0 r1 h1 o1⟩
  cases y with
  | lst xs =>
    refine ⟨rfl, go xs l0 l1 fun r μ' r0 r1 h1 o1 => ?_⟩
    obtain ⟨x, hx, e⟩ := atI_nat r0 r1
    show atW (atI xs r) _
    rw [e]
    exact q x μ' hx h1 o1
  | tup xs =>
    refine ⟨rfl, go xs l0 l1 fun r μ' r0 r1 h1 o1 => ?_⟩
    obtain ⟨x, hx, e⟩ := atI_nat r0 r1
    show atW (atI xs r) _
    rw [e]
    exact q x μ' hx h1 o1
  | str z =>
    have el : (signs z).length = z.length := by
      unfold signs
      rw [List.length_map, Array.length_toList]
      rfl
    have l1' : z.length ≤ sizeLine := by
      have : (signs z).length ≤ sizeLine := l1
      omega
    refine ⟨l1', rfl, ?_⟩
    rw [← el]
    refine go (signs z) l0 l1 fun r μ' r0 r1 h1 o1 => ⟨l1', ?_⟩
    have r1' : r < (z.cps.toList.length : Int) := by
      rw [Array.length_toList]
      have : (signs z).length = z.cps.size := el
      omega
    obtain ⟨x, hx, e⟩ := atI_nat r0 r1'
    rw [e]
    exact q _ μ' (List.mem_map.mpr ⟨x, hx, rfl⟩) h1 o1
  | _ => exact absurd l0 (Nat.lt_irrefl 0)
end Dz

set_option Elab.async false
set_option linter.all false
set_option maxRecDepth 100000
set_option maxHeartbeats 2000000
/-! DzS: how great data is, so that repr may show it. -/
namespace Dz
open PySem L2

/-- signs that chr knows -/
def plainS (x : Str) : Bool := x.cps.toList.all fun c => decide (c < 0x110000)
mutual
/-- texts of such signs -/
def plD : DV → Bool
  | .str x => plainS x
  | .tup ds => plDs ds
  | .lst ds => plDs ds
  | .dct kvs => plDk kvs
  | _ => true
def plDs : List DV → Bool
  | [] => true
  | d :: ds => plD d && plDs ds
def plDk : List (Key × DV) → Bool
  | [] => true
  | (.inr x, d) :: r => plainS x && plD d && plDk r
  | (.inl _, d) :: r => plD d && plDk r
end
/-- at most N in bulk, p deep -/
structure Siz (N p : Nat) (d : DV) : Prop where
  no : noObj d = true
  sh : (toPy d).showable = true
  lv : (toPy d).leavesShort 64 = true
  bk : (toPy d).bulk ≤ N
  dp : (toPy d).depth ≤ p
  pl : plD d = true
structure Sizs (N p : Nat) (ds : List DV) : Prop where
  no : noObjs ds = true
  sh : PyData.showableAll (toPys ds) = true
  lv : PyData.leavesShortAll 64 (toPys ds) = true
  bk : PyData.bulkAll (toPys ds) ≤ N
  dp : PyData.depthAll (toPys ds) ≤ p
  pl : plDs ds = true
theorem Siz.le {N N' p p' : Nat} {d : DV} (h : Siz N p d) (hN : N ≤ N') (hp : p ≤ p') : Siz N' p' d := ⟨h.no, h.sh, h.lv, Nat.le_trans h.bk hN, Nat.le_trans h.dp hp, h.pl⟩
theorem Siz.shows {N p : Nat} {d : DV} (h : Siz N p d) (hN : N ≤ 2 ^ 17) (hp : p ≤ 60) : Shows d := by
  refine ⟨h.no, h.sh, ?_, Nat.le_trans h.dp hp⟩
  have h1 := PyData.shown_le_bulk 64 (by decide) (toPy d) h.lv
  have h2 := h.bk
  rw [sizeLine_eq]
  omega
theorem Siz.none : Siz 0 0 .none := ⟨rfl, rfl, rfl, Nat.le_refl _, Nat.le_refl _, rfl⟩
theorem Siz.bool (b : Bool) : Siz 0 0 (.bool b) := ⟨rfl, rfl, rfl, Nat.le_refl _, Nat.le_refl _, rfl⟩
theorem Siz.int {i : Int} (h : i.natAbs < 10 ^ 60) : Siz 0 0 (.int i) := by
  refine ⟨rfl, ?_, ?_, Nat.le_refl _, Nat.le_refl _, rfl⟩
  · show decide (i.natAbs.log2 < 1920) = true
    rw [decide_eq_true_eq]
    by_cases z : i.natAbs = 0
    · rw [z]; decide
    · exact (Nat.log2_lt z).mpr (Nat.lt_of_lt_of_le (Nat.lt_trans h (show 10 ^ 60 < 2 ^ 240 by decide)) (Nat.pow_le_pow_right (by decide) (by decide)))
  · show decide ((PyData.shown (.int i)).length ≤ 64) = true
    rw [decide_eq_true_eq]
    have e := int_text_length_le10 (k := 60) (by decide) h
    show (Str.ofString (toString i)).length ≤ 64
    rw [ofString_length]
    omega
theorem Siz.str {x : Str} (h : plainS x = true) : Siz x.length 0 (.str x) := by
  refine ⟨rfl, rfl, ?_, Nat.le_refl _, Nat.le_refl _, h⟩
  show (x.cps.toList.all fun c => decide (c < 16 ^ 8)) = true
  unfold plainS at h
  rw [List.all_eq_true] at h ⊢
  intro c hc
  have := of_decide_eq_true (h c hc)
  exact decide_eq_true (Nat.lt_trans this (by decide))
theorem Sizs.nil : Sizs 0 0 [] := ⟨rfl, rfl, rfl, Nat.le_refl _, Nat.le_refl _, rfl⟩
theorem Sizs.cons {N M p : Nat} {d : DV} {ds : List DV} (h : Siz N p d) (r : Sizs M p ds) : Sizs (N + 1 + M) p (d :: ds) := by
  refine ⟨?_, ?_, ?_, ?_, ?_, by show (plD d && plDs ds) = true; rw [h.pl, r.pl]; rfl⟩
  · show (noObj d && noObjs ds) = true
    rw [h.no, r.no]; rfl
  · show ((toPy d).showable && _) = true
    rw [h.sh, r.sh]; rfl
  · show ((toPy d).leavesShort 64 && _) = true
    rw [h.lv, r.lv]; rfl
  · show (toPy d).bulk + 1 + _ ≤ _
    have := h.bk; have := r.bk; omega
  · show max _ _ ≤ p
    exact Nat.max_le.mpr ⟨h.dp, r.dp⟩
theorem Sizs.le {N N' p p' : Nat} {ds : List DV} (h : Sizs N p ds) (hN : N ≤ N') (hp : p ≤ p') : Sizs N' p' ds := ⟨h.no, h.sh, h.lv, Nat.le_trans h.bk hN, Nat.le_trans h.dp hp, h.pl⟩
theorem Sizs.all {N p : Nat} : ∀ {ds : List DV}, (∀ d ∈ ds, Siz N p d) → Sizs (ds.length * (N + 1)) p ds
  | [], _ => Sizs.nil.le (by omega) (by omega)
  | d :: ds, h => by
    have r := Sizs.cons (h d List.mem_cons_self) (Sizs.all (N := N) (p := p) fun e he => h e (List.mem_cons_of_mem _ he))
    refine r.le ?_ (Nat.le_refl _)
    rw [List.length_cons, Nat.succ_mul]
    omega
theorem Siz.tup {N p : Nat} {ds : List DV} (h : Sizs N p ds) : Siz N (p + 1) (.tup ds) := ⟨h.no, h.sh, h.lv, h.bk, Nat.succ_le_succ h.dp, h.pl⟩
theorem Siz.lst {N p : Nat} {ds : List DV} (h : Sizs N p ds) : Siz N (p + 1) (.lst ds) := ⟨h.no, h.sh, h.lv, h.bk, Nat.succ_le_succ h.dp, h.pl⟩
theorem Siz.dct0 : Siz 0 1 (.dct []) := ⟨rfl, rfl, rfl, Nat.le_refl _, Nat.le_refl _, rfl⟩
theorem Siz.dct1 {N p : Nat} {k : Str} {d : DV} (hk : plainS k = true) (h : Siz N p d) : Siz (k.length + N + 2) (p + 1) (.dct [(.inr k, d)]) := by
  have hs := Siz.str hk
  refine ⟨?_, ?_, ?_, ?_, ?_, by show (plainS k && plD d && true) = true; rw [hk, h.pl]; rfl⟩
  · show (noObj d && true) = true
    rw [h.no]; rfl
  · show (true && (toPy d).showable && true) = true
    rw [h.sh]; rfl
  · show ((PyData.str k).leavesShort 64 && (toPy d).leavesShort 64 && true) = true
    rw [show (PyData.str k).leavesShort 64 = true from hs.lv, h.lv]; rfl
  · show k.cps.size + (toPy d).bulk + 2 + 0 ≤ _
    have := h.bk
    have e : k.cps.size = k.length := rfl
    omega
  · show max (max 0 (toPy d).depth) 0 + 1 ≤ _
    have := h.dp
    omega
/-- flat things, by computing -/
def sizB (d : DV) : Bool := match d with
  | .none => true
  | .bool _ => true
  | .int i => decide (i.natAbs < 10 ^ 60)
  | .str x => plainS x
  | _ => false
mutual
/-- no dicts -/
def noDct : DV → Bool
  | .tup ds => noDcts ds
  | .lst ds => noDcts ds
  | .dct _ => false
  | _ => true
def noDcts : List DV → Bool
  | [] => true
  | d :: ds => noDct d && noDcts ds
end
theorem strOk_plain {x : Str} (h : plainS x = true) : PyData.strOk x = true := by
  unfold plainS at h
  show x.cps.all _ = true
  rw [← Array.all_toList]
  exact h
mutual
theorem canLay_of : ∀ {d : DV}, plD d = true → noDct d = true → (toPy d).canLay0 = true
  | .none, _, _ => rfl
  | .bool _, _, _ => rfl
  | .int _, _, _ => rfl
  | .str x, h, _ => strOk_plain h
  | .tup ds, h, n => canLays_of (ds := ds) h n
  | .lst ds, h, n => canLays_of (ds := ds) h n
  | .dct _, _, n => absurd n Bool.false_ne_true
  | .obj _, _, _ => rfl
  | .fix _, _, _ => rfl
theorem canLays_of : ∀ {ds : List DV}, plDs ds = true → noDcts ds = true → PyData.canLayAll0 (toPys ds) = true
  | [], _, _ => rfl
  | d :: ds, h, n => by
    have h' := Bool.and_eq_true_iff.mp (show (plD d && plDs ds) = true from h)
    have n' := Bool.and_eq_true_iff.mp (show (noDct d && noDcts ds) = true from n)
    show ((toPy d).canLay0 && _) = true
    rw [canLay_of h'.1 n'.1, canLays_of h'.2 n'.2]
    rfl
end
theorem Siz.shaped {N p : Nat} {d : DV} (h : Siz N p d) (hp : p ≤ 64) (n : noDct d = true) : shapedD d = true := by
  show (noObj d && ((toPy d).canLay0 && decide ((toPy d).depth ≤ 64))) = true
  rw [h.no, canLay_of h.pl n, decide_eq_true (Nat.le_trans h.dp hp)]
  rfl
end Dz

set_option Elab.async false
set_option linter.all false
set_option maxRecDepth 100000
set_option maxHeartbeats 2000000
/-! DzL: loops and comprehensions by an invariant. -/
namespace Dz
open PySem L2

theorem comp_rule {g : WG} {t : WT} {e : WE} {ρ : Rho} {G : DV → Prop} {I : Nat → Mh → Prop} {n : Nat} : ∀ (xs acc : List DV) (μ : Mh) (P : List DV → Mh → Prop),
    (∀ x ∈ xs, ∀ (μ : Mh) (k : Nat) (acc : List DV) (P : List DV → Mh → Prop), I (k + 1) μ → acc.length < sizeLine → (∀ y μ', G y → I k μ' → P (acc ++ [y]) μ') → (∀ μ', I k μ' → P acc μ') →
      g x ρ fun ρ1 => t ρ1 μ fun b μ1 => match b with
        | true => e ρ1 μ1 fun y μ2 => acc.length < sizeLine ∧ P (acc ++ [y]) μ2
        | false => P acc μ1) →
    acc.length + xs.length ≤ sizeLine → (∀ y ∈ acc, G y) → I (n + xs.length) μ → (∀ zs μ', (∀ y ∈ zs, G y) → zs.length ≤ acc.length + xs.length → I n μ' → P zs μ') → compW g t e ρ xs acc μ P
  | [], acc, μ, P, _, _, hg, hi, q => q acc μ hg (by simp) hi
  | x :: xs, acc, μ, P, hx, hl, hg, hi, q => by
    rw [List.length_cons] at hl
    refine hx x List.mem_cons_self μ (n + xs.length) acc (fun ac μ' => compW g t e ρ xs ac μ' P) hi (by omega) (fun y μ' gy i' => ?_) (fun μ' i' => ?_)
    · refine comp_rule xs (acc ++ [y]) μ' P (fun z hz => hx z (List.mem_cons_of_mem _ hz)) (by simp; omega) (fun z hz => ?_) i' (fun zs μ2 h1 h2 h3 => q zs μ2 h1 (by simp at h2 ⊢; omega) h3)
      rcases List.mem_append.mp hz with hz | hz
      · exact hg z hz
      · rw [List.mem_singleton] at hz; rw [hz]; exact gy
    · exact comp_rule xs acc μ' P (fun z hz => hx z (List.mem_cons_of_mem _ hz)) (by omega) hg i' (fun zs μ2 h1 h2 h3 => q zs μ2 h1 (by simp at h2 ⊢; omega) h3)
/-- the same, each thing kept -/
theorem comp_all {g : WG} {e : WE} {ρ : Rho} {G : DV → Prop} {I : Nat → Mh → Prop} {n : Nat} : ∀ (xs acc : List DV) (μ : Mh) (P : List DV → Mh → Prop),
    (∀ x ∈ xs, ∀ (μ : Mh) (k : Nat) (P : DV → Mh → Prop), I (k + 1) μ → (∀ y μ', G y → I k μ' → P y μ') → g x ρ fun ρ1 => e ρ1 μ P) →
    acc.length + xs.length ≤ sizeLine → (∀ y ∈ acc, G y) → I (n + xs.length) μ → (∀ zs μ', (∀ y ∈ zs, G y) → zs.length = acc.length + xs.length → I n μ' → P zs μ') → compW g wYes e ρ xs acc μ P
  | [], acc, μ, P, _, _, hg, hi, q => q acc μ hg (by simp) hi
  | x :: xs, acc, μ, P, hx, hl, hg, hi, q => by
    rw [List.length_cons] at hl
    refine hx x List.mem_cons_self μ (n + xs.length) _ hi (fun y μ' gy i' => ⟨by omega, ?_⟩)
    refine comp_all xs (acc ++ [y]) μ' P (fun z hz => hx z (List.mem_cons_of_mem _ hz)) (by simp; omega) (fun z hz => ?_) i' (fun zs μ2 h1 h2 h3 => q zs μ2 h1 (by simp at h2 ⊢; omega) h3)
    rcases List.mem_append.mp hz with hz | hz
    · exact hg z hz
    · rw [List.mem_singleton] at hz; rw [hz]; exact gy
/-- for x in xs, with an invariant that counts down -/
theorem for_rule {g : WG} {b : WS} {E : DEnds} {I : Nat → Rho → Mh → Prop} {n : Nat} : ∀ (xs : List DV) (ρ : Rho) (μ : Mh),
    (∀ x ∈ xs, ∀ (k : Nat) (ρ : Rho) (μ : Mh) (F : DEnds), I (k + 1) ρ μ → F.rt = E.rt → F.bk = E.nx → (∀ ρ' μ', I k ρ' μ' → F.nx ρ' μ') → (∀ ρ' μ', I k ρ' μ' → F.ct ρ' μ') → g x ρ fun ρ1 => b F ρ1 μ) →
    I (n + xs.length) ρ μ → (∀ ρ' μ', I n ρ' μ' → E.nx ρ' μ') → forW g b E xs ρ μ
  | [], ρ, μ, _, hi, q => q ρ μ hi
  | x :: xs, ρ, μ, hx, hi, q => by
    refine hx x List.mem_cons_self (n + xs.length) ρ μ { nx := forW g b E xs, rt := E.rt, bk := E.nx, ct := forW g b E xs } hi rfl rfl (fun ρ' μ' i' => ?_) (fun ρ' μ' i' => ?_)
    · exact for_rule xs ρ' μ' (fun z hz => hx z (List.mem_cons_of_mem _ hz)) i' q
    · exact for_rule xs ρ' μ' (fun z hz => hx z (List.mem_cons_of_mem _ hz)) i' q
theorem rngD_mem {lo : Int} {n : Nat} {d : DV} (h : d ∈ rngD lo n) : ∃ i : Int, d = .int i ∧ lo ≤ i ∧ i < lo + n := by
  unfold rngD at h
  rw [List.mem_map] at h
  obtain ⟨i, hi, rfl⟩ := h
  rw [List.mem_range] at hi
  exact ⟨_, rfl, by omega, by omega⟩
theorem rngD_len {lo : Int} {n : Nat} : (rngD lo n).length = n := by
  unfold rngD
  rw [List.length_map, List.length_range]
/-- a filter and a map without a step of the world -/
theorem comp_pure {g : WG} {t : WT} {e : WE} {ρ : Rho} {μ : Mh} (b : DV → Bool) (f : DV → DV) : ∀ (xs acc : List DV) (P : List DV → Mh → Prop),
    (∀ x ∈ xs, ∀ (acc : List DV) (P : List DV → Mh → Prop), acc.length < sizeLine → (if b x = true then P (acc ++ [f x]) μ else P acc μ) →
      g x ρ fun ρ1 => t ρ1 μ fun b μ1 => match b with
        | true => e ρ1 μ1 fun y μ2 => acc.length < sizeLine ∧ P (acc ++ [y]) μ2
        | false => P acc μ1) →
    acc.length + xs.length ≤ sizeLine → P (acc ++ (xs.filter b).map f) μ → compW g t e ρ xs acc μ P
  | [], acc, P, _, _, q => by
    have q' : P (acc ++ []) μ := q
    rw [List.append_nil] at q'
    exact q'
  | x :: xs, acc, P, hx, hl, q => by
    rw [List.length_cons] at hl
    refine hx x List.mem_cons_self acc (fun ac μ' => compW g t e ρ xs ac μ' P) (by omega) ?_
    by_cases hb : b x = true
    · rw [if_pos hb]
      rw [List.filter_cons_of_pos hb, List.map_cons] at q
      refine comp_pure b f xs (acc ++ [f x]) P (fun z hz => hx z (List.mem_cons_of_mem _ hz)) (by simp; omega) ?_
      rw [List.append_assoc]
      exact q
    · rw [if_neg hb]
      rw [List.filter_cons_of_neg hb] at q
      exact comp_pure b f xs acc P (fun z hz => hx z (List.mem_cons_of_mem _ hz)) (by omega) q
/-- data has a type -/
theorem ty_of_noObj : ∀ {d : DV} {μ : Mh}, noObj d = true → ∃ t, tyD d μ = some t
  | .none, _, _ => ⟨_, rfl⟩
  | .bool _, _, _ => ⟨_, rfl⟩
  | .int _, _, _ => ⟨_, rfl⟩
  | .str _, _, _ => ⟨_, rfl⟩
  | .tup _, _, _ => ⟨_, rfl⟩
  | .lst _, _, _ => ⟨_, rfl⟩
  | .dct _, _, _ => ⟨_, rfl⟩
  | .obj _, _, h => by cases h
  | .fix _, _, h => by cases h
end Dz

set_option Elab.async false
set_option linter.all false
set_option maxRecDepth 100000
set_option maxHeartbeats 1000000
/-! DzT: texts put together. -/
namespace Dz
open PySem L2 TL

abbrev sg (x : Str) : List Nat := x.cps.toList
theorem sg_len (x : Str) : (sg x).length = x.length := Array.length_toList
theorem plain_iff {x : Str} : plainS x = true ↔ ∀ c ∈ sg x, c < 0x110000 := by
  unfold plainS
  rw [List.all_eq_true]
  exact ⟨fun h c hc => of_decide_eq_true (h c hc), fun h c hc => decide_eq_true (h c hc)⟩
theorem sg_append (x y : Str) : sg (x ++ y) = sg x ++ sg y := by
  show (x.cps ++ y.cps).toList = _
  rw [Array.toList_append]
theorem len_append (x y : Str) : (x ++ y).length = x.length + y.length := by
  rw [← sg_len, sg_append, List.length_append, sg_len, sg_len]
theorem plain_append {x y : Str} (h : plainS x = true) (h' : plainS y = true) : plainS (x ++ y) = true := by
  rw [plain_iff] at *
  intro c hc
  rw [sg_append, List.mem_append] at hc
  exact hc.elim (h c) (h' c)
theorem plain_one {c : Nat} (h : c < 0x110000) : plainS ⟨#[c]⟩ = true := by
  rw [plain_iff]
  intro d hd
  have : d = c := by simpa [sg] using hd
  omega
theorem plain_cut {x : Str} (lo hi : Option Int) (h : plainS x = true) : plainS (cutS x lo hi) = true := by
  rw [plain_iff] at *
  intro c hc
  unfold cutS sg at hc
  have hc' : c ∈ (x.cps.toList.drop (HT.sIx x.length 0 lo)).take (HT.sIx x.length x.length hi - HT.sIx x.length 0 lo) := hc
  exact h c (List.mem_of_mem_drop (List.mem_of_mem_take hc'))
theorem len_cut (x : Str) (lo hi : Option Int) : (cutS x lo hi).length ≤ x.length := by
  rw [← sg_len, ← sg_len]
  show ((x.cps.toList.drop _).take _).length ≤ _
  rw [List.length_take, List.length_drop]
  show _ ≤ x.cps.toList.length
  omega
theorem len_cut_to (x : Str) (k : Int) (h : 0 ≤ k) : (cutS x none (some k)).length ≤ k.toNat := by
  rw [← sg_len]
  show ((x.cps.toList.drop _).take _).length ≤ _
  rw [List.length_take]
  have e : HT.sIx x.length x.length (some k) = min k.toNat x.length := by
    show (if k < 0 then _ else min k.toNat x.length) = _
    rw [if_neg (by omega)]
  rw [e]
  omega
theorem pos_cut_to {x : Str} {k : Int} (h : 0 < k) (hx : 0 < x.length) : 0 < (cutS x none (some k)).length := by
  rw [← sg_len]
  show 0 < ((x.cps.toList.drop _).take _).length
  rw [List.length_take, List.length_drop]
  have e : HT.sIx x.length x.length (some k) = min k.toNat x.length := by
    show (if k < 0 then _ else min k.toNat x.length) = _
    rw [if_neg (by omega)]
  have e0 : HT.sIx x.length 0 none = 0 := rfl
  rw [e, e0]
  have : x.cps.toList.length = x.length := sg_len x
  omega
theorem mem_joinL {S : List Nat} {c : Nat} : ∀ {ls : List (List Nat)}, c ∈ joinL S ls → c ∈ S ∨ ∃ l ∈ ls, c ∈ l
  | [], h => by cases h
  | [p], h => .inr ⟨p, List.mem_singleton.mpr rfl, h⟩
  | p :: q :: r, h => by
    have h' : c ∈ p ++ (S ++ joinL S (q :: r)) := h
    rw [List.mem_append, List.mem_append] at h'
    rcases h' with h | h | h
    · exact .inr ⟨p, List.mem_cons_self, h⟩
    · exact .inl h
    · rcases mem_joinL h with h | ⟨l, hl, h⟩
      · exact .inl h
      · exact .inr ⟨l, List.mem_cons_of_mem _ hl, h⟩
theorem plain_join {y : Str} {xs : List Str} (hy : plainS y = true) (h : ∀ x ∈ xs, plainS x = true) : plainS (Txt.join y xs) = true := by
  rw [plain_iff] at *
  intro c hc
  rw [join_eq] at hc
  have hc' : c ∈ joinL (tl y) (xs.map tl) := by rw [← tl_join]; exact hc
  rcases mem_joinL hc' with h' | ⟨l, hl, h'⟩
  · exact hy c h'
  · rw [List.mem_map] at hl
    obtain ⟨x, hx, rfl⟩ := hl
    exact plain_iff.mp (h x hx) c h'
theorem len_joinL (S : List Nat) : ∀ ls : List (List Nat), (joinL S ls).length ≤ (ls.map (·.length)).sum + ls.length * S.length
  | [] => Nat.zero_le _
  | [p] => by
    show p.length ≤ p.length + 0 + 1 * S.length
    omega
  | p :: q :: r => by
    have ih := len_joinL S (q :: r)
    show (p ++ (S ++ joinL S (q :: r))).length ≤ p.length + ((q :: r).map (·.length)).sum + ((q :: r).length + 1) * S.length
    rw [List.length_append, List.length_append, Nat.succ_mul]
    omega
theorem len_join (y : Str) (xs : List Str) : (Txt.join y xs).length ≤ (xs.map (·.length)).sum + xs.length * y.length := by
  have h := len_joinL (tl y) (xs.map tl)
  have e : (Txt.join y xs).length = (tl (Str.join y xs)).length := by rw [join_eq]; exact (sg_len _).symm
  rw [e, tl_join]
  have e2 : ((xs.map tl).map (·.length)) = xs.map (·.length) := by
    rw [List.map_map]
    exact List.map_congr_left fun x _ => sg_len x
  rw [e2, List.length_map] at h
  exact Nat.le_trans h (Nat.add_le_add_left (Nat.mul_le_mul_left _ (Nat.le_of_eq (sg_len y))) _)
theorem sum_ones {xs : List Str} (h : ∀ x ∈ xs, x.length ≤ 1) : (xs.map (·.length)).sum ≤ xs.length := by
  induction xs with
  | nil => exact Nat.le_refl _
  | cons x xs ih =>
    have := h x List.mem_cons_self
    have := ih fun z hz => h z (List.mem_cons_of_mem _ hz)
    rw [List.map_cons, List.sum_cons, List.length_cons]
    omega
theorem sum_ge {xs : List Str} (h : ∀ x ∈ xs, 1 ≤ x.length) : xs.length ≤ (xs.map (·.length)).sum := by
  induction xs with
  | nil => exact Nat.le_refl _
  | cons x xs ih =>
    have := h x List.mem_cons_self
    have := ih fun z hz => h z (List.mem_cons_of_mem _ hz)
    rw [List.map_cons, List.sum_cons, List.length_cons]
    omega
theorem foldl_sg (x : Array Nat) : ∀ (n : Nat) (acc : Array Nat), ((List.replicate n x).foldl (· ++ ·) acc).toList = acc.toList ++ (List.replicate n x.toList).flatten
  | 0, acc => by simp
  | n + 1, acc => by
    rw [List.replicate_succ, List.foldl_cons, foldl_sg x n, Array.toList_append, List.replicate_succ, List.flatten_cons, List.append_assoc]
theorem sg_rep (x : Str) (n : Nat) : sg (strRep x n) = (List.replicate n (sg x)).flatten := by
  unfold strRep
  show ((List.replicate n x.cps).foldl (· ++ ·) #[]).toList = _
  rw [foldl_sg]
  rfl
theorem len_rep (x : Str) (n : Nat) : (strRep x n).length = n * x.length := by
  rw [← sg_len, sg_rep, ← sg_len x, List.length_flatten, List.map_replicate, List.sum_replicate_nat]
theorem plain_rep {x : Str} (n : Nat) (h : plainS x = true) : plainS (strRep x n) = true := by
  rw [plain_iff] at *
  intro c hc
  rw [sg_rep, List.mem_flatten] at hc
  obtain ⟨l, hl, hc⟩ := hc
  rw [List.mem_replicate] at hl
  rw [hl.2] at hc
  exact h c hc
/-- things that are texts of one sign -/
def One (d : DV) : Prop := ∃ c, d = .str ⟨#[c]⟩ ∧ c < 0x110000
theorem ones_of {zs : List DV} (h : ∀ z ∈ zs, One z) : ∃ ys : List Str, zs = ys.map .str ∧ (∀ y ∈ ys, plainS y = true ∧ y.length = 1) := by
  induction zs with
  | nil => exact ⟨[], rfl, fun _ h => by cases h⟩
  | cons z zs ih =>
    obtain ⟨c, rfl, hc⟩ := h z List.mem_cons_self
    obtain ⟨ys, rfl, hy⟩ := ih fun z hz => h z (List.mem_cons_of_mem _ hz)
    refine ⟨⟨#[c]⟩ :: ys, rfl, fun y h => ?_⟩
    rcases List.mem_cons.mp h with rfl | h
    · exact ⟨plain_one hc, rfl⟩
    · exact hy y h
theorem one_signs {x : Str} (h : plainS x = true) : ∀ z ∈ signs x, One z := by
  intro z hz
  unfold signs at hz
  rw [List.mem_map] at hz
  obtain ⟨c, hc, rfl⟩ := hz
  exact ⟨c, rfl, plain_iff.mp h c hc⟩
theorem len_signs (x : Str) : (signs x).length = x.length := by
  unfold signs
  rw [List.length_map, Array.length_toList]
  rfl
theorem len_join_ge (y : Str) (xs : List Str) : (xs.map (·.length)).sum ≤ (Txt.join y xs).length := PyProof.Rows.len_join_ge_sum y xs
end Dz

set_option Elab.async false
set_option linter.all false
set_option maxRecDepth 100000
set_option maxHeartbeats 1000000
/-! DzE: a law's start and end. -/
namespace Dz
open PySem L2

theorem at1_of {K : PySem.W.Frag} {h : Heap} {mg : Str → Option Value} {x : Str} {st : Stmt} {f : Addr} {oc kV dc pm cd ct : Value} {od an : Option Addr} {sl : Array (Option Value)} (X : K.In h) (G : h.Ns mainGlobals mg) (a : PySem.W.nsIn K mainGlobals x = some (some (.ref f)))
    (l : K.lookup f = some ⟨oc, od, .func (PySem.W.fnOf x x (defArgs st) (defBody st) (defScope st) .none kV dc pm an cd ct), sl⟩) (c : PySem.W.codeIn K cd x = true) (k : PySem.W.keepIn K (.ref f) = true) : At1 K mg x st :=
  ⟨f, _, PySem.W.mg_of X G a, fun_mk l c k⟩
/-- a law over a script: its promise at the start -/
theorem law_start {wf : WF} {K : PySem.W.Frag} {H : Hp} {a : Addr} {ns : List Int} (h : ∀ μ P, (∀ μ', P (.bool true) μ') → wf [.fix (ns.map .int)] μ P) (hS : SqL K H a (ns.map V.int)) : spD K 1 wf [.ref a] H (fun v _ => v = .bl true) fun _ _ _ => False := by
  refine ⟨fun _ => none, [.fix (ns.map .int)], fun _ => none, fun d _ => d = .bool true, ⟨fun a o z => (by cases z), fun a o z => (by cases z), fun a o z => (by cases z)⟩, ?_, rfl, h _ _ fun _ => rfl, fun d μ' v H' p o s i => ?_⟩
  · have e : hid (fun _ => none) (fun _ => none) H = H := by
      funext b
      unfold hid
      rw [if_pos ⟨rfl, rfl⟩]
    rw [e]
    refine .cons (.fix hS ?_) .nil
    induction ns with
    | nil => exact .nil
    | cons n ns ih =>
      refine .cons (.int n) ?_
      clear ih h hS
      induction ns with
      | nil => exact .nil
      | cons m ns ih => exact .cons (.int m) ih
  · subst p
    cases i
    rfl
end Dz

set_option Elab.async false
set_option linter.all false
set_option maxRecDepth 100000
set_option maxHeartbeats 2000000
/-! DzA: split, sorted, *xs in a display, list(xs) that changes, enumerate. -/
namespace Dz
open PySem L2

section
variable {K : PySem.W.Frag} {R : Hp} {μ : Mh} {H : Hp} {P : DV → Mh → Prop} {Q : VK}
/-- a new list that will change -/
theorem Nxt.lstM {xs : List V} {ds : List DV} {p : Addr} (k : Nxt K R μ H P Q) (o : Ok K R μ H) (q : ∀ p, μ p = none → P (.obj p) (updM μ p (.lst ds))) (r : Iss K (hid R μ H) xs ds) (n : H p = none) : Q (.ref p) (upd H p (.lst xs)) := by
  have fm := o.freeM n
  have hs : Same (hid R μ H) (hid R (updM μ p (.lst ds)) (upd H p (.lst xs))) := fun b u e => by
    obtain ⟨e1, e2, e3⟩ := hid_some e
    have ne := ne_of_none e3 n
    rw [hid_at e1 (by rw [updM_ne ne]; exact e2), upd_ne ne]
    exact e3
  obtain ⟨o2, s2⟩ := o.newM (o := .lst xs) (m := .lst ds) n ⟨_, upd_same, r.mono hs⟩ (by intro z; cases z)
  exact k _ _ _ _ (q p fm) o2 s2 (.obj p)
theorem Nxt.dctM0 {p : Addr} (k : Nxt K R μ H P Q) (o : Ok K R μ H) (q : ∀ p, μ p = none → P (.obj p) (updM μ p (.dct []))) (n : H p = none) : Q (.ref p) (upd H p (.dK [])) := by
  have fm := o.freeM n
  have hs : Same (hid R μ H) (hid R (updM μ p (.dct [])) (upd H p (.dK []))) := fun b u e => by
    obtain ⟨e1, e2, e3⟩ := hid_some e
    have ne := ne_of_none e3 n
    rw [hid_at e1 (by rw [updM_ne ne]; exact e2), upd_ne ne]
    exact e3
  obtain ⟨o2, s2⟩ := o.newM (o := .dK []) (m := .dct []) n ⟨[], upd_same, rfl, .nil⟩ (by intro z; cases z)
  exact k _ _ _ _ (q p fm) o2 s2 (.obj p)
end
/-! ### {} and list(xs) that will change -/
def wDct0M : WE := fun _ μ P => ∀ p, μ p = none → P (.obj p) (updM μ p (.dct []))
section
variable {X : Cx} {pos p : Pos} {e : Expr} {w : WE}
theorem d_dct0M : PE X (.Dict [] [] pos) (tD X.K wDct0M) :=
  PE.imp pe_dnewK fun σ H Q ⟨R, ρ, μ, P, a, w, k⟩ => fun p n => k.dctM0 a.ok w n
def newL (ds : List DV) (μ : Mh) (P : DV → Mh → Prop) : Prop := ∀ p, μ p = none → P (.obj p) (updM μ p (.lst ds))
def wListM : WB
  | [.lst ds], μ, P => newL ds μ P
  | [.tup ds], μ, P => newL ds μ P
  | [.obj a], μ, P => match μ a with | some (.lst ds) => newL ds μ P | _ => False
  | _, _, _ => False
theorem listM_rd {K : PySem.W.Frag} : RAD K (fun xs H Q => ∃ p ys, xs = [.ref p] ∧ (SqL K H p ys ∨ SqT K H p ys) ∧ ∀ l, H l = none → Q (.ref l) (upd H l (.lst ys))) wListM := by
  intro R μ H vs ds P Q o i w k
  match ds, w with
  | [.lst ds], w =>
    obtain ⟨v, rfl, i1⟩ := i.one
    cases i1 with | lst hx rx => exact ⟨_, _, rfl, .inl (SqL.of (hid_le _ _ hx)), fun l n => k.lstM o w rx n⟩
  | [.tup ds], w =>
    obtain ⟨v, rfl, i1⟩ := i.one
    cases i1 with | tup hx rx => exact ⟨_, _, rfl, .inr (Same.seqT hid_le hx.t), fun l n => k.lstM o w rx n⟩
  | [.obj a], w =>
    obtain ⟨v, rfl, i1⟩ := i.one
    have w' : (match μ a with | some (.lst ds) => newL ds μ P | _ => False) := w
    split at w'
    · rename_i ds e
      obtain ⟨xs, h1, r⟩ := o.ob a _ e
      cases i1
      exact ⟨_, _, rfl, .inl (SqL.of h1), fun l n => k.lstM o w' r n⟩
    · exact w'.elim
theorem d_listM (hg : Gl X "list") (hm : X.mg "list" = none) (ha : PE X e (tD X.K w)) (hs : starEach [e] X.env = [(false, eval e X.env)] := by rfl) : PE X (.Call (.Name "list" p) [e] [] pos) (tD X.K (wB wListM (wCons w wNil))) :=
  d_callTy call_list_of listM_rd hg hm (by decide +kernel) (da_cons ha da_nil hs) (by decide) (by decide) hs rfl
/-! ### a.split(b) -/
theorem strs_is {K : PySem.W.Frag} {H : Hp} : ∀ ys : List Str, Iss K H (ys.map V.str) (ys.map DV.str)
  | [] => .nil
  | y :: ys => .cons (.str y) (strs_is ys)
def wSplit (wa wb : WE) : WE := fun ρ μ P => wa ρ μ fun x μ1 => match x with
  | .str a => wb ρ μ1 fun y μ2 => match y with
    | .str b => (b.length == 0) = false ∧ a.length + 2 ≤ sizeLine ∧ P (.lst ((Txt.split a b).map .str)) μ2
    | _ => False
  | _ => False
variable {o : Expr} {wo : WE} {apos : Pos}
theorem d_split (ho : PE X o (tD X.K wo)) (he : PE X e (tD X.K w)) (hs : starEach [e] X.env = [(false, eval e X.env)] := by rfl) (hbase : attributeBase o "split" X.env (eval o X.env) = eval o X.env := by rfl) (hline : (apos.endLine == pos.line) = true := by rfl) :
    PE X (.Call (.Attribute o "split" apos) [e] [] pos) (tD X.K (wSplit wo w)) :=
  PE.imp (pe_split ho he hs hbase hline) fun σ H Q ⟨R, ρ, μ, P, a, w, k⟩ => ⟨R, ρ, μ, _, a, w, fun x μ1 v H1 p1 o1 s1 i1 => by
    cases i1 with
    | str z => exact ⟨⟨z, rfl⟩, R, ρ, μ1, _, a.step o1 s1, p1, fun y μ2 u H2 p2 o2 s2 i2 => by
        cases i2 with
        | str b => exact ⟨z, b, rfl, rfl, p2.1, p2.2.1, fun p n => (k.step (s1.trans s2)).lst o2 p2.2.2 (strs_is _) n⟩
        | _ => exact (show False from p2).elim⟩
    | _ => exact (show False from p1).elim⟩
/-! ### *e in a display -/
def wStar (we : WE) (wr : WA) : WA := fun ρ μ P => we ρ μ fun x μ1 => match x with
  | .tup ds => wr ρ μ1 fun es μ2 => P (ds ++ es) μ2
  | .lst ds => wr ρ μ1 fun es μ2 => P (ds ++ es) μ2
  | _ => False
variable {es : List Expr} {wr : WA}
theorem da_star (he : PE X e (tD X.K w)) (hr : PA X es (tDA X.K wr)) (hs : starEach (.Starred e p :: es) X.env = (true, eval e X.env) :: starEach es X.env := by rfl) : PA X (.Starred e p :: es) (tDA X.K (wStar w wr)) :=
  PA.imp (StX.pa_star he hr hs) fun σ H Q ⟨R, ρ, μ, P, a, w, k⟩ => ⟨R, ρ, μ, _, a, w, fun x μ1 v H1 p1 o1 s1 i1 => by
    cases i1 with
    | tup hx rx => exact ⟨_, _, rfl, .inl (Same.seqT hid_le hx.t), R, ρ, μ1, _, a.step o1 s1, p1, fun ds μ2 vs H2 p2 o2 s2 i2 => k _ μ2 _ H2 p2 o2 (s1.trans s2) ((rx.mono s2).append i2)⟩
    | lst hx rx => exact ⟨_, _, rfl, .inr (SqL.of (hid_le _ _ hx)), R, ρ, μ1, _, a.step o1 s1, p1, fun ds μ2 vs H2 p2 o2 s2 i2 => k _ μ2 _ H2 p2 o2 (s1.trans s2) ((rx.mono s2).append i2)⟩
    | _ => exact (show False from p1).elim⟩
end

/-! ### sorted(xs) of data that can be compared place by place -/
def allAlike (ds : List DV) : Bool := ds.all fun d => ds.all fun e => PySem.W.alike (toPy d) (toPy e)
def sortable (ds : List DV) : Bool := (ds.all fun d => match d with | .tup (_ :: _) => true | _ => false) || ds.all fun d => match d with | .int _ => true | .str _ => true | _ => false
def leD (a b : DV) : Bool := !PySem.W.dataLt (toPy b) (toPy a)
def sortW (ds : List DV) (μ : Mh) (P : DV → Mh → Prop) : Prop := noObjs ds = true ∧ allAlike ds = true ∧ sortable ds = true ∧ (∀ d ∈ ds, (toPy d).depth ≤ 60) ∧ ds.length ≤ sizeLine ∧ ∀ es : List DV, es.Perm ds → es.Pairwise (fun a b => leD a b = true) → P (.lst es) μ
def wSorted : WB
  | [.lst ds], μ, P => sortW ds μ P
  | [.obj a], μ, P => match μ a with | some (.lst ds) => sortW ds μ P | _ => False
  | _, _, _ => False
def rSortedD (K : PySem.W.Frag) : List V → Hp → VK → Prop := fun vs H Q => ∃ (a : Addr) (xs : List V) (ds : List DV), vs = [V.ref a] ∧ SqL K H a xs ∧ Iss K H xs ds ∧ noObjs ds = true ∧ allAlike ds = true ∧ sortable ds = true ∧ (∀ d ∈ ds, (toPy d).depth ≤ 60) ∧ ds.length ≤ sizeLine ∧
  ∀ (ps : List (V × DV)) (p : Addr), ps.Perm (xs.zip ds) → (ps.map (·.2)).Pairwise (fun a b => leD a b = true) → H p = none → Q (.ref p) (upd H p (.lst (ps.map (·.1))))
theorem Iss.zipAll {K : PySem.W.Frag} {H : Hp} : ∀ {xs : List V} {ds : List DV}, Iss K H xs ds → ∀ p ∈ xs.zip ds, Is K H p.1 p.2
  | _, _, .nil, p, h => by cases h
  | _, _, .cons h r, p, hp => by
    rcases List.mem_cons.mp hp with rfl | hp
    · exact h
    · exact Iss.zipAll r p hp
theorem Iss.ofAll {K : PySem.W.Frag} {H : Hp} : ∀ {ps : List (V × DV)}, (∀ p ∈ ps, Is K H p.1 p.2) → Iss K H (ps.map (·.1)) (ps.map (·.2))
  | [], _ => .nil
  | p :: ps, h => .cons (h p List.mem_cons_self) (Iss.ofAll fun q hq => h q (List.mem_cons_of_mem _ hq))
theorem zip_snd {α β : Type} : ∀ {xs : List α} {ys : List β}, xs.length = ys.length → (xs.zip ys).map (·.2) = ys
  | [], [], _ => rfl
  | _ :: xs, _ :: ys, h => by
    rw [List.zip_cons_cons, List.map_cons, zip_snd (by simpa using h)]
  | [], _ :: _, h => by cases h
  | _ :: _, [], h => by cases h
section
variable {X : Cx}
theorem each_of {H : Hp} {pins : List (Addr × Obj)} {σ : L2.St} {s : Shared} (I : Inv X pins σ H s) (hs : ∃ o, X.base.get? sysModules = some o) : ∀ {xs : List V} {ds : List DV} {us : List Value}, Iss X.K H xs ds → noObjs ds = true → Vals xs us →
    PySem.W.EachIs (fun (u : Value) (b : V × DV) => RelV b.1 u) us (xs.zip ds) ∧ PySem.W.EachIs (fun (u : Value) (b : V × DV) => ∃ as, Reads s.heap u (toPy b.2) as) us (xs.zip ds)
  | _, _, _, .nil, _, r => by cases r; exact ⟨.nil, .nil⟩
  | _, _, _, .cons h rr, n, r => by
    cases r with
    | cons r1 r2 =>
      have n' := Bool.and_eq_true_iff.mp n
      obtain ⟨e1, e2⟩ := each_of I hs rr n'.2 r2
      obtain ⟨as, q, _⟩ := Is.reads I hs h n'.1 r1
      exact ⟨.cons r1 e1, .cons ⟨as, q⟩ e2⟩
theorem vals_of_each : ∀ {us : List Value} {ps : List (V × DV)}, PySem.W.EachIs (fun (u : Value) (b : V × DV) => RelV b.1 u) us ps → Vals (ps.map (·.1)) us
  | _, _, .nil => .nil
  | _, _, .cons h r => .cons h (vals_of_each r)
theorem call_sortedD {k : Nat} (hr : Room k X.A) (hs : ∃ o, X.base.get? sysModules = some o) : CallR X (.builtin "sorted") (rSortedD X.K) := by
  intro pins s σ H vs us Q I r h
  obtain ⟨a, xs, ds, rfl, hl, ri, no, al, so, dp, sz, q⟩ := h
  obtain ⟨its, rv, hl2, _⟩ := I.list hl
  rw [Vals.ref1 r]
  obtain ⟨e1, e2⟩ := each_of I hs ri no rv
  have hlen : (xs.zip ds).length = ds.length := by rw [List.length_zip, ri.length, Nat.min_self]
  have hsnd : (xs.zip ds).map (fun b => toPy b.2) = ds.map toPy := by
    have := congrArg (List.map toPy) (zip_snd ri.length)
    rw [List.map_map] at this
    exact this
  have hmem : ∀ b ∈ xs.zip ds, b.2 ∈ ds := fun b hb => by
    have := List.mem_map_of_mem (f := (·.2)) hb
    rw [zip_snd ri.length] at this
    exact this
  refine PySem.W.sorted_data (enc := fun b : V × DV => toPy b.2) hl2.isList e1 e2 ?_ ?_ (by rw [hlen]; exact sz) (fun b hb => ?_) fun out h1 h2 => ?_
  · rw [hsnd]
    intro d hd d' hd'
    rw [List.mem_map] at hd hd'
    obtain ⟨x, hx, rfl⟩ := hd
    obtain ⟨y, hy, rfl⟩ := hd'
    unfold allAlike at al
    rw [List.all_eq_true] at al
    have := al x hx
    rw [List.all_eq_true] at this
    exact this y hy
  · rw [hsnd]
    unfold sortable at so
    rw [Bool.or_eq_true, List.all_eq_true, List.all_eq_true] at so
    rcases so with so | so
    · refine .inl fun d hd => ?_
      rw [List.mem_map] at hd
      obtain ⟨x, hx, rfl⟩ := hd
      have := so x hx
      match x, this with
      | .tup (y :: ys), _ => exact ⟨toPy y, toPys ys, rfl⟩
    · refine .inr fun d hd => ?_
      rw [List.mem_map] at hd
      obtain ⟨x, hx, rfl⟩ := hd
      have := so x hx
      match x, this with
      | .int i, _ => exact ⟨fun z => (by cases z), fun xs z => (by cases z)⟩
      | .str i, _ => exact ⟨fun z => (by cases z), fun xs z => (by cases z)⟩
  · have h1 := dp b.2 (hmem b hb)
    have := hr.un
    show X.A.units + 2 + (toPy b.2).depth < cLine
    omega
  · obtain ⟨ep, he'⟩ := PyProof.Rows.sortedAll_at s.heap its out.toArray
    have rv2 := vals_of_each h2
    have pw := List.pairwise_mergeSort (le := PySem.W.dataLe false fun b : V × DV => toPy b.2) (PySem.W.sortLe_total _ false _).trans (fun a b => by
      rw [Bool.or_eq_true]
      exact (PySem.W.sortLe_total (PyProof.Rows.listOrd PyProof.Rows.itemOrd) false fun b : V × DV => PySem.W.keyToks (toPy b.2)).total a b) (xs.zip ds)
    have pm := List.mergeSort_perm (xs.zip ds) (PySem.W.dataLe false fun b : V × DV => toPy b.2)
    generalize hms : (xs.zip ds).mergeSort (PySem.W.dataLe false fun b : V × DV => toPy b.2) = ps at rv2 pm pw
    have hz : (ps.map (·.1)).length ≤ sizeLine := by
      rw [List.length_map, pm.length_eq, hlen]
      exact sz
    refine ⟨.ref _, upd H (s.heap.objs.size + 1) (.lst (ps.map (·.1))), I.laid (t' := s.toks) (fun _ _ => PyProof.Rows.sortedAll_old) (Nat.le_succ _) ⟨hz, out, ep, rv2, he'⟩, rfl, q ps _ pm ?_ (I.hok.fresh (Nat.le_succ _))⟩
    rw [List.pairwise_map]
    exact pw.imp fun {a b} h => h
end
section
variable {X : Cx} {p pos : Pos} {e : Expr} {w : WE}
theorem Iss.noLen {K : PySem.W.Frag} {H : Hp} {ps : List (V × DV)} (h : ∀ q ∈ ps, Is K H q.1 q.2) : Iss K H (ps.map (·.1)) (ps.map (·.2)) := Iss.ofAll h
theorem sorted_rd {K : PySem.W.Frag} : RAD K (rSortedD K) wSorted := by
  intro R μ H vs ds P Q o i w k
  have go : ∀ (a : Addr) (xs : List V) (ds : List DV), SqL K H a xs → Iss K (hid R μ H) xs ds → sortW ds μ P → rSortedD K [.ref a] H Q := by
    rintro a xs ds hx rx ⟨no, al, so, dp, sz, w⟩
    refine ⟨a, xs, ds, rfl, hx, rx.mono hid_le, no, al, so, dp, sz, fun ps p pm pw n => ?_⟩
    have hall : ∀ q ∈ ps, Is K (hid R μ H) q.1 q.2 := fun q hq => Iss.zipAll rx q (pm.mem_iff.mp hq)
    have hp2 : (ps.map (·.2)).Perm ds := by
      have := pm.map (·.2)
      rw [zip_snd rx.length] at this
      exact this
    exact k.lst o (w _ hp2 pw) (Iss.ofAll hall) n
  match ds, w with
  | [.lst ds], w =>
    obtain ⟨v, rfl, i1⟩ := i.one
    cases i1 with
    | @lst a xs _ hx rx => exact go a xs ds (SqL.of (hid_le _ _ hx)) rx w
  | [.obj a], w =>
    obtain ⟨v, rfl, i1⟩ := i.one
    have w' : (match μ a with | some (.lst ds) => sortW ds μ P | _ => False) := w
    split at w'
    · rename_i ds e
      obtain ⟨xs, h1, r⟩ := o.ob a _ e
      cases i1
      exact go a xs ds (SqL.of h1) r w'
    · exact w'.elim
theorem d_sorted {k : Nat} (hr : Room k X.A) (hsm : ∃ o, X.base.get? sysModules = some o) (hg : Gl X "sorted") (hm : X.mg "sorted" = none) (ha : PE X e (tD X.K w)) (hs : starEach [e] X.env = [(false, eval e X.env)] := by rfl) :
    PE X (.Call (.Name "sorted" p) [e] [] pos) (tD X.K (wB wSorted (wCons w wNil))) :=
  d_callB (call_sortedD hr hsm) sorted_rd hg hm (by decide +kernel) (da_cons ha da_nil hs) (by decide) (by decide) hs rfl
end

end Dz

set_option Elab.async false
set_option linter.all false
set_option maxRecDepth 100000
set_option maxHeartbeats 4000000
namespace Dz
open PySem L2 PyProof.Rows

/-! ### enumerate of a tuple or a list -/
def enumD : Nat → List DV → List DV
  | _, [] => []
  | i, d :: ds => .tup [.int (i : Nat), d] :: enumD (i + 1) ds
theorem enumD_len : ∀ (k : Nat) (ds : List DV), (enumD k ds).length = ds.length
  | _, [] => rfl
  | k, _ :: ds => congrArg (· + 1) (enumD_len (k + 1) ds)
theorem enumD_get : ∀ (k : Nat) (ds : List DV) (i : Nat) {d : DV}, ds[i]? = some d → (enumD k ds)[i]? = some (.tup [.int ((k + i : Nat)), d])
  | _, [], _, _, h => by simp at h
  | k, e :: ds, 0, d, h => by
    have : e = d := by simpa using h
    subst this
    rfl
  | k, _ :: ds, i + 1, d, h => by
    have := enumD_get (k + 1) ds i (by simpa using h)
    have e : k + 1 + i = k + (i + 1) := by omega
    rw [e] at this
    simpa [enumD] using this
set_option maxHeartbeats 4000000 in
theorem newEnumB {v : Value} {ob : Obj} {HH : Heap → Prop} (B : Begins v ob HH) :
    Meets (Builtin.«enumerate.__new__» ⟨[.type "enumerate", v], []⟩) (fun _ R s => HH s.heap ∧
      R (.ok (.ret (.ref (s.heap.push ob).objs.size))) { s with heap := (s.heap.push ob).push { cls := .type "enumerate", data := .fields #[.none, .bool false, .ref s.heap.objs.size, rawInt 0, .none, .none] } }) :=
  .of_wp fun prog w A R s h => by
    obtain ⟨hp, g, d, tk, os⟩ := s
    obtain ⟨hb, h⟩ := h
    have hsub := sub_enumerate
    have begin_ : ∀ {A' : Around} {E : Value → Shared → Prop} {Q : Value → Shared → Prop}, Q (.ref hp.objs.size) ⟨hp.push ob, g, d, tk, os⟩ → wpAny (model prog w) A' (pyIter v) Q E ⟨hp, g, d, tk, os⟩ :=
      fun q => B.iter prog w _ _ ⟨hp, g, d, tk, os⟩ _ hb q
    wp_walk using begin_
    refine wpAny_stack_any fun st => wpAny_pure ?_
    split
    · rename_i cl _ _ _ _ _
      cases (cl == Value.type "enumerate")
      all_goals
        wp_walk using begin_
        exact ⟨_, rfl, h⟩
    · wp_walk using begin_
      exact ⟨_, rfl, h⟩
theorem call_enumB {prog : Program} {w : World} {A : Around} {E : Value → Shared → Prop} {s : Shared} {v : Value} {ob : Obj} {HH : Heap → Prop} {Q : Value → Shared → Prop} (B : Begins v ob HH) (hb : HH s.heap)
    (h : ∀ h', IsEnum h' (s.heap.objs.size + 1) s.heap.objs.size 0 .none → h'.get? s.heap.objs.size = some ob → h'.objs.size = s.heap.objs.size + 2 →
      (∀ b o, s.heap.get? b = some o → h'.get? b = some o) → Q (.ref (s.heap.objs.size + 1)) { s with heap := h' }) : wpAny (model prog w) A (call (.type "enumerate") [v]) Q E s := by
  refine callType_new F.called_enumerate (by decide) (F.typeCall_enumerate_1 _) (F.newCall_enumerate_1 _) (fun obj => F.args_object_init_2 obj _) F.entry_enumerate_new (newEnumB B) ⟨hb, ?_⟩
  have size1 : (s.heap.push ob).objs.size = s.heap.objs.size + 1 := Heap.size_push ..
  show _ ∧ _
  rw [size1]
  have made : IsEnum ((s.heap.push ob).push { cls := .type "enumerate", data := .fields #[.none, .bool false, .ref s.heap.objs.size, rawInt 0, .none, .none] }) (s.heap.objs.size + 1) s.heap.objs.size 0 .none := by
    have z := Heap.get?_push_size (s.heap.push ob) (o := { cls := .type "enumerate", data := .fields #[.none, .bool false, .ref s.heap.objs.size, rawInt 0, .none, .none] }) rfl
    rw [size1] at z
    exact z
  refine ⟨⟨_, made, rfl⟩, h _ made (Heap.get?_push_of_some _ (Heap.get?_push_size _ B.free)) (by rw [Heap.size_push, size1]) fun b o x => Heap.get?_push_of_some _ (Heap.get?_push_of_some _ x)⟩

/-- a tuple walked with places -/
def IteT (K : PySem.W.Frag) (a : Addr) : It where
  go := fun i H => ∃ (xs : List V) (x : V), SqT K H a xs ∧ xs[i]? = some x
  yld := fun i H v H' => ∃ T x, v = .ref T ∧ H T = none ∧ (∃ o, NewT o ∧ H' = upd H T (.frz o (.tup [.int (i : Nat), x]))) ∧ ∀ xs, SqT K H a xs → xs[i]? = some x
  stop := fun i H => ∃ xs : List V, SqT K H a xs ∧ xs.length ≤ i
theorem turn_enumT {P : Program} {w : World} {K : PySem.W.Frag} {elts : List Expr} {kk : Nat} {tpos : Pos} (a e it : Addr) :
    Turn P w K (.Tuple elts kk tpos) (IteT K a) [e, it] e (fun i h => (∃ old, IsEnum h e it ((i : Nat) : Int) old) ∧ h.IsTupleIter it a i ∧ e ≠ it) where
  mem := by simp
  obj := fun i h st b hb => by
    obtain ⟨⟨old, he⟩, ⟨o, ho, hc, hd⟩, _⟩ := st
    rcases (show b = e ∨ b = it by simpa using hb) with rfl | rfl
    · exact ⟨_, he, fun v q => nomatch q⟩
    · exact ⟨o, ho, fun v q => by rw [hd] at q; cases q⟩
  keep := fun i h h' st k => by
    obtain ⟨⟨old, he⟩, hi, hne⟩ := st
    exact ⟨⟨old, k e (by simp) _ he⟩, hi.at fun o q => k it (by simp) o q, hne⟩
  item := by
    intro X hP hw hK hc i pins s σ H E I hf st hg
    subst hP hw hK
    obtain ⟨⟨old, he⟩, hit, hne⟩ := st
    obtain ⟨xs, x, hq, hx⟩ := hg
    obtain ⟨its, rv, p, hz⟩ := I.tuple hq
    obtain ⟨u, hu, ru⟩ := rv.get hx
    have hel : e < s.heap.objs.size := Heap.lt_size he
    have hil : it < s.heap.objs.size := by obtain ⟨_, q, _⟩ := hit; exact Heap.lt_size q
    have pT : s.heap.IsTuple a its.toArray := p
    have hai : a ≠ it := fun z => by
      obtain ⟨o1, g1, c1, _⟩ := hit
      obtain ⟨o2, g2, c2, _⟩ := pT
      rw [z, g1] at g2
      cases g2
      rw [c1] at c2
      injection c2 with q
      exact absurd q (by decide)
    have hae : e ≠ a := fun z => by
      obtain ⟨o2, g2, c2, _⟩ := pT
      rw [← z, he] at g2
      cases g2
      injection c2 with q
      exact absurd q (by decide)
    refine wpAny_pyNext_enum_itemD (Draws.tuple (prog := X.prog) (w := X.w) (A := X.A.in1) (I.ok.hd hc) it a hai its.toArray) he ⟨hit, pT⟩ ?_ hne ?_ fun x' h' tk hx' ho hst' hT hsz hk => ?_
    · obtain ⟨hi, _⟩ := List.getElem?_eq_some_iff.mp hu
      simpa using hi
    · intro hm
      rcases (show e = it ∨ e = a by simpa using hm) with z | z
      · exact hne z
      · exact hae z
    · have ex : x' = u := by
        have e1 : its.toArray[i]? = some x' := hx'
        have e2 : its.toArray[i]? = some u := by simpa using hu
        rw [e1] at e2
        exact Option.some.inj e2
      subst ex
      refine ⟨_, rfl, wpAny_letOwnedTupleGo_enum (s := { s with heap := h', toks := tk + 1 }) ho fun h'' he' sb => ?_⟩
      have hT2 : h''.get? s.heap.objs.size = some { cls := .type "tuple", data := .seq #[.int i tk, x'] } := (sb.2 _ (Nat.ne_of_gt hel)).trans hT
      have new : ObjOk X.prog X.w (upd H s.heap.objs.size (.frz { cls := .type "tuple", data := .seq #[.int i tk, x'] } (.tup [.int (i : Nat), x]))) h'' s.heap.objs.size (.frz { cls := .type "tuple", data := .seq #[.int i tk, x'] } (.tup [.int (i : Nat), x])) :=
        ⟨hT2, by show 2 ≤ sizeLine; decide, [.int i tk, x'], .cons ⟨_, rfl⟩ (.cons ru .nil), ⟨_, hT2, rfl, _, rfl⟩⟩
      have I1 : Inv X pins σ (upd H s.heap.objs.size (.frz { cls := .type "tuple", data := .seq #[.int i tk, x'] } (.tup [.int (i : Nat), x]))) { s with heap := h'', toks := tk + 1 } :=
        I.turnedNew (ch := [e, it]) (fun b ob hb q => (sb.2 b (fun z => hb (by simp [z]))).trans (hk b ob (fun z => hb (by simp [z])) (fun z => hb (by simp [z])) q)) hf (Nat.le_refl _) new
      refine ⟨.ref s.heap.objs.size, _, I1, rfl, ⟨_, x, rfl, I.hok.fresh (Nat.le_refl _), ⟨_, ⟨rfl, rfl⟩, rfl⟩, fun ys hy => by rw [I.tuple_inj hy hq]; exact hx⟩, ⟨⟨x', ?_⟩, hst'.1.at fun o q => (sb.2 it (Ne.symm hne)).trans q, hne⟩, fun b hb => ?_⟩
      · rw [show ((i + 1 : Nat) : Int) = (i : Int) + 1 by omega]
        exact he'
      · have hb' : b < s.heap.objs.size := by
          rcases (show b = e ∨ b = it by simpa using hb) with rfl | rfl
          · exact hel
          · exact hil
        rw [upd_ne (Nat.ne_of_lt hb')]
        exact (hf b hb).1
  done := by
    intro X hP hw hK hc i pins s σ H E I hf st hg
    subst hP hw hK
    obtain ⟨⟨old, he⟩, hit, hne⟩ := st
    obtain ⟨xs, hq, hx⟩ := hg
    obtain ⟨its, rv, p, hz⟩ := I.tuple hq
    obtain ⟨f0, f1, f2, f3, f4, f5⟩ := hf it (by simp)
    have pT : s.heap.IsTuple a its.toArray := p
    have hl := rv.length
    have D : Draws X.prog X.w X.A.in1 it [it, a] i (fun _ _ => False) (fun j h => j = i ∧ h.IsTupleIter it a j ∧ h.IsTuple a its.toArray) := {
      live := fun _ _ st => let ⟨o, ho, _⟩ := st.2.1; ⟨o, ho⟩
      frame := fun _ _ _ st hk => ⟨st.1, st.2.1.at fun o e => hk it (by simp) o e, st.2.2.at fun o e => hk a (by simp) o e⟩
      item := fun j s Q E hj st _ => absurd hj (by rw [st.1]; exact Nat.lt_irrefl _)
      done := fun s Q E st hE => wpAny_nextOf_tuple_end (A := X.A.in1) (I.ok.hd hc) st.2.1 st.2.2 (by simp; omega) hE }
    exact wpAny_pyNext_enum_endD D he ⟨rfl, hit, pT⟩ fun h' eb => ⟨rfl, I.turned (t' := s.toks) (fun b o hb q => eb b o hb q) f0 f1 f3 f4 f5⟩
  self := fun A i s Q E st h => let ⟨⟨_, he⟩, _⟩ := st; wpAny_pyIter_enum he h
def iEnumT (K : PySem.W.Frag) (ta : TA) : TI := fun σ H R => ta σ H fun vs H1 => ∃ a xs, vs = [V.ref a] ∧ SqT K H1 a xs ∧ R (IteT K a) H1
theorem pi_enumT {X : Cx} {e : Expr} {ta : TA} {p pos tpos : Pos} {elts : List Expr} {kk : Nat} (hg : Gl X "enumerate") (hm : X.mg "enumerate" = none) (ha : PA X [e] ta) (hs : starEach [e] X.env = [(false, eval e X.env)] := by rfl) :
    PI X (.Tuple elts kk tpos) (.Call (.Name "enumerate" p) [e] [] pos) (iEnumT X.K ta) := by
  refine ⟨fun pins s σ H R I h => Call_ (ld_blt I hg hm boot_enumerate (PyProof.Rows.callWith_type1 (thn (ha.run pos pins s σ H _ I h) fun us s1 ⟨vs, H1, I1, r1, q1⟩ => ?_) hs rfl))⟩
  obtain ⟨a, xs, ex, hq, q⟩ := q1
  subst ex
  cases r1 with
  | cons r rr =>
    cases rr
    cases r
    obtain ⟨its, rv, p', hz⟩ := I1.tuple hq
    have pT : s1.heap.IsTuple a its.toArray := p'
    refine call_enumB (begins_tuple a its.toArray) pT fun h' he hit hsz hk => wpAny_pyIter_enum he ?_
    have I2 : Inv X pins σ H1 { s1 with heap := h' } := I1.kept (t' := s1.toks) hk
    refine ⟨s1.heap.objs.size + 1, [s1.heap.objs.size + 1, s1.heap.objs.size], _, _, H1, rfl, I2, turn_enumT a (s1.heap.objs.size + 1) s1.heap.objs.size, ⟨⟨.none, he⟩, ⟨_, hit, rfl, rfl⟩, Nat.succ_ne_self _⟩, fun b hb => ?_, q⟩
    have hle : s1.heap.objs.size ≤ b := by
      rcases (show b = s1.heap.objs.size + 1 ∨ b = s1.heap.objs.size by simpa using hb) with z | z
      · rw [z]; exact Nat.le_add_right _ _
      · rw [z]; exact Nat.le_refl _
    exact I1.fpOk hle (I1.hok.fresh hle)
theorem ItD.enumT {K : PySem.W.Frag} {Hm : Hp} {a : Addr} {vs : List V} {xs : List DV} (h : SqT K Hm a vs) (r : Iss K Hm vs xs) : ItD K Hm (IteT K a) (enumD 0 xs) where
  go := fun R μ H i o s hi => by
    rw [enumD_len] at hi
    obtain ⟨v, e, _⟩ := r.get (List.getElem?_eq_getElem hi)
    exact ⟨vs, v, Same.seqT (s.trans hid_le) h, e⟩
  yld := fun R μ H i x H' o s y hi => by
    obtain ⟨T, u, rfl, n, ⟨ob, nt, rfl⟩, y⟩ := y
    have e := y vs (Same.seqT (s.trans hid_le) h)
    obtain ⟨d, e2, k⟩ := r.getV e
    have e3 := enumD_get 0 xs i e2
    rw [Nat.zero_add] at e3
    exact ⟨_, e3, o.new n, o.sameNew n, isTup nt o n (.cons (.int _) (.cons (k.mono s) .nil))⟩
  stop := fun R μ H i o s hi => ⟨vs, Same.seqT (s.trans hid_le) h, by rw [r.length]; rw [enumD_len] at hi; exact hi⟩
/-- a list walked with places -/
def IteL (K : PySem.W.Frag) (a : Addr) : It where
  go := fun i H => ∃ (xs : List V) (x : V), SqL K H a xs ∧ xs[i]? = some x
  yld := fun i H v H' => ∃ T x, v = .ref T ∧ H T = none ∧ (∃ o, NewT o ∧ H' = upd H T (.frz o (.tup [.int (i : Nat), x]))) ∧ ∀ xs, SqL K H a xs → xs[i]? = some x
  stop := fun i H => ∃ xs : List V, SqL K H a xs ∧ xs.length ≤ i
theorem turn_enumL {P : Program} {w : World} {K : PySem.W.Frag} {elts : List Expr} {kk : Nat} {tpos : Pos} (a e it : Addr) :
    Turn P w K (.Tuple elts kk tpos) (IteL K a) [e, it] e (fun i h => (∃ old, IsEnum h e it ((i : Nat) : Int) old) ∧ h.IsListIter it a i ∧ e ≠ it) where
  mem := by simp
  obj := fun i h st b hb => by
    obtain ⟨⟨old, he⟩, ⟨o, ho, hc, hd⟩, _⟩ := st
    rcases (show b = e ∨ b = it by simpa using hb) with rfl | rfl
    · exact ⟨_, he, fun v q => nomatch q⟩
    · exact ⟨o, ho, fun v q => by rw [hd] at q; cases q⟩
  keep := fun i h h' st k => by
    obtain ⟨⟨old, he⟩, hi, hne⟩ := st
    exact ⟨⟨old, k e (by simp) _ he⟩, hi.at fun o q => k it (by simp) o q, hne⟩
  item := by
    intro X hP hw hK hc i pins s σ H E I hf st hg
    subst hP hw hK
    obtain ⟨⟨old, he⟩, hit, hne⟩ := st
    obtain ⟨xs, x, hq, hx⟩ := hg
    obtain ⟨its, rv, p, hz⟩ := I.list hq
    obtain ⟨u, hu, ru⟩ := rv.get hx
    have hel : e < s.heap.objs.size := Heap.lt_size he
    have hil : it < s.heap.objs.size := by obtain ⟨_, q, _⟩ := hit; exact Heap.lt_size q
    refine wpAny_pyNext_enum_item he hit p.isList (x := u) (by simpa using hu) hne fun h' ho hit' hT hsz hk => ?_
    refine ⟨_, rfl, wpAny_letOwnedTupleGo_enum (s := { s with heap := h', toks := s.toks + 1 }) ho fun h'' he' sb => ?_⟩
    have hT2 : h''.get? s.heap.objs.size = some { cls := .type "tuple", data := .seq #[.int i s.toks, u] } := (sb.2 _ (Nat.ne_of_gt hel)).trans hT
    have new : ObjOk X.prog X.w (upd H s.heap.objs.size (.frz { cls := .type "tuple", data := .seq #[.int i s.toks, u] } (.tup [.int (i : Nat), x]))) h'' s.heap.objs.size (.frz { cls := .type "tuple", data := .seq #[.int i s.toks, u] } (.tup [.int (i : Nat), x])) :=
      ⟨hT2, by show 2 ≤ sizeLine; decide, [.int i s.toks, u], .cons ⟨_, rfl⟩ (.cons ru .nil), ⟨_, hT2, rfl, _, rfl⟩⟩
    have I1 : Inv X pins σ (upd H s.heap.objs.size (.frz { cls := .type "tuple", data := .seq #[.int i s.toks, u] } (.tup [.int (i : Nat), x]))) { s with heap := h'', toks := s.toks + 1 } :=
      I.turnedNew (ch := [e, it]) (fun b ob hb q => (sb.2 b (fun z => hb (by simp [z]))).trans (hk b ob (fun z => hb (by simp [z])) (fun z => hb (by simp [z])) q)) hf (Nat.le_refl _) new
    refine ⟨.ref s.heap.objs.size, _, I1, rfl, ⟨_, x, rfl, I.hok.fresh (Nat.le_refl _), ⟨_, ⟨rfl, rfl⟩, rfl⟩, fun ys hy => by rw [I.list_inj hy hq]; exact hx⟩, ⟨⟨u, ?_⟩, hit'.at fun o q => (sb.2 it (Ne.symm hne)).trans q, hne⟩, fun b hb => ?_⟩
    · rw [show ((i + 1 : Nat) : Int) = (i : Int) + 1 by omega]
      exact he'
    · have hb' : b < s.heap.objs.size := by
        rcases (show b = e ∨ b = it by simpa using hb) with rfl | rfl
        · exact hel
        · exact hil
      rw [upd_ne (Nat.ne_of_lt hb')]
      exact (hf b hb).1
  done := by
    intro X hP hw hK hc i pins s σ H E I hf st hg
    subst hP hw hK
    obtain ⟨⟨old, he⟩, hit, hne⟩ := st
    obtain ⟨xs, hq, hx⟩ := hg
    obtain ⟨its, rv, p, hz⟩ := I.list hq
    obtain ⟨f0, f1, f2, f3, f4, f5⟩ := hf it (by simp)
    have hl := rv.length
    exact wpAny_pyNext_enum_end (I.ok.hd hc) he hit p.isList (by simp; omega) fun h' eb => ⟨rfl, I.turned (t' := s.toks) (fun b o hb q => eb b o hb q) f0 f1 f3 f4 f5⟩
  self := fun A i s Q E st h => let ⟨⟨_, he⟩, _⟩ := st; wpAny_pyIter_enum he h
def iEnumL (K : PySem.W.Frag) (ta : TA) : TI := fun σ H R => ta σ H fun vs H1 => ∃ a xs, vs = [V.ref a] ∧ SqL K H1 a xs ∧ R (IteL K a) H1
theorem pi_enumL {X : Cx} {e : Expr} {ta : TA} {p pos tpos : Pos} {elts : List Expr} {kk : Nat} (hg : Gl X "enumerate") (hm : X.mg "enumerate" = none) (ha : PA X [e] ta) (hs : starEach [e] X.env = [(false, eval e X.env)] := by rfl) :
    PI X (.Tuple elts kk tpos) (.Call (.Name "enumerate" p) [e] [] pos) (iEnumL X.K ta) := by
  refine ⟨fun pins s σ H R I h => Call_ (ld_blt I hg hm boot_enumerate (PyProof.Rows.callWith_type1 (thn (ha.run pos pins s σ H _ I h) fun us s1 ⟨vs, H1, I1, r1, q1⟩ => ?_) hs rfl))⟩
  obtain ⟨a, xs, ex, hq, q⟩ := q1
  subst ex
  cases r1 with
  | cons r rr =>
    cases rr
    cases r
    obtain ⟨its, rv, p', hz⟩ := I1.list hq
    refine call_enumerate_list p'.isList fun h' he hit hsz hk => wpAny_pyIter_enum he ?_
    have I2 : Inv X pins σ H1 { s1 with heap := h' } := I1.kept (t' := s1.toks) hk
    refine ⟨s1.heap.objs.size + 1, [s1.heap.objs.size + 1, s1.heap.objs.size], _, _, H1, rfl, I2, turn_enumL a (s1.heap.objs.size + 1) s1.heap.objs.size, ⟨⟨.none, he⟩, hit, Nat.succ_ne_self _⟩, fun b hb => ?_, q⟩
    have hle : s1.heap.objs.size ≤ b := by
      rcases (show b = s1.heap.objs.size + 1 ∨ b = s1.heap.objs.size by simpa using hb) with z | z
      · rw [z]; exact Nat.le_add_right _ _
      · rw [z]; exact Nat.le_refl _
    exact I1.fpOk hle (I1.hok.fresh hle)
theorem ItD.enumL {K : PySem.W.Frag} {Hm : Hp} {a : Addr} {vs : List V} {xs : List DV} (h : Hm a = some (.lst vs)) (r : Iss K Hm vs xs) : ItD K Hm (IteL K a) (enumD 0 xs) where
  go := fun R μ H i o s hi => by
    rw [enumD_len] at hi
    obtain ⟨v, e, _⟩ := r.get (List.getElem?_eq_getElem hi)
    exact ⟨vs, v, SqL.of (hid_le _ _ (s _ _ h)), e⟩
  yld := fun R μ H i x H' o s y hi => by
    obtain ⟨T, u, rfl, n, ⟨ob, nt, rfl⟩, y⟩ := y
    have e := y vs (SqL.of (hid_le _ _ (s _ _ h)))
    obtain ⟨d, e2, k⟩ := r.getV e
    have e3 := enumD_get 0 xs i e2
    rw [Nat.zero_add] at e3
    exact ⟨_, e3, o.new n, o.sameNew n, isTup nt o n (.cons (.int _) (.cons (k.mono s) .nil))⟩
  stop := fun R μ H i o s hi => ⟨vs, SqL.of (hid_le _ _ (s _ _ h)), by rw [r.length]; rw [enumD_len] at hi; exact hi⟩
def sEnumT (w : WE) : WI := fun ρ μ P => w ρ μ fun d μ1 => match d with | .tup xs => P (enumD 0 xs) μ1 | _ => False
def sEnumL (w : WE) : WI := fun ρ μ P => w ρ μ fun d μ1 => match d with | .lst xs => P (enumD 0 xs) μ1 | _ => False
section
variable {X : Cx} {e : Expr} {w : WE} {p pos tpos : Pos} {elts : List Expr} {kk : Nat}
theorem di_enumT (hg : Gl X "enumerate") (hm : X.mg "enumerate" = none) (h : PE X e (tD X.K w)) (hs : starEach [e] X.env = [(false, eval e X.env)] := by rfl) : PI X (.Tuple elts kk tpos) (.Call (.Name "enumerate" p) [e] [] pos) (tDI X.K (sEnumT w)) :=
  PI.imp (pi_enumT hg hm (pa_cons h pa_nil hs) hs) fun σ H RR ⟨R, ρ, μ, P, a, w, k⟩ => ⟨R, ρ, μ, _, a, w, fun d μ1 v H1 p1 o1 s1 i1 => by
    cases i1 with
    | tup hx rx => exact ⟨_, _, rfl, Same.seqT hid_le hx.t, k _ μ1 H1 _ p1 o1 s1 (.enumT hx.t rx)⟩
    | _ => exact (show False from p1).elim⟩
theorem di_enumL (hg : Gl X "enumerate") (hm : X.mg "enumerate" = none) (h : PE X e (tD X.K w)) (hs : starEach [e] X.env = [(false, eval e X.env)] := by rfl) : PI X (.Tuple elts kk tpos) (.Call (.Name "enumerate" p) [e] [] pos) (tDI X.K (sEnumL w)) :=
  PI.imp (pi_enumL hg hm (pa_cons h pa_nil hs) hs) fun σ H RR ⟨R, ρ, μ, P, a, w, k⟩ => ⟨R, ρ, μ, _, a, w, fun d μ1 v H1 p1 o1 s1 i1 => by
    cases i1 with
    | lst hx rx => exact ⟨_, _, rfl, SqL.of (hid_le _ _ hx), k _ μ1 H1 _ p1 o1 s1 (.enumL hx rx)⟩
    | _ => exact (show False from p1).elim⟩
end
end Dz

set_option Elab.async false
set_option linter.all false
set_option maxRecDepth 100000
set_option maxHeartbeats 2000000
/-! DzM: the deck of the other shape (field mixed). -/
namespace Dz
open PySem L2

def wDraw2 (A B C E F G I J L M : Int) : WS :=
  (wSeq (wDPut (wVar 0) (wC (.str "draws")) (wBin wAdd (wBin wDGet (wVar 0) (wC (.str "draws"))) (wC (.int 1))))
    (wSeq (wAsg (wC (.int 0)) (wgName 2))
    (wSeq (wIfS (wTest (wBin wNeL (wBin wDGet (wVar 0) (wC (.str "cells"))) (wLst wNil))) (wSeq (wAsg (wUn wPop (wBin wDGet (wVar 0) (wC (.str "cells")))) (wgName 2))
    (wIfS (wTest (wBin wGe (wVar 2) (wBin wPow (wC (.int 10)) (wC (.int 18))))) (wSeq (wDrop (wApp (wBin wDGet (wVar 0) (wC (.str "cells"))) (wBin wDiv (wVar 2) (wVar 1))))
    (wRet (wBin wMod (wVar 2) (wVar 1)))) wNext)) wNext)
    (wSeq (wAsg (wBin wDGet (wVar 0) (wC (.str "draws"))) (wgName 3))
    (wSeq (wAsg (wBin wAdd (wBin wAdd (wBin wDGet (wVar 0) (wC (.str "mixed"))) (wBin wMod (wVar 2) (wC (.int A)))) (wBin wMul (wBin wMul (wC (.int B)) (wVar 3)) (wVar 3))) (wgName 4))
    (wSeq (wAsg (wBin wMod (wBin wMul (wVar 4) (wC (.int C))) (wC (.int E))) (wgName 4))
    (wSeq (wAsg (wBin wMod (wBin wAdd (wBin wAdd (wBin wMul (wVar 4) (wVar 4)) (wBin wMul (wC (.int F)) (wVar 4))) (wVar 3)) (wC (.int G))) (wgName 4))
    (wRet (wBin wMod (wBin wDiv (wBin wMod (wBin wMul (wVar 4) (wBin wAdd (wBin wDiv (wVar 4) (wC (.int I))) (wC (.int J)))) (wC (.int L))) (wC (.int M))) (wVar 1))))))))))
theorem dput_e {E : DEnds} {ρ : Rho} {μ : Mh} {a : Addr} {kvs : List (Key × DV)} {y v : DV} {k : Key} {i : Nat} {wv : WE} (h : μ a = some (.dct kvs)) (hk : keyD y = some k) (l : kvs.length < sizeLine) (h1 : ρ[i]? = some (some (.obj a))) (hw : ∀ P : DV → Mh → Prop, P v μ → wv ρ μ P) (q : E.nx ρ (updM μ a (.dct (putD kvs k v)))) : wDPut (wVar i) (wC y) wv E ρ μ := by
  unfold wDPut
  refine hw _ ?_
  unfold wVar wC
  simp only [h, h1, hk, atW]
  exact ⟨l, q⟩
theorem draw2_ok {A B C E F G I J L M : Int} (hA : sm A) (hB : sm B) (hC : sm C) (hE : sm E) (hF : sm F) (hG : sm G) (hI : sm I) (hL : sm L) (hM : sm M) (ds : List DV) (μ : Mh) (Q : DV → Mh → Prop) (hl : ds.length = 2) (h : wfDraw "mixed" ds μ Q) :
    wDraw2 A B C E F G I J L M { nx := fun _ μ' => Q .none μ', rt := Q } (ds.map some ++ List.replicate 3 none) μ := by
  obtain ⟨a, c, m, many, rfl, h0, h64, ⟨ne, t, n, cells, ha, hc, t0, t1, n0, n1, cl⟩, q⟩ := h
  have na : a ≠ c := fun z => ne z.symm
  let kv1 : List (Key × DV) := [(.inr "cells", .obj c), (.inr "mixed", .int t), (.inr "draws", .int (n + 1))]
  let μ1 : Mh := updM μ a (.dct kv1)
  have ha1 : μ1 a = some (.dct kv1) := updM_same
  have hc1 : μ1 c = some (.lst (cells.map .int)) := (updM_ne ne).trans hc
  have lg : ∀ x : Int, 0 < x → x < 2 ^ 64 → x.natAbs.log2 < 9000 := fun x x0 x1 => by
    have : x.natAbs < 2 ^ 64 := by omega
    exact (Nat.log2_lt (n := x.natAbs) (k := 9000) (by omega)).mpr (Nat.lt_of_lt_of_le this (Nat.pow_le_pow_right (by decide) (by decide)))
  have dm : ∀ x : Int, CDivW x many := fun x => ⟨h0, lg many h0 h64⟩
  have dM : ∀ x : Int, CDivW x M := fun x => ⟨hM.1, lg M hM.1 (by have := hM.2; omega)⟩
  have dI : ∀ x : Int, CDivW x I := fun x => ⟨hI.1, lg I hI.1 (by have := hI.2; omega)⟩
  have fin : ∀ (μ2 : Mh) (cs : List Int), μ2 a = μ1 a → μ2 c = some (.lst (cs.map .int)) → cs.length ≤ 63 → (∀ b, b ≠ a → b ≠ c → μ2 b = μ b) → ∀ r, 0 ≤ r → r < many → Q (.int r) μ2 := fun μ2 cs e1 e2 e3 e4 r r0 r1 =>
    q r μ2 r0 r1 ⟨ne, t, n + 1, cs, e1.trans ha1, e2, t0, t1, by omega, by omega, e3⟩ e4
  have v4 : putD [(.inr "cells", .obj c), (.inr "mixed", .int t), (.inr "draws", .int n)] (.inr "draws") (.int (n + 1)) = kv1 := rfl
  have bE : ∀ x : Int, CMul (x % E) (x % E) := fun x => by
    left
    have p1 := Int.emod_nonneg x (show E ≠ 0 by have := hE.1; omega)
    have p2 := Int.emod_lt_of_pos x hE.1
    have := hE.2
    omega
  have bG : ∀ x y : Int, CMul (x % G) y := fun x y => by
    left
    have p1 := Int.emod_nonneg x (show G ≠ 0 by have := hG.1; omega)
    have p2 := Int.emod_lt_of_pos x hG.1
    have := hG.2
    omega
  have bn : ∀ x : Int, CMul x (n + 1) := fun x => by right; omega
  have G1 := @dget_o
  have G2 := @dput_e
  have G3 := @neL_o
  have G4 := @pop_o
  -- the last rows
  have tail : ∀ (cell : Int) (z3 z4 : Option DV) (μ2 : Mh), μ2 a = some (.dct kv1) → (∀ r, 0 ≤ r → r < many → Q (.int r) μ2) →
      (wSeq (wAsg (wBin wDGet (wVar 0) (wC (.str "draws"))) (wgName 3))
    (wSeq (wAsg (wBin wAdd (wBin wAdd (wBin wDGet (wVar 0) (wC (.str "mixed"))) (wBin wMod (wVar 2) (wC (.int A)))) (wBin wMul (wBin wMul (wC (.int B)) (wVar 3)) (wVar 3))) (wgName 4))
    (wSeq (wAsg (wBin wMod (wBin wMul (wVar 4) (wC (.int C))) (wC (.int E))) (wgName 4))
    (wSeq (wAsg (wBin wMod (wBin wAdd (wBin wAdd (wBin wMul (wVar 4) (wVar 4)) (wBin wMul (wC (.int F)) (wVar 4))) (wVar 3)) (wC (.int G))) (wgName 4))
    (wRet (wBin wMod (wBin wDiv (wBin wMod (wBin wMul (wVar 4) (wBin wAdd (wBin wDiv (wVar 4) (wC (.int I))) (wC (.int J)))) (wC (.int L))) (wC (.int M))) (wVar 1))))))) { nx := fun _ μ' => Q .none μ', rt := Q } [some (.obj a), some (.int many), some (.int cell), z3, z4] μ2 := by
    intro cell z3 z4 μ2 e2 k
    generalize wDGet = g1 at G1 ⊢
    refine G1 (y := .str "draws") e2 rfl (show valD kv1 _ = some (.int (n + 1)) from rfl) ?_
    refine G1 (y := .str "mixed") e2 rfl (show valD kv1 _ = some (.int t) from rfl) ?_
    exact ⟨hA.1, cm_l hB, bn _, cm_r hC, hE.1, bE _, cm_l hF, hG.1, dI _, bG _ _, hL.1, dM _, h0, k _ (Int.emod_nonneg _ (by omega)) (Int.emod_lt_of_pos _ h0)⟩
  unfold wDraw2
  generalize wDPut = g2 at G2 ⊢
  generalize wNeL = g3 at G3 ⊢
  generalize wPop = g4 at G4 ⊢
  refine G2 (v := .int (n + 1)) (kvs := [(.inr "cells", .obj c), (.inr "mixed", .int t), (.inr "draws", .int n)]) ha rfl (Nat.le_of_ble_eq_true rfl) rfl (fun P hP => ?_) ?_
  · have G1' := @dget_o
    generalize wDGet = g1 at G1' ⊢
    exact G1' (y := .str "draws") ha rfl (show valD _ _ = some (.int n) from rfl) hP
  · rw [v4]
    generalize hg1 : wDGet = g1 at G1 ⊢
    refine G1 (y := .str "cells") ha1 rfl (show valD kv1 _ = some (.obj c) from rfl) ?_
    refine ⟨Nat.zero_le _, ?_⟩
    cases cells with
    | nil =>
      refine G3 (es := []) hc1 rfl rfl ?_
      subst hg1
      exact tail 0 none none μ1 ha1 (fin μ1 [] rfl hc1 (Nat.zero_le _) fun b x y => updM_ne x)
    | cons y ys =>
      refine G3 (es := []) hc1 (shaped_ints _) rfl ?_
      refine G1 (y := .str "cells") ha1 rfl (show valD kv1 _ = some (.obj c) from rfl) ?_
      have hlast : ∃ z, ((y :: ys).map DV.int)[((y :: ys).map DV.int).length - 1]? = some (.int z) := by
        refine ⟨(y :: ys).getLast (by intro z; cases z), ?_⟩
        rw [List.length_map, List.getElem?_map, List.getLast_eq_getElem, List.getElem?_eq_getElem (by simp)]
        rfl
      obtain ⟨z, hz⟩ := hlast
      refine G4 hc1 hz ?_
      have hdl : ((y :: ys).map DV.int).dropLast = (y :: ys).dropLast.map DV.int := by rw [List.map_dropLast]
      have ldl : (y :: ys).dropLast.length ≤ 62 := by rw [List.length_dropLast]; omega
      generalize (y :: ys).dropLast = cs at hdl ldl
      rw [hdl]
      let μ2 : Mh := updM μ1 c (.lst (cs.map .int))
      have ha2 : μ2 a = some (.dct kv1) := (updM_ne na).trans ha1
      have hc2 : μ2 c = some (.lst (cs.map .int)) := updM_same
      refine ⟨cpow_ten (by decide) (by decide), ?_⟩
      cases hge : decide ((10 : Int) ^ 18 ≤ z) with
      | true =>
        have e : decide ((10 : Int) ^ (18 : Int).toNat ≤ z) = true := hge
        show (match decide ((10 : Int) ^ (18 : Int).toNat ≤ z) with | true => _ | false => _)
        rw [e]
        refine G1 (y := .str "cells") ha2 rfl (show valD kv1 _ = some (.obj c) from rfl) ?_
        refine ⟨?_, dm z, ?_⟩
        · show isLstM (.obj c) μ2
          unfold isLstM
          simp only [hc2]
        · show (match μ2 c with | some (.lst ds) => _ | _ => False)
          rw [hc2]
          refine ⟨by rw [List.length_map, sizeLine_eq]; omega, h0, ?_⟩
          refine fin _ (cs ++ [z / many]) ((updM_ne na).trans ((updM_ne na).trans rfl)) ?_ (by simp; omega) (fun b x y => (updM_ne y).trans ((updM_ne y).trans (updM_ne x))) _ (Int.emod_nonneg _ (by omega)) (Int.emod_lt_of_pos _ h0)
          rw [updM_same, List.map_append]
          rfl
      | false =>
        have e : decide ((10 : Int) ^ (18 : Int).toNat ≤ z) = false := hge
        show (match decide ((10 : Int) ^ (18 : Int).toNat ≤ z) with | true => _ | false => _)
        rw [e]
        subst hg1
        exact tail z none none μ2 ha2 (fin μ2 cs (updM_ne na) hc2 (by omega) fun b x y => (updM_ne y).trans (updM_ne x))

def wDeck2 (S B A C M : Int) : WS :=
  (wSeq (wAsg (wB wList (wCons (wSl (wVar 0) wNoPart (wPart (wC (.int 63)))) wNil)) (wgName 1))
    (wSeq (wAsg (wC (.int S)) (wgName 2))
    (wSeq (wFor (sLst (wVar 1)) (wgName 3) (wAsg (wBin wMod (wBin wAdd (wBin wAdd (wBin wMul (wVar 2) (wC (.int B))) (wBin wMod (wVar 3) (wC (.int A)))) (wC (.int C))) (wC (.int M))) (wgName 2)))
    (wRet (wDctM [((.inr "cells"), (wRevM (wVar 1))), ((.inr "mixed"), (wVar 2)), ((.inr "draws"), (wC (.int 0)))])))))
theorem deck2_ok {S B A C M : Int} (hS : 0 ≤ S) (hS2 : S < 2 ^ 32) (hB : sm B) (hA : sm A) (hM : sm M) (ds : List DV) (μ : Mh) (Q : DV → Mh → Prop) (hl : ds.length = 1) (h : wfDeck "mixed" ds μ Q) :
    wDeck2 S B A C M { nx := fun _ μ' => Q .none μ', rt := Q } (ds.map some ++ List.replicate 3 none) μ := by
  obtain ⟨ns, rfl, q⟩ := h
  have hcut : cutD (ns.map DV.int) none (some 63) = (ns.take 63).map DV.int := by
    have e0 : HT.sIx (ns.map DV.int).length 0 none = 0 := rfl
    have e1 : min (HT.sIx (ns.map DV.int).length (ns.map DV.int).length (some 63)) (ns.map DV.int).length = min 63 (ns.map DV.int).length := by
      show min (min (63 : Nat) _) _ = _
      omega
    unfold cutD
    rw [e0, List.drop_zero, Nat.sub_zero, List.take_eq_take_min, e1, ← List.take_eq_take_min, List.map_take]
  have hlen : (ns.take 63).length ≤ 63 := by rw [List.length_take]; omega
  have key : ∀ xs : List Int, xs.length ≤ 63 → ∀ t : Int, 0 ≤ t → t < 2 ^ 32 → ∀ z, wRet (wDctM [((.inr "cells"), (wRevM (wVar 1))), ((.inr "mixed"), (wVar 2)), ((.inr "draws"), (wC (.int 0)))]) { nx := fun _ μ' => Q .none μ', rt := Q } [some (.fix (ns.map .int)), some (.lst (xs.map .int)), some (.int t), z] μ := fun xs hx t t0 t1 z => by
    intro c hc a ha
    have nac : a ≠ c := fun e => by
      subst e
      have : updM μ a _ a = none := ha
      rw [updM_same] at this
      cases this
    have ha' : μ a = none := by
      have h1 : updM μ c _ a = none := ha
      rw [updM_ne nac] at h1
      exact h1
    refine q a c _ ha' hc ⟨fun e => nac e.symm, t, 0, xs.reverse, updM_same, ?_, t0, t1, by omega, by omega, by simp; omega⟩ fun b x y => (updM_ne x).trans (updM_ne y)
    rw [updM_ne fun e => nac e.symm, updM_same, List.map_reverse]
  have loop : ∀ (ys : List Int) (t : Int) (z : Option DV), 0 ≤ t → t < 2 ^ 32 → forW (wgName 3) (wAsg (wBin wMod (wBin wAdd (wBin wAdd (wBin wMul (wVar 2) (wC (.int B))) (wBin wMod (wVar 3) (wC (.int A)))) (wC (.int C))) (wC (.int M))) (wgName 2))
      { nx := wRet (wDctM [((.inr "cells"), (wRevM (wVar 1))), ((.inr "mixed"), (wVar 2)), ((.inr "draws"), (wC (.int 0)))]) { nx := fun _ μ' => Q .none μ', rt := Q }, rt := Q } (ys.map .int) [some (.fix (ns.map .int)), some (.lst ((ns.take 63).map .int)), some (.int t), z] μ := by
    intro ys
    induction ys with
    | nil => exact fun t z t0 t1 => key _ hlen t t0 t1 z
    | cons y ys ih =>
      intro t z t0 t1
      refine ⟨cm_r hB, hA.1, hM.1, ih _ _ (Int.emod_nonneg _ (by have := hM.1; omega)) (Int.lt_trans (Int.emod_lt_of_pos _ hM.1) hM.2)⟩
  show forW _ _ _ (cutD (ns.map DV.int) none (some 63)) [some (.fix (ns.map .int)), some (.lst (cutD (ns.map DV.int) none (some 63))), some (.int S), none] μ
  rw [hcut]
  exact loop _ S none hS hS2
end Dz

set_option Elab.async false
set_option linter.all false
set_option maxRecDepth 100000
set_option maxHeartbeats 2000000
/-! DzB: match of a text against written texts. -/
namespace Dz
open PySem L2

section
variable {X : Cx}
/-- the pattern takes exactly the texts cs, and binds nothing -/
def PatIs (X : Cx) (p : Pattern) (cs : List Str) : Prop := ∀ (pins : List (Addr × Obj)) (s : Shared) (σ : L2.St) (H : Hp) (z : Str) (t : Tok), Inv X pins σ H s →
  wpAny (model X.prog X.w) X.A (matchPattern p X.env (.str z t)) (fun r s' => Inv X pins σ H s' ∧ r = if cs.contains z = true then some [] else none) X.xe s
def FirstIs (X : Cx) (ps : List Pattern) (cs : List Str) : Prop := ∀ (pins : List (Addr × Obj)) (s : Shared) (σ : L2.St) (H : Hp) (z : Str) (t : Tok), Inv X pins σ H s →
  wpAny (model X.prog X.w) X.A (matchFirst ps X.env (.str z t)) (fun r s' => Inv X pins σ H s' ∧ r = if cs.contains z = true then some [] else none) X.xe s
theorem pat_val {c : Str} {k : Nat} {p pos : Pos} : PatIs X (.MatchValue (.Constant (.str c) k p) pos) [c] := by
  intro pins s σ H z t I
  refine wpAny_matchPattern_Value (thn ((pe_str (X := X) (x := c)).run pins s σ H (fun v H' => v = .str c ∧ H' = H) I ⟨rfl, rfl⟩) fun u s1 ⟨v, H1, I1, r1, e1, e2⟩ => ?_)
  subst e1 e2
  refine thn (op_eq (X := X) pins s1 σ H1 (.str z) (.str c) (.str z t) u (fun v H' => v = .bl (decide (z = c)) ∧ H' = H1) I1 ⟨t, rfl⟩ r1 ⟨rfl, ?_, rfl⟩) fun b s2 ⟨v, H2, I2, r2, e1, e2⟩ => ?_
  · congr 1
    exact decide_eq_decide.mpr ⟨fun h => V.str.inj h, fun h => by rw [h]⟩
  · subst e1 e2
    cases r2
    have hc : ([c] : List Str).contains z = decide (z = c) := by
      rw [List.contains_cons]
      show (z == c || false) = _
      rw [Bool.or_false]
      exact Bool.beq_eq_decide_eq z c
    rw [hc]
    refine wpAny_pure ?_
    cases h : decide (z = c) with
    | true => exact ⟨I2, rfl⟩
    | false => exact ⟨I2, rfl⟩
theorem first_nil : FirstIs X [] [] := fun pins s σ H z t I => wpAny_matchFirst_nil ⟨I, rfl⟩
theorem first_cons {p : Pattern} {ps : List Pattern} {cs ds : List Str} (h : PatIs X p cs) (hr : FirstIs X ps ds) : FirstIs X (p :: ps) (cs ++ ds) := by
  intro pins s σ H z t I
  refine wpAny_matchFirst_cons (thn (h pins s σ H z t I) fun r s1 ⟨I1, e⟩ => ?_)
  subst e
  have ec : (cs ++ ds).contains z = (cs.contains z || ds.contains z) := by simp
  rw [ec]
  cases h1 : cs.contains z with
  | true =>
    rw [if_pos rfl]
    exact ⟨I1, rfl⟩
  | false =>
    rw [if_neg Bool.false_ne_true, Bool.false_or]
    exact hr pins s1 σ H z t I1
theorem pat_or {ps : List Pattern} {cs : List Str} {pos : Pos} (h : FirstIs X ps cs) : PatIs X (.MatchOr ps pos) cs := by
  intro pins s σ H z t I
  refine wpAny_matchPattern_Or (thn (h pins s σ H z t I) fun r s1 ⟨I1, e⟩ => ?_)
  subst e
  cases h1 : cs.contains z with
  | true =>
    rw [if_pos rfl]
    refine ⟨I1, ?_⟩
    simp
  | false =>
    rw [if_neg Bool.false_ne_true]
    exact ⟨I1, rfl⟩
structure PMs (X : Cx) (cases_ : List MatchCase) (t : Str → TS) : Prop where
  run : ∀ (pins : List (Addr × Obj)) (s : Shared) (σ : L2.St) (H : Hp) (z : Str) (tk : Tok) (first : Bool) (D : Ends), Inv X pins σ H s → t z D σ H → wpAny (model X.prog X.w) X.A (matchCases cases_ X.env (.str z tk) first) (SP X pins D) X.xe s
theorem pm_nil : PMs X [] (fun _ => tNext) := ⟨fun pins s σ H z tk first D I h => wpAny_matchCases_nil ⟨σ, H, I, h⟩⟩
theorem pm_cons {p : Pattern} {cs : List Str} {body : List Stmt} {rest : List MatchCase} {tb : TS} {tr : Str → TS} (hp : PatIs X p cs) (hb : PSs X body tb) (hr : PMs X rest tr) : PMs X (⟨p, none, body⟩ :: rest) (fun z D σ H => if cs.contains z = true then tb D σ H else tr z D σ H) := by
  refine ⟨fun pins s σ H z tk first D I h => ?_⟩
  refine wpAny_matchCases_cons (thn (hp pins s σ H z tk I) fun r s1 ⟨I1, e⟩ => ?_)
  subst e
  cases h1 : cs.contains z with
  | true =>
    rw [if_pos rfl]
    rw [if_pos h1] at h
    exact wpAny_assignInOrder_none (hb.run pins s1 σ H D I1 h)
  | false =>
    rw [if_neg Bool.false_ne_true]
    rw [if_neg (by rw [h1]; exact Bool.false_ne_true)] at h
    exact hr.run pins s1 σ H z tk false D I1 h
/-! over data -/
def mW (z : Str) : List (List Str × WS) → WS
  | [] => wNext
  | (cs, b) :: r => fun E ρ μ => if cs.contains z = true then b E ρ μ else mW z r E ρ μ
def wMatch (w : WE) (cs : List (List Str × WS)) : WS := fun E ρ μ => w ρ μ fun d μ1 => match d with | .str z => mW z cs E ρ μ1 | _ => False
theorem dm_nil : PMs X [] (fun z => tDS X.K (mW z [])) := ⟨fun pins s σ H z tk first D I ⟨R, ρ, μ, E, a, w, k⟩ => pm_nil.run pins s σ H z tk first D I (k.nx ρ μ σ H w a (Same.refl _))⟩
theorem dm_cons {p : Pattern} {cs : List Str} {body : List Stmt} {rest : List MatchCase} {b : WS} {r : List (List Str × WS)} (hp : PatIs X p cs) (hb : PSs X body (tDS X.K b)) (hr : PMs X rest (fun z => tDS X.K (mW z r))) : PMs X (⟨p, none, body⟩ :: rest) (fun z => tDS X.K (mW z ((cs, b) :: r))) := by
  refine ⟨fun pins s σ H z tk first D I ⟨R, ρ, μ, E, a, w, k⟩ => (pm_cons hp hb hr).run pins s σ H z tk first D I ?_⟩
  have w' : if cs.contains z = true then b E ρ μ else mW z r E ρ μ := w
  show if cs.contains z = true then tDS X.K b D σ H else tDS X.K (mW z r) D σ H
  by_cases h1 : cs.contains z = true
  · rw [if_pos h1] at w' ⊢
    exact ⟨R, ρ, μ, E, a, w', k⟩
  · rw [if_neg h1] at w' ⊢
    exact ⟨R, ρ, μ, E, a, w', k⟩
theorem ds_match {e : Expr} {w : WE} {cases_ : List MatchCase} {cs : List (List Str × WS)} {pos : Pos} (he : PE X e (tD X.K w)) (hm : PMs X cases_ (fun z => tDS X.K (mW z cs))) : PS X (.Match e cases_ pos) (tDS X.K (wMatch w cs)) := by
  refine ⟨fun pins s σ H D I ⟨R, ρ, μ, E, a, w', k⟩ => ?_⟩
  refine wpAny_Match (thn (he.run pins s σ H (fun v H1 => ∃ z, v = .str z ∧ tDS X.K (mW z cs) D σ H1) I ⟨R, ρ, μ, _, a, w', fun d μ1 v H1 p1 o1 s1 i1 => ?_⟩) fun u s1 ⟨v, H1, I1, r1, z, ev, q⟩ => ?_)
  · cases i1 with
    | str z => exact ⟨z, rfl, R, ρ, μ1, E, a.step o1 s1, p1, k.step s1⟩
    | _ => exact (show False from p1).elim
  · subst ev
    obtain ⟨t, rfl⟩ := r1
    exact hm.run pins s1 σ H1 z t true D I1 q
end
end Dz

set_option Elab.async false
set_option linter.all false
set_option maxRecDepth 100000
set_option maxHeartbeats 2000000
/-! DzC: tuples written at the module's level. -/
namespace Dz
open PySem L2

/-- a value of the top that is data whatever the heap is -/
def CI (K : PySem.W.Frag) (u : Value) (d : DV) : Prop := ∃ v, RelV v u ∧ ∀ H, Is K H v d
inductive CIs (K : PySem.W.Frag) : List Value → List DV → Prop
  | nil : CIs K [] []
  | cons {u : Value} {us : List Value} {d : DV} {ds : List DV} : CI K u d → CIs K us ds → CIs K (u :: us) (d :: ds)
theorem CIs.vals {K : PySem.W.Frag} : ∀ {us : List Value} {ds : List DV}, CIs K us ds → ∃ xs, Vals xs us ∧ ∀ H, Iss K H xs ds
  | _, _, .nil => ⟨[], .nil, fun _ => .nil⟩
  | _, _, .cons ⟨v, r, i⟩ h => by
    obtain ⟨xs, r2, i2⟩ := CIs.vals h
    exact ⟨v :: xs, .cons r r2, fun H => .cons (i H) (i2 H)⟩
theorem ci_str {K : PySem.W.Frag} {x : Str} {t : Tok} : CI K (.str x t) (.str x) := ⟨.str x, ⟨t, rfl⟩, fun _ => .str x⟩
theorem ci_int {K : PySem.W.Frag} {i : Int} {t : Tok} : CI K (.int i t) (.int i) := ⟨.int i, ⟨t, rfl⟩, fun _ => .int i⟩
theorem ci_non {K : PySem.W.Frag} : CI K .none .none := ⟨.non, rfl, fun _ => .none⟩
theorem ci_tup {K : PySem.W.Frag} {a : Addr} {its : Array Value} {n : Nat} {sl : Array (Option Value)} {ds : List DV} (l : K.lookup a = some ⟨.type "tuple", none, .seq its n, sl⟩) (hz : its.size ≤ sizeLine) (h : CIs K its.toList ds) : CI K (.ref a) (.tup ds) := by
  obtain ⟨xs, r, i⟩ := h.vals
  exact ⟨.ref a, rfl, fun H => .tup (.inr ⟨_, its, n, l, ⟨rfl, rfl⟩, rfl, hz, r⟩) (i H)⟩
/-- a name of the top that is a constant -/
def GlobIs (K : PySem.W.Frag) (mg : Str → Option Value) (x : Str) (d : DV) : Prop := ∃ u, mg x = some u ∧ CI K u d
theorem glob_of {K : PySem.W.Frag} {h : Heap} {mg : Str → Option Value} {x : Str} {u : Value} {d : DV} (X : K.In h) (G : h.Ns mainGlobals mg) (a : PySem.W.nsIn K mainGlobals x = some (some u)) (c : CI K u d) : GlobIs K mg x d := ⟨u, PySem.W.mg_of X G a, c⟩
theorem d_globE {X : Cx} {x : Str} {d : DV} {pos : Pos} (hg : Gl X x) (h : GlobIs X.K X.mg x d) (hd : (x == ("__debug__" : Str)) = false := by decide) : PE X (.Name x pos) (tD X.K (wC d)) := by
  obtain ⟨u, hm, v, r, i⟩ := h
  exact d_glob hg ⟨u, hm, r⟩ i hd
end Dz

set_option Elab.async false
set_option linter.all false
set_option maxRecDepth 100000
set_option maxHeartbeats 2000000
/-! DzI: xs.index(y), d.get(k), d.get(k, x). -/
namespace Dz
open PySem L2

section
variable {X : Cx} {oe e f : Expr} {pos apos : Pos} {wo we wf : WE}
theorem toPys_get : ∀ {ds : List DV} {j : Nat}, (toPys ds)[j]? = ds[j]?.map toPy
  | ds, j => by rw [toPys_map, List.getElem?_map]
/-- the first place of an equal one -/
def wIndex (wo we : WE) : WE := fun ρ μ P => wo ρ μ fun x μ1 => match x with
  | .lst ds => we ρ μ1 fun y μ2 => shapedD (.lst ds) = true ∧ shapedD y = true ∧ ∃ j z, ds[j]? = some z ∧ deepEq z y = true ∧ (∀ m z', m < j → ds[m]? = some z' → deepEq z' y = false) ∧ P (.int (j : Nat)) μ2
  | _ => False
theorem d_index {k : Nat} (hr : Room k X.A) (ho : PE X oe (tD X.K wo)) (he : PE X e (tD X.K we)) (hs : starEach [e] X.env = [(false, eval e X.env)] := by rfl) (hbase : attributeBase oe "index" X.env (eval oe X.env) = eval oe X.env := by rfl)
    (hfew : ((backTo pos (starEach [e] X.env)).all (fun x => !x.1) && (backToKw pos (keywordEach [] X.env)).all (fun x => x.1.isSome) && decide (([e] : List Expr).length + ([] : List Keyword).length + (if ([] : List Keyword).isEmpty then 0 else 1) < 30)) = true := by rfl) (hline : (apos.endLine == pos.line) = true := by rfl) :
    PE X (.Call (.Attribute oe "index" apos) [e] [] pos) (tD X.K (wIndex wo we)) :=
  PE.imp (pe_bm PySem.F.plainAttrs_list PySem.F.slot_list_index PySem.F.type_list_index (mt_indexD (by have := hr.un; omega)) ho (pa_cons he pa_nil hs) hbase hfew hline hs) fun σ H Q ⟨R, ρ, μ, P, a, w, k⟩ => ⟨R, ρ, μ, _, a, w, fun x μ1 v H1 p1 o1 s1 i1 => by
    cases i1 with
    | @lst b xs ds hx rx =>
      refine ⟨.inl ⟨rfl, xs, SqL.of (hid_le _ _ hx)⟩, R, ρ, μ1, _, a.step o1 s1, p1, fun y μ2 u H2 p2 o2 s2 i2 => ?_⟩
      obtain ⟨sl1, sy, j, z, hj, hz, hno, q⟩ := p2
      have hl2 : Is X.K H2 (.ref b) (.lst ds) := (Is.mono s2 (Is.lst hx rx)).mono hid_le
      have hy2 := i2.mono hid_le
      have d1 := hl2.dpS sl1
      have d2 := hy2.dpS sy
      refine ⟨b, u, toPy y, toPys ds, j, toPy z, rfl, rfl, d1.1, d2.1, d1.2, d2.2, by rw [toPys_get, hj]; rfl, hz, fun m z' hm hz' => ?_, (k.step (s1.trans s2)).val o2 q (.int _)⟩
      rw [toPys_get] at hz'
      cases hd : ds[m]? with
      | none => rw [hd] at hz'; cases hz'
      | some d =>
        rw [hd] at hz'
        have : toPy d = z' := Option.some.inj hz'
        rw [← this]
        exact hno m d hm hd
    | _ => exact (show False from p1).elim⟩
/-! d.get -/
theorem valV_none {kvs : List (Key × V)} {ds : List (Key × DV)} {k : Key} (e : kvs.map (·.1) = ds.map (·.1)) (h : valD ds k = none) : valV kvs k = none := by
  have hd : ∀ d ∈ ds, ¬ d.1 = k := by
    unfold valD at h
    rw [Option.map_eq_none_iff, List.find?_eq_none] at h
    intro d hd
    simpa using h d hd
  unfold valV
  rw [Option.map_eq_none_iff, List.find?_eq_none]
  intro x hx
  have : x.1 ∈ ds.map (·.1) := by rw [← e]; exact List.mem_map_of_mem hx
  obtain ⟨d, h1, h2⟩ := List.mem_map.mp this
  have := hd d h1
  rw [h2] at this
  simpa using this
def isDct (x : DV) (μ : Mh) : Prop := match x with
  | .obj a => match μ a with | some (.dct _) => True | _ => False
  | .dct _ => True
  | _ => False
def getW (kvs : List (Key × DV)) (y z : DV) (μ : Mh) (P : DV → Mh → Prop) : Prop := atW (keyD y) fun k => match valD kvs k with | some d => P d μ | none => P z μ
def wGet2 (wd wk wx : WE) : WE := fun ρ μ P => wd ρ μ fun x μ1 => isDct x μ1 ∧ wk ρ μ1 fun y μ2 => wx ρ μ2 fun z μ3 => match x with
  | .obj a => match μ3 a with
    | some (.dct kvs) => getW kvs y z μ3 P
    | _ => False
  | .dct kvs => getW kvs y z μ3 P
  | _ => False
theorem isD_of {K : PySem.W.Frag} {R : Hp} {μ : Mh} {H : Hp} {v : V} {x : DV} (o : Ok K R μ H) (i : Is K (hid R μ H) v x) (h : isDct x μ) : ∃ a, v = .ref a ∧ IsD H a := by
  cases i with
  | obj a =>
    have h' : (match μ a with | some (.dct _) => True | _ => False) := h
    split at h'
    · rename_i kvs e
      obtain ⟨ks, h3, _⟩ := o.ob a _ e
      exact ⟨a, rfl, .inl ⟨ks, .inl h3⟩⟩
    · exact h'.elim
  | dct h4 h5 h6 => exact ⟨_, rfl, .inl ⟨_, .inl (hid_le _ _ h4)⟩⟩
  | _ => exact h.elim
theorem get_core {K : PySem.W.Frag} {R : Hp} {μ : Mh} {H Hm : Hp} {ks : List (Key × V)} {kvs : List (Key × DV)} {y z : DV} {u v : V} {P : DV → Mh → Prop} {Q : VK} {b : Addr} (o : Ok K R μ H) (k : Nxt K R μ H P Q) (j : Is K (hid R μ H) u y) (i : Is K (hid R μ H) v z) (h3 : H b = some (.dK ks)) (h4 : ks.map (·.1) = kvs.map (·.1)) (h5 : Iss K (hid R μ H) (ks.map (·.2)) (kvs.map (·.2))) (w : getW kvs y z μ P) : ∃ q, DGet H b u q ∧ Q (q.getD v) H := by
  obtain ⟨key, h1, w2⟩ := atW_of w
  rw [keyD_of j h1]
  refine ⟨valV ks key, DGet.k h3, ?_⟩
  cases hd : valD kvs key with
  | none =>
    rw [hd] at w2
    rw [valV_none h4 hd]
    exact k.val o w2 i
  | some d =>
    rw [hd] at w2
    obtain ⟨x, h6, h7⟩ := Iss.val h4 h5 hd
    rw [h6]
    exact k.val o w2 h7
theorem d_get2 {k : Nat} (hr : Room k X.A) (ho : PE X oe (tD X.K wo)) (he : PE X e (tD X.K we)) (hf : PE X f (tD X.K wf)) (m : M2 X oe "get" apos e f pos) : PE X (.Call (.Attribute oe "get" apos) [e, f] [] pos) (tD X.K (wGet2 wo we wf)) :=
  PE.imp (pe_dget2 (by have := hr.un; omega) ho he hf m) fun σ H Q ⟨R, ρ, μ, P, a, w, k⟩ => ⟨R, ρ, μ, _, a, w, fun x μ1 v H1 p1 o1 s1 i1 => by
    obtain ⟨b, rfl, hd⟩ := isD_of o1 i1 p1.1
    refine ⟨b, rfl, hd, R, ρ, μ1, _, a.step o1 s1, p1.2, fun y μ2 u H2 p2 o2 s2 i2 => ⟨R, ρ, μ2, _, a.step o2 (s1.trans s2), p2, fun z μ3 zv H3 p3 o3 s3 i3 => ?_⟩⟩
    have k3 := k.step ((s1.trans s2).trans s3)
    have i1' := i1.mono (s2.trans s3)
    cases i1' with
    | obj =>
      have p3' : (match μ3 b with | some (.dct kvs) => getW kvs y z μ3 P | _ => False) := p3
      split at p3'
      · rename_i kvs e
        obtain ⟨ks, h3, h4, h5⟩ := o3.ob b _ e
        exact get_core (Hm := H3) o3 k3 (i2.mono s3) i3 h3 h4 h5 p3'
      · exact p3'.elim
    | dct h4 h5 h6 => exact get_core (Hm := H3) o3 k3 (i2.mono s3) i3 (hid_le _ _ h4) h5 h6 p3
    | _ => exact (show False from p3).elim⟩
def wGet1 (wd wk : WE) : WE := fun ρ μ P => wd ρ μ fun x μ1 => isDct x μ1 ∧ wk ρ μ1 fun y μ2 => match x with
  | .obj a => match μ2 a with
    | some (.dct kvs) => getW kvs y .none μ2 P
    | _ => False
  | .dct kvs => getW kvs y .none μ2 P
  | _ => False
theorem d_get1 {k : Nat} (hr : Room k X.A) (ho : PE X oe (tD X.K wo)) (he : PE X e (tD X.K we)) (m : M1 X oe "get" apos e pos) : PE X (.Call (.Attribute oe "get" apos) [e] [] pos) (tD X.K (wGet1 wo we)) :=
  PE.imp (pe_dget1 (by have := hr.un; omega) ho he m) fun σ H Q ⟨R, ρ, μ, P, a, w, k⟩ => ⟨R, ρ, μ, _, a, w, fun x μ1 v H1 p1 o1 s1 i1 => by
    obtain ⟨b, rfl, hd⟩ := isD_of o1 i1 p1.1
    refine ⟨b, rfl, hd, R, ρ, μ1, _, a.step o1 s1, p1.2, fun y μ2 u H2 p2 o2 s2 i2 => ?_⟩
    have k2 := k.step (s1.trans s2)
    have i1' := i1.mono s2
    cases i1' with
    | obj =>
      have p2' : (match μ2 b with | some (.dct kvs) => getW kvs y .none μ2 P | _ => False) := p2
      split at p2'
      · rename_i kvs e
        obtain ⟨ks, h3, h4, h5⟩ := o2.ob b _ e
        exact get_core (Hm := H2) o2 k2 i2 .none h3 h4 h5 p2'
      · exact p2'.elim
    | dct h4 h5 h6 => exact get_core (Hm := H2) o2 k2 i2 .none (hid_le _ _ h4) h5 h6 p2
    | _ => exact (show False from p2).elim⟩
end
end Dz

set_option Elab.async false
set_option linter.all false
set_option maxRecDepth 100000
set_option maxHeartbeats 2000000
/-! DzJ: dicts written at the module's level, by text. -/
namespace Dz
open PySem L2

/-- a name of the top that is a written dict -/
def DctIs (K : PySem.W.Frag) (w : World) (mg : Str → Option Value) (x : Str) (f : List (Str × DV)) : Prop := ∃ p, mg x = some (.ref p) ∧ ∀ e ∈ f, ∃ v, KDct K w p e.1 v ∧ ∀ H, Is K H v e.2
def lookD (f : List (Str × DV)) (z : Str) : Option DV := (f.find? fun e => decide (e.1 = z)).map (·.2)
def wIxK (f : List (Str × DV)) (wb : WE) : WE := fun ρ μ P => wb ρ μ fun y μ1 => match y with
  | .str z => atW (lookD f z) fun d => P d μ1
  | _ => False
theorem d_ixK {X : Cx} {x : Str} {f : List (Str × DV)} {b : Expr} {wb : WE} {pos p2 : Pos} (hg : Gl X x) (h : DctIs X.K X.w X.mg x f) (hb : PE X b (tD X.K wb)) (hs : PlainIx b := by exact fun _ _ => rfl) (hd : (x == ("__debug__" : Str)) = false := by decide) :
    PE X (.Subscript (.Name x p2) b pos) (tD X.K (wIxK f wb)) := by
  obtain ⟨p, hm, hf⟩ := h
  refine PE.imp (pe_ix ix_kdict (pe_glob (v := .ref p) hg hm rfl hd) hb hs) fun σ H Q ⟨R, ρ, μ, P, a, w, k⟩ => ?_
  refine ⟨R, ρ, μ, _, a, w, fun y μ1 u H1 p1 o1 s1 i1 => ?_⟩
  cases i1 with
  | str z =>
    obtain ⟨d, hl, q⟩ := atW_of (show atW (lookD f z) _ from p1)
    unfold lookD at hl
    cases hfz : f.find? fun e => decide (e.1 = z) with
    | none => rw [hfz] at hl; cases hl
    | some e =>
      rw [hfz] at hl
      have ed : e.2 = d := Option.some.inj hl
      have ez : e.1 = z := of_decide_eq_true (List.find?_some (p := fun e : Str × DV => decide (e.1 = z)) hfz)
      obtain ⟨v, kd, iv⟩ := hf e (List.mem_of_find?_eq_some hfz)
      rw [ez] at kd
      rw [ed] at iv
      exact ⟨p, z, v, rfl, rfl, kd, (k.step s1).val o1 q (iv _)⟩
  | _ => exact (show False from p1).elim
theorem dct_of {K : PySem.W.Frag} {h : Heap} {w : World} {mg : Str → Option Value} {x : Str} {p : Addr} {es : Array DictEntry} {n : Nat} {f : List (Str × DV)} (X : K.In h) (G : h.Ns mainGlobals mg) (a : PySem.W.nsIn K mainGlobals x = some (some (.ref p)))
    (l : K.lookup p = some ⟨.type "dict", none, .dict es n, #[]⟩) (hk : PySem.W.KeysLit w.params es.toList) (hf : ∀ e ∈ f, ∃ u, PySem.W.nsIn K p e.1 = some (some u) ∧ CI K u e.2) : DctIs K w mg x f := by
  refine ⟨p, PySem.W.mg_of X G a, fun e he => ?_⟩
  obtain ⟨u, h1, v, h2, h3⟩ := hf e he
  exact ⟨v, ⟨es, n, u, l, hk, h1, h2⟩, h3⟩
end Dz

set_option Elab.async false
set_option linter.all false
set_option maxRecDepth 100000
set_option maxHeartbeats 2000000
/-! DzW: an object that changes no more is plain data. -/
namespace Dz
open PySem L2

def delM (μ : Mh) (a : Addr) : Mh := fun b => if b = a then none else μ b
theorem delM_same {μ : Mh} {a : Addr} : delM μ a a = none := by unfold delM; rw [if_pos rfl]
theorem delM_ne {μ : Mh} {a b : Addr} (h : b ≠ a) : delM μ a b = μ b := by unfold delM; rw [if_neg h]
theorem Ok.free {K : PySem.W.Frag} {R : Hp} {μ : Mh} {H : Hp} {a : Addr} {m : MO} (k : Ok K R μ H) (h : μ a = some m) (hn : m ≠ .inner) : Ok K R (delM μ a) H ∧ Same (hid R μ H) (hid R (delM μ a) H) ∧ hid R (delM μ a) H a = H a := by
  have ra : R a = none := by
    cases e : R a with
    | none => rfl
    | some o => rw [k.dj a o e] at h; cases h
  have hs : Same (hid R μ H) (hid R (delM μ a) H) := fun b u e => by
    obtain ⟨e1, e2, e3⟩ := hid_some e
    have ne : b ≠ a := fun z => by subst z; rw [h] at e2; cases e2
    rw [hid_at e1 (by rw [delM_ne ne]; exact e2)]
    exact e3
  refine ⟨⟨k.fr, fun b o e => ?_, fun b u e => ?_⟩, hs, hid_at ra delM_same⟩
  · have := k.dj b o e
    unfold delM
    split
    · rfl
    · exact this
  · by_cases z : b = a
    · subst z
      rw [delM_same] at e
      cases e
    · rw [delM_ne z] at e
      refine (k.ob b u e).mono hs rfl (fun _ _ => rfl) e (fun c q => ?_)
      rw [delM_ne fun w => by subst w; rw [h] at q; cases q; exact hn rfl]
      exact q
/-- e, an object that changes no more -/
def wFrz (w : WE) : WE := fun ρ μ P => w ρ μ fun d μ1 => match d with
  | .obj a => match μ1 a with
    | some (.lst ds) => P (.lst ds) (delM μ1 a)
    | some (.dct ds) => P (.dct ds) (delM μ1 a)
    | _ => False
  | d => P d μ1
theorem d_frz {X : Cx} {e : Expr} {w : WE} (h : PE X e (tD X.K w)) : PE X e (tD X.K (wFrz w)) :=
  PE.imp h fun σ H Q ⟨R, ρ, μ, P, a, w, k⟩ => ⟨R, ρ, μ, _, a, w, fun x μ1 v H1 p1 o1 s1 i1 => by
    cases i1 with
    | obj b =>
      have p2 : (match μ1 b with | some (.lst ds) => P (.lst ds) (delM μ1 b) | some (.dct ds) => P (.dct ds) (delM μ1 b) | _ => False) := p1
      split at p2
      · rename_i ds e
        obtain ⟨xs, h1, r⟩ := o1.ob b _ e
        obtain ⟨o2, s2, e2⟩ := o1.free e (by intro z; cases z)
        exact k _ _ _ _ p2 o2 (s1.trans s2) (.lst (e2.trans h1) (r.mono s2))
      · rename_i ds e
        obtain ⟨xs, h1, q, r⟩ := o1.ob b _ e
        obtain ⟨o2, s2, e2⟩ := o1.free e (by intro z; cases z)
        exact k _ _ _ _ p2 o2 (s1.trans s2) (.dct (e2.trans h1) q (r.mono s2))
      · exact p2.elim
    | none => exact k _ _ _ _ p1 o1 s1 .none
    | bool c => exact k _ _ _ _ p1 o1 s1 (.bool c)
    | int c => exact k _ _ _ _ p1 o1 s1 (.int c)
    | str c => exact k _ _ _ _ p1 o1 s1 (.str c)
    | tup h1 r => exact k _ _ _ _ p1 o1 s1 (.tup h1 r)
    | lst h1 r => exact k _ _ _ _ p1 o1 s1 (.lst h1 r)
    | dct h1 q r => exact k _ _ _ _ p1 o1 s1 (.dct h1 q r)
    | fix h1 r => exact k _ _ _ _ p1 o1 s1 (.fix h1 r)⟩
/-! ### a def that leaves the objects as they were -/
/-- new lists and dicts aside, the same objects -/
def NewOf (μ μ' : Mh) : Prop := ∀ b, μ' b = μ b ∨ (μ b = none ∧ ((∃ ds, μ' b = some (.lst ds)) ∨ ∃ ds, μ' b = some (.dct ds)))
theorem NewOf.refl {μ : Mh} : NewOf μ μ := fun _ => .inl rfl
theorem NewOf.lst {μ μ1 : Mh} {p : Addr} {ds : List DV} (h : NewOf μ μ1) (n : μ p = none) : NewOf μ (updM μ1 p (.lst ds)) := fun b => by
  by_cases e : b = p
  · subst e
    exact .inr ⟨n, .inl ⟨ds, updM_same⟩⟩
  · rw [updM_ne e]
    exact h b
theorem NewOf.dct {μ μ1 : Mh} {p : Addr} {ds : List (Key × DV)} (h : NewOf μ μ1) (n : μ p = none) : NewOf μ (updM μ1 p (.dct ds)) := fun b => by
  by_cases e : b = p
  · subst e
    exact .inr ⟨n, .inr ⟨ds, updM_same⟩⟩
  · rw [updM_ne e]
    exact h b
theorem NewOf.del {μ μ1 : Mh} {p : Addr} (h : NewOf μ μ1) (n : μ p = none) : NewOf μ (delM μ1 p) := fun b => by
  by_cases e : b = p
  · subst e
    exact .inl (by rw [delM_same, n])
  · rw [delM_ne e]
    exact h b
theorem NewOf.none {μ μ1 : Mh} {b : Addr} (h : NewOf μ μ1) (n : μ1 b = none) : μ b = none := by
  rcases h b with e | ⟨e, _⟩
  · rw [← e]; exact n
  · exact e
theorem Ok.restrict {K : PySem.W.Frag} {R : Hp} {μ μ' : Mh} {H : Hp} (k : Ok K R μ' H) (n : NewOf μ μ') : Ok K R μ H ∧ Same (hid R μ' H) (hid R μ H) := by
  have hs : Same (hid R μ' H) (hid R μ H) := fun b u e => by
    obtain ⟨e1, e2, e3⟩ := hid_some e
    rw [hid_at e1 (n.none e2)]
    exact e3
  refine ⟨⟨k.fr, fun b o e => n.none (k.dj b o e), fun b u e => ?_⟩, hs⟩
  have e' : μ' b = some u := by
    rcases n b with z | ⟨z, _⟩
    · rw [z]; exact e
    · rw [z] at e; cases e
  refine (k.ob b u e').mono hs rfl (fun _ _ => rfl) e' (fun c q => ?_)
  rcases n c with z | ⟨_, ⟨ds, z⟩ | ⟨ds, z⟩⟩
  · rw [← z]; exact q
  · rw [z] at q; cases q
  · rw [z] at q; cases q
def wPure (w : WS) : WS := fun E ρ μ => w { nx := fun ρ' μ' => NewOf μ μ' ∧ E.nx ρ' μ, rt := fun d μ' => NewOf μ μ' ∧ E.rt d μ } ρ μ
theorem dss_pure {X : Cx} {body : List Stmt} {w : WS} (h : PSs X body (tDS X.K w)) : PSs X body (tDS X.K (wPure w)) :=
  PSs.imp h fun D σ H ⟨R, ρ, μ, E, a, w, k⟩ => ⟨R, ρ, μ, _, a, w, {
    nx := fun ρ' μ' σ' H' p a' s' => by
      obtain ⟨o2, s2⟩ := a'.ok.restrict p.1
      exact k.nx ρ' μ σ' H' p.2 ⟨o2, a'.sl.mono s2⟩ (s'.trans s2)
    rt := fun d μ' v H' p o' s' i => by
      obtain ⟨o2, s2⟩ := o'.restrict p.1
      exact k.rt d μ v H' p.2 o2 (s'.trans s2) (i.mono s2)
    bk := fun _ _ _ _ p => p.elim
    ct := fun _ _ _ _ p => p.elim }⟩
end Dz

set_option Elab.async false
set_option linter.all false
set_option maxRecDepth 100000
set_option maxHeartbeats 1000000
/-! DzX: what a written dict holds, entry by entry. -/
namespace Dz
open PySem L2

theorem ea_nil {K : PySem.W.Frag} {p : Addr} : ∀ e ∈ ([] : List (Str × DV)), ∃ u, PySem.W.nsIn K p e.1 = some (some u) ∧ CI K u e.2 := fun e h => by cases h
theorem ea_cons {K : PySem.W.Frag} {p : Addr} {k : Str} {d : DV} {f : List (Str × DV)} {u : Value} (h : PySem.W.nsIn K p k = some (some u)) (c : CI K u d) (r : ∀ e ∈ f, ∃ u, PySem.W.nsIn K p e.1 = some (some u) ∧ CI K u e.2) : ∀ e ∈ (k, d) :: f, ∃ u, PySem.W.nsIn K p e.1 = some (some u) ∧ CI K u e.2 := fun e he => by
  rcases List.mem_cons.mp he with rfl | he
  · exact ⟨u, h, c⟩
  · exact r e he
end Dz

set_option Elab.async false
set_option linter.all false
set_option maxRecDepth 100000
set_option maxHeartbeats 4000000
/-! DzY: list.count, list.extend by a tuple, unpacking a list, a name that holds an object that changes no more, a comprehension's list that will change. -/
namespace Dz
open PySem L2

section
variable {X : Cx}
/-! ### xs.count(y), any data -/
def rCountD (K : PySem.W.Frag) : V → List V → Hp → VK → Prop := fun x xs H Q => ∃ (a : Addr) (y : V) (d : PyData) (ds : List PyData), x = V.ref a ∧ xs = [y] ∧ Dp K H (V.ref a) (.list ds) ∧ Dp K H y d ∧
  SeqAt.shaped (.list ds) = true ∧ SeqAt.shaped d = true ∧ Q (.int (ds.countP fun z => PyData.eqv z d : Nat)) H
theorem mt_countD (hu : X.A.units + 65 < cLine) : MtR X "list.count" (rCountD X.K) := by
  intro pins s σ H x xs v us Q I rx rxs h
  obtain ⟨a, y, d, ds, rfl, rfl, hl, hy, sl, sd, q⟩ := h
  cases rx
  cases rxs with
  | cons ry rt =>
    rename_i uy ut
    cases rt
    obtain ⟨bs, r1⟩ := Dp.reads I d y uy hy ry
    have hxs : PyData.canLayAll0 ds = true := SeqAt.canLay_of_shaped sl
    have hroom : X.A.units + 1 + min (PyData.depthAll ds) d.depth < cLine := PyProof.Rows.room_in_shaped sd hu
    cases hl with
    | lst hs ha =>
      obtain ⟨its, rv, ⟨⟨cls, dd, data, sls⟩, n, ho, hc, hdn, hdt⟩, hlen⟩ := I.list hs
      simp only at hc hdt
      subst hc hdt
      obtain ⟨as, h4⟩ := Dp.readsAll I ds _ its ha rv
      have hmap : its.map (SeqAt.readOf s.heap) = ds := SeqAt.readsAll_map ds its as hxs h4
      refine call_meets PySem.F.slot_list_count ⟨_, ho, rfl⟩ PySem.F.entry_list_count (PySem.F.args_list_count_2 _ _)
        (SeqAt.list_countAt a its.toArray n dd sls uy (fun u => PyData.eqv (SeqAt.readOf s.heap u) d)) ⟨ho, SeqAt.items_eqAt (vs := its.toArray) (show ReadsAll s.heap its.toArray.toList ds as from h4) r1 hxs (SeqAt.canLay_of_shaped sd) hroom, ?_⟩
      have ec : its.toArray.toList.countP (fun u => PyData.eqv (SeqAt.readOf s.heap u) d) = ds.countP fun z => PyData.eqv z d := by
        rw [← hmap, List.countP_map]
        rfl
      refine ⟨.int (ds.countP fun z => PyData.eqv z d : Nat), H, I.tok _, ⟨s.toks, ?_⟩, q⟩
      show Value.int ((its.toArray.toList.countP (fun u => PyData.eqv (SeqAt.readOf s.heap u) d) : Nat) : Int) s.toks = Value.int ((ds.countP fun z => PyData.eqv z d : Nat) : Int) s.toks
      rw [ec]
def wCount (wo we : WE) : WE := fun ρ μ P => wo ρ μ fun x μ1 => match x with
  | .lst ds => we ρ μ1 fun y μ2 => shapedD (.lst ds) = true ∧ shapedD y = true ∧ P (.int (ds.countP fun z => deepEq z y : Nat)) μ2
  | _ => False
variable {oe e : Expr} {pos apos : Pos} {wo we : WE}
theorem d_count {k : Nat} (hr : Room k X.A) (ho : PE X oe (tD X.K wo)) (he : PE X e (tD X.K we)) (hs : starEach [e] X.env = [(false, eval e X.env)] := by rfl) (hbase : attributeBase oe "count" X.env (eval oe X.env) = eval oe X.env := by rfl)
    (hfew : ((backTo pos (starEach [e] X.env)).all (fun x => !x.1) && (backToKw pos (keywordEach [] X.env)).all (fun x => x.1.isSome) && decide (([e] : List Expr).length + ([] : List Keyword).length + (if ([] : List Keyword).isEmpty then 0 else 1) < 30)) = true := by rfl) (hline : (apos.endLine == pos.line) = true := by rfl) :
    PE X (.Call (.Attribute oe "count" apos) [e] [] pos) (tD X.K (wCount wo we)) :=
  PE.imp (pe_bm PySem.F.plainAttrs_list PySem.F.slot_list_count PySem.F.type_list_count (mt_countD (by have := hr.un; omega)) ho (pa_cons he pa_nil hs) hbase hfew hline hs) fun σ H Q ⟨R, ρ, μ, P, a, w, k⟩ => ⟨R, ρ, μ, _, a, w, fun x μ1 v H1 p1 o1 s1 i1 => by
    cases i1 with
    | @lst b xs ds hx rx =>
      refine ⟨.inl ⟨rfl, xs, SqL.of (hid_le _ _ hx)⟩, R, ρ, μ1, _, a.step o1 s1, p1, fun y μ2 u H2 p2 o2 s2 i2 => ?_⟩
      obtain ⟨sl1, sy, q⟩ := p2
      have hl2 : Is X.K H2 (.ref b) (.lst ds) := (Is.mono s2 (Is.lst hx rx)).mono hid_le
      have hy2 := i2.mono hid_le
      have d1 := hl2.dpS sl1
      have d2 := hy2.dpS sy
      refine ⟨b, u, toPy y, toPys ds, rfl, rfl, d1.1, d2.1, d1.2, d2.2, (k.step (s1.trans s2)).val o2 ?_ (.int _)⟩
      rw [toPys_map, List.countP_map]
      exact q
    | _ => exact (show False from p1).elim⟩
/-! ### xs.extend(a tuple) -/
theorem list_extend_tupA (l : Addr) (items : Array Value) (n : Nat) (b : Addr) (items2 : Array Value) (n2 : Nat) (dd : Option Addr) (sl : Array (Option Value)) (hs0 : ¬(!items.isEmpty && Builtin.List.listTooLong (items.size + items2.size)) = true) (hs1 : items.size ≤ sizeLine) (hs2 : items.size + items2.size ≤ sizeLine + 1) :
    Meets (Builtin.«list.extend» ⟨[.ref l, .ref b], []⟩) (fun _ R s => s.heap.get? l = some { cls := .type "list", dict := none, data := .seq items n, slots := #[] } ∧ s.heap.get? b = some { cls := .type "tuple", dict := dd, data := .seq items2 n2, slots := sl } ∧ R (.ok (.ret Value.none)) { s with heap := s.heap.update l (Obj.mapSeq fun x => x ++ items2), toks := s.toks }) :=
  .of_wp fun prog w A R s h => by
    obtain ⟨hp, g, d, tk, os⟩ := s; obtain ⟨hl, hb, h⟩ := h; have f1 := PySem.AutoSeq1.idx_int; have f2 := PySem.AutoSeq1.sub_tuple_tuple; have f3 := PySem.AutoSeq1.sub_list_list; have f4 := PySem.AutoSeq1.sub_tuple_list; have f5 := PySem.AutoSeq1.sub_list_tuple
    have hz' : (items ++ items2).size ≤ sizeLine + 1 := by rw [Array.size_append]; exact hs2
    wp_walk using (wpAny_updateSeq hl rfl (hz := hs1) (_hz' := hz')), PySem.AutoSeq1.wpAny_loadPart' hl, PySem.AutoSeq1.wpAny_loadPart' hb; exact ⟨_, rfl, h⟩
def rExtendT (K : PySem.W.Frag) : V → List V → Hp → VK → Prop := fun x vs H Q => ∃ l b xs zs, x = .ref l ∧ vs = [.ref b] ∧ H l = some (.lst xs) ∧ ((H b = some (.lst zs)) ∨ SqT K H b zs) ∧ xs.length + zs.length ≤ sizeLine ∧ Q .non (upd H l (.lst (xs ++ zs)))
theorem mt_extendT : MtM X "list.extend" (rExtendT X.K) := by
  intro pins s σ H x vs v us Q I rx rv h
  obtain ⟨l, b, xs, zs, rfl, rfl, hH, hB | hB, hz, q⟩ := h
  · exact mt_extend pins s σ H _ _ v us Q I rx rv ⟨l, b, xs, zs, rfl, rfl, hH, hB, hz, q⟩
  cases rx
  obtain ⟨u, rfl, ru⟩ := rv.one
  cases ru
  obtain ⟨z, its, n, r, hl, e⟩ := I.lstM hH
  obtain ⟨its2, r2, ⟨⟨cls, dd, data, sl⟩, e2, hc, n2, hd⟩, hz2⟩ := I.tuple hB
  simp only at hc hd
  subst hc hd
  have hl2 := r2.length
  have hsz : its.toArray.size + its2.toArray.size ≤ sizeLine := by rw [List.size_toArray, List.size_toArray]; omega
  have hlong : ¬ (!its.toArray.isEmpty && Builtin.List.listTooLong (its.toArray.size + its2.toArray.size)) = true := by
    rw [notLongL hsz, Bool.and_false]
    exact Bool.false_ne_true
  refine call_meets PySem.F.slot_list_extend ⟨_, e, rfl⟩ PySem.F.entry_list_extend (PySem.F.args_list_extend_2 _ _)
    (list_extend_tupA l its.toArray n b its2.toArray n2 dd sl hlong (by rw [List.size_toArray]; omega) (by omega)) ⟨e, e2, ?_⟩
  refine ⟨.non, _, I.lset (its' := its ++ its2) hH e (by simp) (r.append r2) ?_, rfl, q⟩
  rw [List.length_append]
  omega
def extTW (ds : List DV) (y : DV) (Q : List DV → Prop) : Prop := match y with
  | .lst es => ds.length + es.length ≤ sizeLine ∧ Q (ds ++ es)
  | .tup es => ds.length + es.length ≤ sizeLine ∧ Q (ds ++ es)
  | _ => False
def wExtT (wo we : WE) : WE := fun ρ μ P => wo ρ μ fun x μ1 => isLstM x μ1 ∧ we ρ μ1 fun y μ2 => match x with
  | .obj a => match μ2 a with
    | some (.lst ds) => extTW ds y fun zs => P .none (updM μ2 a (.lst zs))
    | _ => False
  | _ => False
theorem d_extendT (ho : PE X oe (tD X.K wo)) (he : PE X e (tD X.K we)) (hs : starEach [e] X.env = [(false, eval e X.env)] := by rfl) (hbase : attributeBase oe "extend" X.env (eval oe X.env) = eval oe X.env := by rfl)
    (hfew : ((backTo pos (starEach [e] X.env)).all (fun x => !x.1) && (backToKw pos (keywordEach [] X.env)).all (fun x => x.1.isSome) && decide (([e] : List Expr).length + ([] : List Keyword).length + (if ([] : List Keyword).isEmpty then 0 else 1) < 30)) = true := by rfl) (hline : (apos.endLine == pos.line) = true := by rfl) : PE X (.Call (.Attribute oe "extend" apos) [e] [] pos) (tD X.K (wExtT wo we)) :=
  PE.imp (pe_bm PySem.F.plainAttrs_list PySem.F.slot_list_extend PySem.F.type_list_extend mt_extendT ho (pa_cons he pa_nil hs) hbase hfew hline hs) fun σ H Q ⟨R, ρ, μ, P, a, w, k⟩ => ⟨R, ρ, μ, _, a, w, fun x μ1 v H1 p1 o1 s1 i1 => by
    obtain ⟨b, rfl, rfl, ht⟩ := isLstM_of o1 i1 p1.1
    refine ⟨ht, R, ρ, μ1, _, a.step o1 s1, p1.2, fun y μ2 u H2 p2 o2 s2 i2 => ?_⟩
    have p2' : (match μ2 b with | some (.lst ds) => extTW ds y fun zs => P .none (updM μ2 b (.lst zs)) | _ => False) := p2
    split at p2'
    · rename_i ds e
      obtain ⟨xs, h3, h4⟩ := o2.ob b _ e
      cases i2 with
      | lst h5 h6 =>
        obtain ⟨o4, e4⟩ := o2.setM (o := .lst (xs ++ _)) (m := .lst (ds ++ _)) e (by intro z; cases z) ⟨_, upd_same, h4.append h6⟩
        refine ⟨b, _, xs, _, rfl, rfl, h3, .inl (hid_le _ _ h5), by rw [h4.length, h6.length]; exact p2'.1, k _ _ _ _ p2'.2 o4 ?_ .none⟩
        rw [e4]
        exact s1.trans s2
      | tup h5 h6 =>
        obtain ⟨o4, e4⟩ := o2.setM (o := .lst (xs ++ _)) (m := .lst (ds ++ _)) e (by intro z; cases z) ⟨_, upd_same, h4.append h6⟩
        refine ⟨b, _, xs, _, rfl, rfl, h3, .inr (Same.seqT hid_le h5.t), by rw [h4.length, h6.length]; exact p2'.1, k _ _ _ _ p2'.2 o4 ?_ .none⟩
        rw [e4]
        exact s1.trans s2
      | _ => exact (show False from p2').elim
    · exact p2'.elim⟩
/-! ### a, b = a list -/
def wgLst (n : Nat) (gs : WGs) : WG := fun d ρ P => match d with | .lst ds => ds.length = n ∧ gs ds ρ P | _ => False
theorem dg_lst {es : List Expr} {gs : WGs} {s1 : List Nat} {k n : Nat} (hc : X.calm = true) (h : PGs X es (tDGs X.K s1 gs)) (hn : (assignEach es X.env).length = n := by rfl) (hst : (assignEach es X.env).findIdx? (·.1) = none := by rfl) : PG X (.Tuple es k pos) (tDG X.K s1 (wgLst n gs)) :=
  PG.imp (pg_unl hc h hn hst) fun v σ H Q ⟨R, ρ, μ, d, P, a, r, w, k⟩ => by
    cases r with
    | lst hx rx => exact ⟨_, _, rfl, SqL.of (hid_le _ _ hx), by rw [rx.length]; exact w.1, R, ρ, μ, _, P, a, rx, w.2, k⟩
    | _ => exact (show False from w).elim
end
/-! ### a name whose object changes no more -/
theorem Sl.reset {K : PySem.W.Frag} {H : Hp} {σ : St} {ρ : Rho} {i : Nat} {v : V} {d : DV} (h : Sl K H σ ρ) (hv : σ[i]? = some (some v)) (r : Is K H v d) : Sl K H σ (ρ.set i (some d)) := by
  refine ⟨by rw [List.length_set]; exact h.len, fun j e he => ?_⟩
  by_cases z : i = j
  · subst z
    by_cases hl : i < ρ.length
    · rw [List.getElem?_set_self hl] at he
      cases he
      exact ⟨v, hv, r⟩
    · rw [List.getElem?_eq_none (by rw [List.length_set]; omega)] at he
      cases he
  · rw [List.getElem?_set_ne z] at he
    exact h.at_ j e he
/-- the rest of a block, slot i's list plain data from here on -/
def wFrzV (i : Nat) (w : WS) : WS := fun E ρ μ => match ρ[i]? with
  | some (some (.obj a)) => match μ a with
    | some (.lst ds) => w E (ρ.set i (some (.lst ds))) (delM μ a)
    | _ => False
  | _ => False
theorem dss_frzv {X : Cx} {body : List Stmt} {w : WS} (i : Nat) (h : PSs X body (tDS X.K w)) : PSs X body (tDS X.K (wFrzV i w)) :=
  PSs.imp h fun D σ H ⟨R, ρ, μ, E, a, w0, k⟩ => by
    have w1 : (match ρ[i]? with | some (some (.obj a)) => (match μ a with | some (.lst ds) => w E (ρ.set i (some (.lst ds))) (delM μ a) | _ => False) | _ => False) := w0
    split at w1
    · rename_i b eb
      split at w1
      · rename_i ds e
        obtain ⟨xs, h1, r⟩ := a.ok.ob b _ e
        obtain ⟨o2, s2, e2⟩ := a.ok.free e (by intro z; cases z)
        obtain ⟨v, hv, iv⟩ := a.sl.at_ i _ eb
        cases iv
        exact ⟨R, _, _, E, ⟨o2, (a.sl.mono s2).reset hv (.lst (e2.trans h1) (r.mono s2))⟩, w1, k.step s2⟩
      · exact w1.elim
    · exact w1.elim
/-! ### a comprehension's list that will change -/
theorem Ok.unframeM {K : PySem.W.Frag} {R : Hp} {μ : Mh} {H : Hp} {D : Addr} {accV : List V} {acc : List DV} (k : Ok K (upd R D (.lst accV)) μ H) (n : R D = none) (r : Iss K (hid (upd R D (.lst accV)) μ H) accV acc) :
    Ok K R (updM μ D (.lst acc)) H ∧ hid R (updM μ D (.lst acc)) H = hid (upd R D (.lst accV)) μ H ∧ μ D = none := by
  have hm : μ D = none := k.dj D _ upd_same
  have hH : H D = some (.lst accV) := k.fr D _ upd_same
  have e : hid R (updM μ D (.lst acc)) H = hid (upd R D (.lst accV)) μ H := by
    funext b
    by_cases z : b = D
    · subst z
      have h1 : hid (upd R b (.lst accV)) μ H b = none := by
        unfold hid
        rw [if_neg fun q => by rw [upd_same] at q; exact Bool.false_ne_true q.1]
      have h2 : hid R (updM μ b (.lst acc)) H b = none := by
        unfold hid
        rw [if_neg fun q => by rw [updM_same] at q; exact Bool.false_ne_true q.2]
      rw [h1, h2]
    · unfold hid
      rw [upd_ne z, updM_ne z]
  refine ⟨⟨fun a u h => ?_, fun a u h => ?_, fun a u h => ?_⟩, e, hm⟩
  · exact k.fr a u (by rw [upd_ne fun z => by subst z; rw [n] at h; cases h]; exact h)
  · have z : a ≠ D := fun z => by subst z; rw [n] at h; cases h
    rw [updM_ne z]
    exact k.dj a u (by rw [upd_ne z]; exact h)
  · rw [e]
    by_cases z : a = D
    · subst z
      rw [updM_same] at h
      cases h
      exact ⟨accV, hH, r⟩
    · rw [updM_ne z] at h
      exact (k.ob a u h).mono (Same.refl _) rfl (fun _ _ => rfl) h fun c q => by
        rw [updM_ne fun w => by subst w; rw [hm] at q; cases q]
        exact q
def wLcM (ws : WI) (g : WG) (t : WT) (e : WE) (vs : List Nat) : WE := fun ρ μ P => ws ρ μ fun xs μ1 => compW g t e (wipeD ρ vs) xs [] μ1 fun acc μ2 => ∀ p, μ2 p = none → P (.obj p) (updM μ2 p (.lst acc))
section
variable {X : Cx} {elt tg iter : Expr} {ifs : List Expr} {scope : Scope} {own : List (Str × Nat)} {pos : Pos} {ws : WI} {g : WG} {t : WT} {e : WE} {sl : List Nat}
theorem lcM_imp {K : PySem.W.Frag} {vs : List Nat} (hv : ∀ i ∈ sl, i ∈ vs) : ∀ σ H Q, tD K (wLcM ws g t e vs) σ H Q → tLc (tDI K ws) (tDG K sl g) (tDT K t) (tD K e) vs σ H Q := fun σ H Q ⟨R, ρ, μ, P, a, w, k⟩ =>
  ⟨R, ρ, μ, _, a, w, fun xs μ1 H1 J p1 o1 s1 it => fun D n => by
    have rn := o1.freeR n
    refine ⟨fun i m H' => m = xs.length - i ∧ i ≤ xs.length ∧ ∃ μ' acc accV, Ok K (upd R D (.lst accV)) μ' H' ∧ Same (hid R μ1 H1) (hid (upd R D (.lst accV)) μ' H') ∧ Iss K (hid (upd R D (.lst accV)) μ' H') accV acc ∧
      compW g t e (wipeD ρ vs) (xs.drop i) acc μ' fun acc μ2 => ∀ p, μ2 p = none → P (.obj p) (updM μ2 p (.lst acc)), ?_, ?_⟩
    · obtain ⟨o2, e2⟩ := o1.frame (o := .lst []) n
      exact ⟨_, rfl, Nat.zero_le _, μ1, [], [], o2, by rw [e2]; exact Same.refl _, .nil, p1⟩
    rintro i m H2 ⟨rfl, hi, μ2, acc, accV, o2, s2, r2, w2⟩
    by_cases hlt : i < xs.length
    · refine .inr ⟨it.go _ μ2 H2 i o2 s2 hlt, fun H' => ∃ μ' acc accV, Ok K (upd R D (.lst accV)) μ' H' ∧ Same (hid R μ1 H1) (hid (upd R D (.lst accV)) μ' H') ∧ Iss K (hid (upd R D (.lst accV)) μ' H') accV acc ∧
        compW g t e (wipeD ρ vs) (xs.drop (i + 1)) acc μ' fun acc μ2 => ∀ p, μ2 p = none → P (.obj p) (updM μ2 p (.lst acc)), fun H' ⟨μ', acc', accV', o', s', r', w'⟩ => ⟨_, ?_, rfl, hlt, μ', acc', accV', o', s', r', w'⟩, fun x H3 y => ?_⟩
      · omega
      · obtain ⟨d, hd, o3, s3, r3⟩ := it.yld _ μ2 H2 i x H3 o2 s2 y hlt
        rw [drop_at hd] at w2
        have sl3 : Sl K (hid (upd R D (.lst accV)) μ2 H3) (wipe σ vs) (wipeD ρ vs) := (a.sl.mono ((s1.trans s2).trans s3)).wipe vs
        refine ⟨_, wipeD ρ vs, μ2, d, _, ⟨o3, sl3⟩, r3, w2, fun ρ4 σ4 w4 sl4 ww => ⟨by rw [ww vs hv, wipe_wipe], _, ρ4, μ2, _, ⟨o3, sl4⟩, w4, fun b μ5 H5 p5 o5 s5 => ?_⟩⟩
        cases b with
        | false => exact iteF ⟨μ5, acc, accV, o5, (s2.trans s3).trans s5, r2.mono (s3.trans s5), p5⟩
        | true =>
          refine iteT ⟨_, ρ4, μ5, _, ⟨o5, sl4.mono s5⟩, p5, fun y μ6 v H6 p6 o6 s6 r6 => ⟨accV, o6.fr D _ upd_same, ?_, ?_⟩⟩
          · rw [r2.length]
            exact p6.1
          · obtain ⟨o7, e7⟩ := o6.reframe (o' := .lst (accV ++ [v]))
            refine ⟨μ6, acc ++ [y], accV ++ [v], o7, ?_, ?_, p6.2⟩
            · rw [e7]
              exact ((s2.trans s3).trans s5).trans s6
            · rw [e7]
              exact (r2.mono ((s3.trans s5).trans s6)).append (.cons r6 .nil)
    · have e' : i = xs.length := by omega
      subst e'
      rw [List.drop_length] at w2
      obtain ⟨o4, e4, hm⟩ := o2.unframeM rn r2
      exact .inl ⟨it.stop _ μ2 H2 _ o2 s2 (Nat.le_refl _), k _ _ _ H2 (w2 D hm) o4 (by rw [e4]; exact s1.trans s2) (.obj D)⟩⟩
theorem d_lcM (hi : PI X tg iter (tDI X.K ws)) (ok : BlkOk X.N X.env.scope scope own)
    (hg : ∀ (s : Shared) (H : Hp) (C : Addr) (cl : List (Str × Addr)) (fp : List Addr), PG (X.blk s H scope (compEnvC scope cl C X.env) fp) tg (tDG X.K sl g)) (ht : ∀ (s : Shared) (H : Hp) (C : Addr) (cl : List (Str × Addr)) (fp : List Addr), PTs (X.blk s H scope (compEnvC scope cl C X.env) fp) ifs (tDT X.K t))
    (he : ∀ (s : Shared) (H : Hp) (C : Addr) (cl : List (Str × Addr)) (fp : List Addr), PE (X.blk s H scope (compEnvC scope cl C X.env) fp) elt (tD X.K e)) (hN : X.N.Nodup) (hv : ∀ i ∈ sl, i ∈ own.map (·.2) := by decide) (hc : X.calm = true := by rfl) (hs : ∀ x, foldedSetIterable iter X.env x = pure x := by intro _; rfl) :
    PE X (.ListComp elt [⟨tg, iter, ifs, 0⟩] scope pos) (tD X.K (wLcM ws g t e (own.map (·.2)))) := PE.imp (pe_lc hc hN hi ok hg ht he hs) (lcM_imp hv)
theorem ds_setLcM {i : Nat} {y : Str} {py spos : Pos} (hy : X.N[i]? = some y) (hyl : X.env.scope.names.lookup y = some .local) (hsw : swapsWith (.ListComp elt [⟨tg, iter, ifs, 0⟩] scope pos) (some (.Name y py)) spos.line X.env = pure true) (hi : PI X tg iter (tDI X.K ws)) (ok : BlkOk X.N X.env.scope scope own)
    (hg : ∀ (s : Shared) (H : Hp) (C : Addr) (cl : List (Str × Addr)) (fp : List Addr), PG (X.blk s H scope (compEnvC scope cl C X.env) fp) tg (tDG X.K sl g)) (ht : ∀ (s : Shared) (H : Hp) (C : Addr) (cl : List (Str × Addr)) (fp : List Addr), PTs (X.blk s H scope (compEnvC scope cl C X.env) fp) ifs (tDT X.K t))
    (he : ∀ (s : Shared) (H : Hp) (C : Addr) (cl : List (Str × Addr)) (fp : List Addr), PE (X.blk s H scope (compEnvC scope cl C X.env) fp) elt (tD X.K e)) (hN : X.N.Nodup) (hv : ∀ i ∈ sl, i ∈ own.map (·.2) := by decide) (hc : X.calm = true := by rfl) (hs : ∀ x, foldedSetIterable iter X.env x = pure x := by intro _; rfl) :
    PS X (.Assign [.Name y py] (.ListComp elt [⟨tg, iter, ifs, 0⟩] scope pos) spos) (tDS X.K (wAsg (wLcM ws g t e (own.map (·.2))) (wgName i))) :=
  PS.imp (ps_setLc hc hN hy hyl hsw hi ok hg ht he hs) fun D σ H ⟨R, ρ, μ, E, a, w, k⟩ => lcM_imp hv σ H _ ⟨R, ρ, μ, _, a, w, fun d μ1 v H1 p1 o1 s1 i1 => k.nx _ μ1 _ H1 p1 ⟨o1, (a.sl.mono s1).set i i1⟩ s1⟩
end
end Dz

set_option Elab.async false
set_option linter.all false
set_option maxRecDepth 100000
set_option maxHeartbeats 4000000
/-! DzZ: comprehensions of two clauses; defs with a star parameter. -/
namespace Dz
open PySem PySem.Spec L2 PyProof.Rows StX

def compW2 (g : WG) (t : WT) (ws1 : WI) (g1 : WG) (t1 : WT) (e : WE) (vs1 : List Nat) (ρ : Rho) : List DV → List DV → Mh → (List DV → Mh → Prop) → Prop
  | [], acc, μ, P => P acc μ
  | x :: xs, acc, μ, P => g x ρ fun ρ1 => t ρ1 μ fun b μ1 => match b with
    | true => ws1 ρ1 μ1 fun ys μ2 => compW g1 t1 e (wipeD ρ1 vs1) ys acc μ2 fun acc' μ3 => compW2 g t ws1 g1 t1 e vs1 ρ xs acc' μ3 P
    | false => compW2 g t ws1 g1 t1 e vs1 ρ xs acc μ1 P
def wLc2 (ws : WI) (g : WG) (t : WT) (ws1 : WI) (g1 : WG) (t1 : WT) (e : WE) (vs vs1 : List Nat) : WE := fun ρ μ P => ws ρ μ fun xs μ1 => compW2 g t ws1 g1 t1 e vs1 (wipeD ρ vs) xs [] μ1 fun acc μ2 => P (.lst acc) μ2
section
variable {X : Cx} {elt tg iter tg1 iter1 : Expr} {ifs ifs1 : List Expr} {scope : Scope} {own : List (Str × Nat)} {vs1 : List Nat} {pos : Pos} {ws ws1 : WI} {g g1 : WG} {t t1 : WT} {e : WE} {sl sl1 : List Nat}
theorem lc2_imp {K : PySem.W.Frag} {vs : List Nat} (hv : ∀ i ∈ sl, i ∈ vs) (hv1 : ∀ i ∈ sl1, i ∈ vs1) : ∀ σ H Q, tD K (wLc2 ws g t ws1 g1 t1 e vs vs1) σ H Q → tLc2 (tDI K ws) (tDG K sl g) (tDT K t) (tDI K ws1) (tDG K sl1 g1) (tDT K t1) (tD K e) vs vs1 σ H Q := fun σ H Q ⟨R, ρ, μ, P, a, w, k⟩ =>
  ⟨R, ρ, μ, _, a, w, fun xs μ1 H1 J p1 o1 s1 it => fun D n => by
    have rn := o1.freeR n
    refine ⟨fun i m H' => m = xs.length - i ∧ i ≤ xs.length ∧ ∃ μ' acc accV, Ok K (upd R D (.lst accV)) μ' H' ∧ Same (hid R μ1 H1) (hid (upd R D (.lst accV)) μ' H') ∧ Iss K (hid (upd R D (.lst accV)) μ' H') accV acc ∧
      compW2 g t ws1 g1 t1 e vs1 (wipeD ρ vs) (xs.drop i) acc μ' fun acc μ2 => P (.lst acc) μ2, ?_, ?_⟩
    · obtain ⟨o2, e2⟩ := o1.frame (o := .lst []) n
      exact ⟨_, rfl, Nat.zero_le _, μ1, [], [], o2, by rw [e2]; exact Same.refl _, .nil, p1⟩
    rintro i m H2 ⟨rfl, hi, μ2, acc, accV, o2, s2, r2, w2⟩
    by_cases hlt : i < xs.length
    · refine .inr ⟨it.go _ μ2 H2 i o2 s2 hlt, fun H' => ∃ μ' acc accV, Ok K (upd R D (.lst accV)) μ' H' ∧ Same (hid R μ1 H1) (hid (upd R D (.lst accV)) μ' H') ∧ Iss K (hid (upd R D (.lst accV)) μ' H') accV acc ∧
        compW2 g t ws1 g1 t1 e vs1 (wipeD ρ vs) (xs.drop (i + 1)) acc μ' fun acc μ2 => P (.lst acc) μ2, fun H' ⟨μ', acc', accV', o', s', r', w'⟩ => ⟨_, ?_, rfl, hlt, μ', acc', accV', o', s', r', w'⟩, fun x H3 y => ?_⟩
      · omega
      · obtain ⟨d, hd, o3, s3, r3⟩ := it.yld _ μ2 H2 i x H3 o2 s2 y hlt
        rw [drop_at hd] at w2
        have sl3 : Sl K (hid (upd R D (.lst accV)) μ2 H3) (wipe σ vs) (wipeD ρ vs) := (a.sl.mono ((s1.trans s2).trans s3)).wipe vs
        refine ⟨_, wipeD ρ vs, μ2, d, _, ⟨o3, sl3⟩, r3, w2, fun ρ4 σ4 w4 sl4 ww => ⟨by rw [ww vs hv, wipe_wipe], _, ρ4, μ2, _, ⟨o3, sl4⟩, w4, fun b μ5 H5 p5 o5 s5 => ?_⟩⟩
        cases b with
        | false => exact iteF ⟨μ5, acc, accV, o5, (s2.trans s3).trans s5, r2.mono (s3.trans s5), p5⟩
        | true =>
          refine iteT ⟨_, ρ4, μ5, _, ⟨o5, sl4.mono s5⟩, p5, fun ys μ6 H6 J1 p6 o6 s6 it1 => ?_⟩
          have r6 := r2.mono ((s3.trans s5).trans s6)
          have s16 := ((s2.trans s3).trans s5).trans s6
          refine ⟨fun j m H' => m = ys.length - j ∧ j ≤ ys.length ∧ ∃ μ' acc accV', Ok K (upd R D (.lst accV')) μ' H' ∧ Same (hid (upd R D (.lst accV)) μ6 H6) (hid (upd R D (.lst accV')) μ' H') ∧ Iss K (hid (upd R D (.lst accV')) μ' H') accV' acc ∧
            compW g1 t1 e (wipeD ρ4 vs1) (ys.drop j) acc μ' fun acc' μ3 => compW2 g t ws1 g1 t1 e vs1 (wipeD ρ vs) (xs.drop (i + 1)) acc' μ3 fun acc μ2 => P (.lst acc) μ2, ⟨_, rfl, Nat.zero_le _, μ6, acc, accV, o6, Same.refl _, r6, p6⟩, ?_⟩
          rintro j m2 H7 ⟨rfl, hj, μ7, acc7, accV7, o7, s7, r7, w7⟩
          by_cases hlt2 : j < ys.length
          · refine .inr ⟨it1.go _ μ7 H7 j o7 s7 hlt2, fun H' => ∃ μ' acc accV', Ok K (upd R D (.lst accV')) μ' H' ∧ Same (hid (upd R D (.lst accV)) μ6 H6) (hid (upd R D (.lst accV')) μ' H') ∧ Iss K (hid (upd R D (.lst accV')) μ' H') accV' acc ∧
              compW g1 t1 e (wipeD ρ4 vs1) (ys.drop (j + 1)) acc μ' fun acc' μ3 => compW2 g t ws1 g1 t1 e vs1 (wipeD ρ vs) (xs.drop (i + 1)) acc' μ3 fun acc μ2 => P (.lst acc) μ2, fun H' ⟨μ', acc', accV', o', s', r', w'⟩ => ⟨_, ?_, rfl, hlt2, μ', acc', accV', o', s', r', w'⟩, fun x8 H8 y8 => ?_⟩
            · omega
            · obtain ⟨d8, hd8, o8, s8, r8⟩ := it1.yld _ μ7 H7 j x8 H8 o7 s7 y8 hlt2
              rw [drop_at hd8] at w7
              have sl8 : Sl K (hid (upd R D (.lst accV7)) μ7 H8) (wipe σ4 vs1) (wipeD ρ4 vs1) := (sl4.mono (((s5.trans s6).trans s7).trans s8)).wipe vs1
              refine ⟨_, wipeD ρ4 vs1, μ7, d8, _, ⟨o8, sl8⟩, r8, w7, fun ρ9 σ9 w9 sl9 ww9 => ⟨by rw [ww9 vs1 hv1, wipe_wipe], _, ρ9, μ7, _, ⟨o8, sl9⟩, w9, fun b μ10 H10 p10 o10 s10 => ?_⟩⟩
              cases b with
              | false => exact iteF ⟨μ10, acc7, accV7, o10, (s7.trans s8).trans s10, r7.mono (s8.trans s10), p10⟩
              | true =>
                refine iteT ⟨_, ρ9, μ10, _, ⟨o10, sl9.mono s10⟩, p10, fun y μ11 v H11 p11 o11 s11 r11 => ⟨accV7, o11.fr D _ upd_same, ?_, ?_⟩⟩
                · rw [r7.length]
                  exact p11.1
                · obtain ⟨o12, e12⟩ := o11.reframe (o' := .lst (accV7 ++ [v]))
                  refine ⟨μ11, acc7 ++ [y], accV7 ++ [v], o12, ?_, ?_, p11.2⟩
                  · rw [e12]
                    exact ((s7.trans s8).trans s10).trans s11
                  · rw [e12]
                    exact (r7.mono ((s8.trans s10).trans s11)).append (.cons r11 .nil)
          · have e' : j = ys.length := by omega
            subst e'
            rw [List.drop_length] at w7
            exact .inl ⟨it1.stop _ μ7 H7 _ o7 s7 (Nat.le_refl _), μ7, acc7, accV7, o7, s16.trans s7, r7, w7⟩
    · have e' : i = xs.length := by omega
      subst e'
      rw [List.drop_length] at w2
      obtain ⟨o4, s4, h4⟩ := o2.unframe rn
      exact .inl ⟨it.stop _ μ2 H2 _ o2 s2 (Nat.le_refl _), k _ μ2 _ H2 w2 o4 (s1.trans (s2.trans s4)) (.lst h4 (r2.mono s4))⟩⟩
theorem d_lc2 (hi : PI X tg iter (tDI X.K ws)) (ok : BlkOk X.N X.env.scope scope own)
    (hg : ∀ (s : Shared) (H : Hp) (C : Addr) (cl : List (Str × Addr)) (fp : List Addr), PG (X.blk s H scope (compEnvC scope cl C X.env) fp) tg (tDG X.K sl g)) (ht : ∀ (s : Shared) (H : Hp) (C : Addr) (cl : List (Str × Addr)) (fp : List Addr), PTs (X.blk s H scope (compEnvC scope cl C X.env) fp) ifs (tDT X.K t))
    (hi1 : ∀ (s : Shared) (H : Hp) (C : Addr) (cl : List (Str × Addr)) (fp : List Addr), PI (X.blk s H scope (compEnvC scope cl C X.env) fp) tg1 iter1 (tDI X.K ws1))
    (hg1 : ∀ (s : Shared) (H : Hp) (C : Addr) (cl : List (Str × Addr)) (fp : List Addr), PG (X.blk s H scope (compEnvC scope cl C X.env) fp) tg1 (tDG X.K sl1 g1)) (ht1 : ∀ (s : Shared) (H : Hp) (C : Addr) (cl : List (Str × Addr)) (fp : List Addr), PTs (X.blk s H scope (compEnvC scope cl C X.env) fp) ifs1 (tDT X.K t1))
    (he : ∀ (s : Shared) (H : Hp) (C : Addr) (cl : List (Str × Addr)) (fp : List Addr), PE (X.blk s H scope (compEnvC scope cl C X.env) fp) elt (tD X.K e)) (hN : X.N.Nodup) (hv : ∀ i ∈ sl, i ∈ own.map (·.2) := by decide) (hv1 : ∀ i ∈ sl1, i ∈ vs1 := by decide) (hvo : ∀ i ∈ vs1, i ∈ own.map (·.2) := by decide) (hc : X.calm = true := by rfl) (hs : ∀ x, foldedSetIterable iter X.env x = pure x := by intro _; rfl) (hs1 : ∀ env x, foldedSetIterable iter1 env x = pure x := by intro _ _; rfl) :
    PE X (.ListComp elt [⟨tg, iter, ifs, 0⟩, ⟨tg1, iter1, ifs1, 0⟩] scope pos) (tD X.K (wLc2 ws g t ws1 g1 t1 e (own.map (·.2)) vs1)) := PE.imp (pe_lc2 hc hN hi ok hvo hg ht hi1 hg1 ht1 he hs hs1) (lc2_imp hv hv1)
theorem ds_setLc2 {i : Nat} {y : Str} {py spos : Pos} (hy : X.N[i]? = some y) (hyl : X.env.scope.names.lookup y = some .local) (hsw : swapsWith (.ListComp elt [⟨tg, iter, ifs, 0⟩, ⟨tg1, iter1, ifs1, 0⟩] scope pos) (some (.Name y py)) spos.line X.env = pure true) (hi : PI X tg iter (tDI X.K ws)) (ok : BlkOk X.N X.env.scope scope own)
    (hg : ∀ (s : Shared) (H : Hp) (C : Addr) (cl : List (Str × Addr)) (fp : List Addr), PG (X.blk s H scope (compEnvC scope cl C X.env) fp) tg (tDG X.K sl g)) (ht : ∀ (s : Shared) (H : Hp) (C : Addr) (cl : List (Str × Addr)) (fp : List Addr), PTs (X.blk s H scope (compEnvC scope cl C X.env) fp) ifs (tDT X.K t))
    (hi1 : ∀ (s : Shared) (H : Hp) (C : Addr) (cl : List (Str × Addr)) (fp : List Addr), PI (X.blk s H scope (compEnvC scope cl C X.env) fp) tg1 iter1 (tDI X.K ws1))
    (hg1 : ∀ (s : Shared) (H : Hp) (C : Addr) (cl : List (Str × Addr)) (fp : List Addr), PG (X.blk s H scope (compEnvC scope cl C X.env) fp) tg1 (tDG X.K sl1 g1)) (ht1 : ∀ (s : Shared) (H : Hp) (C : Addr) (cl : List (Str × Addr)) (fp : List Addr), PTs (X.blk s H scope (compEnvC scope cl C X.env) fp) ifs1 (tDT X.K t1))
    (he : ∀ (s : Shared) (H : Hp) (C : Addr) (cl : List (Str × Addr)) (fp : List Addr), PE (X.blk s H scope (compEnvC scope cl C X.env) fp) elt (tD X.K e)) (hN : X.N.Nodup) (hv : ∀ i ∈ sl, i ∈ own.map (·.2) := by decide) (hv1 : ∀ i ∈ sl1, i ∈ vs1 := by decide) (hvo : ∀ i ∈ vs1, i ∈ own.map (·.2) := by decide) (hc : X.calm = true := by rfl) (hs : ∀ x, foldedSetIterable iter X.env x = pure x := by intro _; rfl) (hs1 : ∀ env x, foldedSetIterable iter1 env x = pure x := by intro _ _; rfl) :
    PS X (.Assign [.Name y py] (.ListComp elt [⟨tg, iter, ifs, 0⟩, ⟨tg1, iter1, ifs1, 0⟩] scope pos) spos) (tDS X.K (wAsg (wLc2 ws g t ws1 g1 t1 e (own.map (·.2)) vs1) (wgName i))) :=
  PS.imp (ps_setLc2 hc hN hy hyl hsw hi ok hvo hg ht hi1 hg1 ht1 he hs hs1) fun D σ H ⟨R, ρ, μ, E, a, w, k⟩ => lc2_imp hv hv1 σ H _ ⟨R, ρ, μ, _, a, w, fun d μ1 v H1 p1 o1 s1 i1 => k.nx _ μ1 _ H1 p1 ⟨o1, (a.sl.mono s1).set i i1⟩ s1⟩
end
/-! ### def f(a, .., *v) -/
/-- as FnR, where no repr runs around; the promise over data, any number of arguments -/
def FnSG (P : Program) (w : World) (K : PySem.W.Frag) (mg : Str → Option Value) (base : Heap) (k : Nat) (f : Addr) (wf : WF) : Prop :=
  ∀ (A : Around) (outer : List Env) (s : Shared) (H : Hp) (us : List Value) (vs : List V) (Q : VK) (E : XK), A.guards = some [] → Room k A → Env0 P w K mg base A outer s H → Vals vs us →
    (∃ R ds μ P', Ok K R μ H ∧ Iss K (hid R μ H) vs ds ∧ wf ds μ P' ∧ Nxt K R μ H P' Q) → codeAny (model P w) A (.call (.ref f) ⟨us, []⟩) (CR CX0 outer P w H s Q E) s
theorem FnSG.mono {P : Program} {w : World} {K : PySem.W.Frag} {mg : Str → Option Value} {base : Heap} {j k : Nat} {f : Addr} {wf : WF} (F : FnSG P w K mg base j f wf) (h : j ≤ k) : FnSG P w K mg base k f wf :=
  fun A outer s H us vs Q E g r => F A outer s H us vs Q E g (r.mono h)
section
variable {P : Program} {w : World} {K : PySem.W.Frag} {mg : Str → Option Value} {base : Heap} {k : Nat} {f : Addr} {x qual : Str} {st : Stmt} {fd : FuncData} {N ps : List Str} {pv : Str} {wS : WS} {wf : WF}
theorem fnsg_of (F : Fun K x qual st f fd) (S : FnScope N (ps ++ [pv]) (defScope st))
    (hb : ∀ (kV doc pm : Value) (an : Option Addr) (cdv ct : Value) (us rest : List Value), us.length = ps.length → bindArgs (PySem.W.fnOf x qual (defArgs st) (defBody st) (defScope st) .none kV doc pm an cdv ct) ⟨us ++ rest, []⟩ = (newTuple rest >>= fun t => pure (ps.zip us ++ [(pv, t)])))
    (hbody : ∀ (cdv : Value) (A : Around) (outer : List Env) (s : Shared) (H : Hp) (E : XK), A.guards = some [] → Room k (A.deeper (envOfC qual (defScope st) s.heap.objs.size f cdv)) →
      PSs (cxOf CX0 P w K mg base N qual (defScope st) f cdv A outer s H E).nox (defBody st) (tDS K wS))
    (hw : ∀ ds rs μ Q, ds.length = ps.length → wf (ds ++ rs) μ Q → wS { nx := fun _ μ' => Q .none μ', rt := Q } ((ds ++ [DV.tup rs]).map some ++ List.replicate (N.length - (ps.length + 1)) none) μ)
    (hmin : ∀ ds μ Q, wf ds μ Q → ps.length ≤ ds.length ∧ ds.length ≤ 1000) : FnSG P w K mg base (k + 1) f wf := by
  obtain ⟨oc, od, kV, doc, pm, an, cdv, ct, osl, rfl, lk, hcd⟩ := F.ex
  intro A outer s H us vs Q E hgd hr e0 r ⟨R, ds, μ, P', o, i, w1, k1⟩
  obtain ⟨hm1, hm2⟩ := hmin ds μ P' w1
  have hlen := i.length
  -- split
  have ew : vs = vs.take ps.length ++ vs.drop ps.length := (List.take_append_drop _ _).symm
  have ed : ds = ds.take ps.length ++ ds.drop ps.length := (List.take_append_drop _ _).symm
  have iw := i.take ps.length
  have ir := i.drop ps.length
  generalize vs.take ps.length = wv at ew iw
  generalize vs.drop ps.length = rest at ew ir
  generalize hds1 : ds.take ps.length = d1 at ed iw
  generalize hds2 : ds.drop ps.length = d2 at ed ir
  have hl1 : d1.length = ps.length := by rw [← hds1, List.length_take]; omega
  have hl2 : d2.length ≤ 1000 := by rw [← hds2, List.length_drop]; omega
  subst ew ed
  obtain ⟨u1, u2, eu, r1, r2⟩ := vals_split r
  subst eu
  have hn : H s.heap.objs.size = Option.none := e0.hok.fresh (Nat.le_refl _)
  have hwl : wv.length = ps.length := by rw [iw.length]; exact hl1
  have hu1 : u1.length = ps.length := by rw [← r1.length]; exact hwl
  have hsz : u2.length ≤ sizeLine := by
    rw [← r2.length, ir.length, sizeLine_eq]
    omega
  refine run_bnd lk hcd S hr e0 (CX := CX0) (Q := Q) (E := E) (G := fun xs H2 => ∃ p ob, H p = Option.none ∧ NewT ob ∧ xs = wv ++ [V.ref p] ∧ H2 = upd H p (.frz ob (.tup rest))) (fun A' Ex Q' h => ?_) fun s2 H2 xs ⟨p, ob, hp, nt, ex, eH⟩ hr' => ?_
  · rw [hb kV doc pm an cdv ct u1 u2 hu1]
    refine wpAny_bind (wpAny_newTuple (wpAny_pure ?_) hsz)
    have new := newT_ok (P := P) (w := w) (H := upd H s.heap.objs.size (.frz { cls := .type "tuple", data := .seq u2.toArray } (.tup rest))) (h := s.heap) r2 (by rw [r2.length]; exact hsz)
    have un := un_laid (fs := frs outer) (s := s) (o := ({ cls := .type "tuple", data := .seq u2.toArray } : Obj)) (u := .frz { cls := .type "tuple", data := .seq u2.toArray } (.tup rest)) hn
    have z := h _ _ (wv ++ [V.ref s.heap.objs.size]) (u1 ++ [Value.ref s.heap.objs.size]) (env0_laid e0 new) un rfl (fun e s' hx => (show False from hx).elim) (r1.append (.cons rfl .nil))
      (by rw [List.length_append, List.length_append, hwl] <;> rfl) ⟨_, _, hn, ⟨rfl, rfl⟩, rfl, rfl⟩
    rw [List.zip_append hu1.symm] at z
    exact z
  · subst ex eH
    have o2 := o.new (o := .frz ob (.tup rest)) hp
    have s2' := o.sameNew (o := .frz ob (.tup rest)) hp
    have it : Iss K (hid R μ (upd H p (.frz ob (.tup rest)))) (wv ++ [V.ref p]) (d1 ++ [.tup d2]) := (iw.mono s2').append (.cons (isTup nt o hp ir) .nil)
    have hd1 : (d1 ++ [DV.tup d2]).length = ps.length + 1 := by rw [List.length_append, List.length_singleton, hl1]
    have ha : At K R (start N (wv ++ [V.ref p])) ((d1 ++ [DV.tup d2]).map some ++ List.replicate (N.length - (ps.length + 1)) none) μ (upd H p (.frz ob (.tup rest))) := ⟨o2, by
      rw [← hd1]
      exact Sl.start it⟩
    refine ⟨_, (hbody cdv A outer s2 (upd H p (.frz ob (.tup rest))) E hgd hr').nox, R, _, μ, _, ha, hw d1 d2 μ P' hl1 w1, ⟨fun ρ' μ' σ' H' p' a' s' => ?_, k1.step s2', fun _ _ _ _ p => p.elim, fun _ _ _ _ p => p.elim⟩⟩
    exact k1 .none μ' .non H' p' a'.ok (s2'.trans s') .none
end
end Dz

set_option Elab.async false
set_option linter.all false
set_option maxRecDepth 100000
set_option maxHeartbeats 4000000
/-! DzZa: defs with a star parameter, by name. -/
namespace Dz
open PySem PySem.Spec L2 PyProof.Rows StX

def DefS (P : Program) (w : World) (K : PySem.W.Frag) (mg : Str → Option Value) (base : Heap) (k : Nat) (x : Str) (st : Stmt) (wf : WF) : Prop := ∃ f fd, mg x = some (.ref f) ∧ Fun K x x st f fd ∧ FnSG P w K mg base k f wf
theorem DefS.mono {P : Program} {w : World} {K : PySem.W.Frag} {mg : Str → Option Value} {base : Heap} {j k : Nat} {x : Str} {st : Stmt} {wf : WF} (h : DefS P w K mg base j x st wf) (l : j ≤ k) : DefS P w K mg base k x st wf :=
  let ⟨f, fd, a, b, c⟩ := h; ⟨f, fd, a, b, c.mono l⟩
theorem defS_of {P : Program} {w0 : World} {K : PySem.W.Frag} {mg : Str → Option Value} {base : Heap} {x : Str} {st : Stmt} {N ps : List Str} {pv : Str} {k : Nat} {w : WS} {wf : WF} (h : At1 K mg x st) (S : FnScope N (ps ++ [pv]) (defScope st))
    (hbi : ∀ (kV doc pm : Value) (an : Option Addr) (cdv ct : Value) (us rest : List Value), us.length = ps.length → bindArgs (PySem.W.fnOf x x (defArgs st) (defBody st) (defScope st) .none kV doc pm an cdv ct) ⟨us ++ rest, []⟩ = (newTuple rest >>= fun t => pure (ps.zip us ++ [(pv, t)])))
    (hb : ∀ (f : Addr) (cdv : Value) (A : Around) (outer : List Env) (s : Shared) (H : Hp) (E : XK), A.guards = some [] → Room k (A.deeper (envOfC x (defScope st) s.heap.objs.size f cdv)) →
      PSs (cxOf CX0 P w0 K mg base N x (defScope st) f cdv A outer s H E).nox (defBody st) (tDS K w))
    (hmin : ∀ ds μ Q, wf ds μ Q → ps.length ≤ ds.length ∧ ds.length ≤ 1000)
    (hw : ∀ ds rs μ Q, ds.length = ps.length → wf (ds ++ rs) μ Q → w { nx := fun _ μ' => Q .none μ', rt := Q } ((ds ++ [DV.tup rs]).map some ++ List.replicate (N.length - (ps.length + 1)) none) μ) : DefS P w0 K mg base (k + 1) x st wf := by
  obtain ⟨f, fd, a, F⟩ := h
  exact ⟨f, fd, a, F, fnsg_of F S hbi (hb f) hw hmin⟩
def wCallS (wf : WF) (wa : WA) : WE := fun ρ μ P => wa ρ μ fun ds μ1 => wf ds μ1 P
theorem d_fS {X : Cx} {k j : Nat} {st : Stmt} {wf : WF} {x : Str} {p pos : Pos} {e : Expr} {es : List Expr} {wa : WA} (D : DefS X.prog X.w X.K X.mg X.base k x st wf) (hgd : X.A.guards = some []) (hr : Room j X.A) (hk : k ≤ j) (hg : Gl X x)
    (ha : PA X (e :: es) (tDA X.K wa)) (hdb : (x == ("__debug__" : Str)) = false := by decide) (he : starEach (e :: es) X.env = (false, eval e X.env) :: starEach es X.env := by rfl) (hpl : (backTo pos (starEach es X.env)).any (·.1) = false := by rfl) :
    PE X (.Call (.Name x p) (e :: es) [] pos) (tD X.K (wCallS wf wa)) := by
  obtain ⟨f, fd, hm, F, G⟩ := D
  constructor
  intro pins s σ H Q I ⟨R, ρ, μ, P, a, w, kk⟩
  have h : tDA X.K wa σ H (fun vs H1 => ∃ R ds μ P', Ok X.K R μ H1 ∧ Iss X.K (hid R μ H1) vs ds ∧ wf ds μ P' ∧ Nxt X.K R μ H1 P' Q) := ⟨R, ρ, μ, _, a, w, fun ds μ1 vs H1 p1 o1 s1 i1 => ⟨R, ds, μ1, P, o1, i1, p1, kk.step s1⟩⟩
  refine wpAny_Call_Name_kw (ld_glob I hg hm (PySem.W.callWith_K (h₀ := X.base) I.ok.mod.kin F.kp (thn (ha.run pos pins s σ H _ I h) fun us s1 ⟨vs, H1, I1, r, q⟩ => ⟨I1.kIn, ?_⟩) he hpl) hdb)
  refine wpAny_call (codeAny_mono (G X.A X.stack s1 H1 us vs Q (fun _ _ _ => False) hgd (hr.mono hk) I1.env0 r q) fun res s' hq => ?_)
  match res, hq with
  | .ok (.ret u), hq => exact I1.after hq
end Dz

set_option Elab.async false
set_option linter.all false
set_option maxRecDepth 100000
set_option maxHeartbeats 4000000
/-! DzZb: a comprehension over the values of a dict that changes; sorted(dict) of int keys. -/
namespace Dz
open PySem PySem.Spec L2 PyProof.Rows StX

/-- as ItD, where what R0 frames is framed -/
structure ItR (K : PySem.W.Frag) (Hm R0 : Hp) (J : It) (xs : List DV) : Prop where
  go : ∀ R μ H i, Ok K R μ H → (∀ b o, R0 b = some o → R b = some o) → Same Hm (hid R μ H) → i < xs.length → J.go i H
  yld : ∀ R μ H i x H', Ok K R μ H → (∀ b o, R0 b = some o → R b = some o) → Same Hm (hid R μ H) → J.yld i H x H' → i < xs.length → ∃ d, xs[i]? = some d ∧ Ok K R μ H' ∧ Same (hid R μ H) (hid R μ H') ∧ Is K (hid R μ H') x d
  stop : ∀ R μ H i, Ok K R μ H → (∀ b o, R0 b = some o → R b = some o) → Same Hm (hid R μ H) → xs.length ≤ i → J.stop i H
theorem ItR.vals {K : PySem.W.Frag} {Hm R0 : Hp} {a : Addr} {od : Obj} {kvs : List (Key × V)} {xs : List DV} (h : R0 a = some (.frz od (.dK kvs))) (r : Iss K Hm (kvs.map (·.2)) xs) : ItR K Hm R0 (Itd a od kvs) xs where
  go := fun R μ H i o f s hi => ⟨o.fr a _ (f _ _ h), by rw [← r.length, List.length_map] at hi; exact hi⟩
  yld := fun R μ H i x H' o f s y hi => by
    obtain ⟨rfl, k, e⟩ := y
    have e2 : (kvs.map (·.2))[i]? = some x := by rw [List.getElem?_map, e]; rfl
    obtain ⟨d, e3, k⟩ := r.getV e2
    exact ⟨d, e3, o, Same.refl _, k.mono s⟩
  stop := fun R μ H i o f s hi => ⟨o.fr a _ (f _ _ h), by rw [← r.length, List.length_map] at hi; exact hi⟩
section
variable {X : Cx} {elt tg iter : Expr} {ifs : List Expr} {scope : Scope} {own : List (Str × Nat)} {pos : Pos} {g : WG} {t : WT} {e : WE} {sl : List Nat}
theorem lc_body {K : PySem.W.Frag} {vs : List Nat} (hv : ∀ i ∈ sl, i ∈ vs) {R : Hp} {ρ : Rho} {μ μ1 : Mh} {P : DV → Mh → Prop} {σ : L2.St} {H H1 : Hp} {Q : VK} {xs : List DV} {J : It} (a : At K R σ ρ μ H)
    (p1 : compW g t e (wipeD ρ vs) xs [] μ1 fun acc μ2 => P (.lst acc) μ2) (o1 : Ok K R μ1 H1) (s1 : Same (hid R μ H) (hid R μ1 H1)) (it : ItR K (hid R μ1 H1) R J xs) (k : Nxt K R μ H P Q) :
    tLc (fun _ _ RR => RR J H1) (tDG K sl g) (tDT K t) (tD K e) vs σ H Q := fun D n => by
    have rn := o1.freeR n
    have fD : ∀ (accV : List V) b o, R b = some o → upd R D (.lst accV) b = some o := fun accV b o q => by
      rw [upd_ne fun z => by subst z; rw [rn] at q; cases q]
      exact q
    refine ⟨fun i m H' => m = xs.length - i ∧ i ≤ xs.length ∧ ∃ μ' acc accV, Ok K (upd R D (.lst accV)) μ' H' ∧ Same (hid R μ1 H1) (hid (upd R D (.lst accV)) μ' H') ∧ Iss K (hid (upd R D (.lst accV)) μ' H') accV acc ∧
      compW g t e (wipeD ρ vs) (xs.drop i) acc μ' fun acc μ2 => P (.lst acc) μ2, ?_, ?_⟩
    · obtain ⟨o2, e2⟩ := o1.frame (o := .lst []) n
      exact ⟨_, rfl, Nat.zero_le _, μ1, [], [], o2, by rw [e2]; exact Same.refl _, .nil, p1⟩
    rintro i m H2 ⟨rfl, hi, μ2, acc, accV, o2, s2, r2, w2⟩
    by_cases hlt : i < xs.length
    · refine .inr ⟨it.go _ μ2 H2 i o2 (fD accV) s2 hlt, fun H' => ∃ μ' acc accV, Ok K (upd R D (.lst accV)) μ' H' ∧ Same (hid R μ1 H1) (hid (upd R D (.lst accV)) μ' H') ∧ Iss K (hid (upd R D (.lst accV)) μ' H') accV acc ∧
        compW g t e (wipeD ρ vs) (xs.drop (i + 1)) acc μ' fun acc μ2 => P (.lst acc) μ2, fun H' ⟨μ', acc', accV', o', s', r', w'⟩ => ⟨_, ?_, rfl, hlt, μ', acc', accV', o', s', r', w'⟩, fun x H3 y => ?_⟩
      · omega
      · obtain ⟨d, hd, o3, s3, r3⟩ := it.yld _ μ2 H2 i x H3 o2 (fD accV) s2 y hlt
        rw [drop_at hd] at w2
        have sl3 : Sl K (hid (upd R D (.lst accV)) μ2 H3) (wipe σ vs) (wipeD ρ vs) := (a.sl.mono ((s1.trans s2).trans s3)).wipe vs
        refine ⟨_, wipeD ρ vs, μ2, d, _, ⟨o3, sl3⟩, r3, w2, fun ρ4 σ4 w4 sl4 ww => ⟨by rw [ww vs hv, wipe_wipe], _, ρ4, μ2, _, ⟨o3, sl4⟩, w4, fun b μ5 H5 p5 o5 s5 => ?_⟩⟩
        cases b with
        | false => exact iteF ⟨μ5, acc, accV, o5, (s2.trans s3).trans s5, r2.mono (s3.trans s5), p5⟩
        | true =>
          refine iteT ⟨_, ρ4, μ5, _, ⟨o5, sl4.mono s5⟩, p5, fun y μ6 v H6 p6 o6 s6 r6 => ⟨accV, o6.fr D _ upd_same, ?_, ?_⟩⟩
          · rw [r2.length]
            exact p6.1
          · obtain ⟨o7, e7⟩ := o6.reframe (o' := .lst (accV ++ [v]))
            refine ⟨μ6, acc ++ [y], accV ++ [v], o7, ?_, ?_, p6.2⟩
            · rw [e7]
              exact ((s2.trans s3).trans s5).trans s6
            · rw [e7]
              exact (r2.mono ((s3.trans s5).trans s6)).append (.cons r6 .nil)
    · have e' : i = xs.length := by omega
      subst e'
      rw [List.drop_length] at w2
      obtain ⟨o4, s4, h4⟩ := o2.unframe rn
      exact .inl ⟨it.stop _ μ2 H2 _ o2 (fD accV) s2 (Nat.le_refl _), k _ μ2 _ H2 w2 o4 (s1.trans (s2.trans s4)) (.lst h4 (r2.mono s4))⟩
/-- [e for g in NAME.values() if t] -/
def wLcV (i : Nat) (g : WG) (t : WT) (e : WE) (vs : List Nat) : WE := fun ρ μ P => match ρ[i]? with
  | some (some (.obj a)) => match μ a with
    | some (.dct ds) => compW g t e (wipeD ρ vs) (ds.map (·.2)) [] (delM μ a) fun acc μ2 => μ2 a = none ∧ P (.lst acc) (updM μ2 a (.dct ds))
    | _ => False
  | _ => False
theorem lcV_imp {K : PySem.W.Frag} {vs : List Nat} {i : Nat} (hv : ∀ i ∈ sl, i ∈ vs) : ∀ σ H Q, tD K (wLcV i g t e vs) σ H Q → tLockE (tLc (iVals (tD K (wVar i))) (tDG K sl g) (tDT K t) (tD K e) vs) σ H Q := fun σ H Q ⟨R, ρ, μ, P, at', w, k⟩ => by
  have w1 : (match ρ[i]? with | some (some (.obj a)) => (match μ a with | some (.dct ds) => compW g t e (wipeD ρ vs) (ds.map (·.2)) [] (delM μ a) (fun acc μ2 => μ2 a = none ∧ P (.lst acc) (updM μ2 a (.dct ds))) | _ => False) | _ => False) := w
  split at w1
  case h_2 => exact w1.elim
  rename_i a ea
  split at w1
  case h_2 => exact w1.elim
  rename_i ds em
  obtain ⟨kvs, hH, hk, hr⟩ := at'.ok.ob a _ em
  have ra : R a = none := by
    cases e : R a with
    | none => rfl
    | some o => rw [at'.ok.dj a o e] at em; cases em
  refine ⟨a, .dK kvs, hH, trivial, fun od => ?_⟩
  have hidE : hid (upd R a (.frz od (.dK kvs))) (delM μ a) (upd H a (.frz od (.dK kvs))) = hid R μ H := by
    funext b
    unfold hid
    by_cases z : b = a
    · subst z
      rw [upd_same, if_neg (fun q => Bool.false_ne_true q.1), if_neg (fun q => by rw [em] at q; exact Bool.false_ne_true q.2)]
    · rw [upd_ne z, upd_ne z, delM_ne z]
  have ok' : Ok K (upd R a (.frz od (.dK kvs))) (delM μ a) (upd H a (.frz od (.dK kvs))) := by
    refine ⟨fun b o q => ?_, fun b o q => ?_, fun b o q => ?_⟩
    · by_cases z : b = a
      · subst z
        rw [upd_same] at q ⊢
        exact q
      · rw [upd_ne z] at q ⊢
        exact at'.ok.fr b o q
    · by_cases z : b = a
      · subst z
        exact delM_same
      · rw [upd_ne z] at q
        rw [delM_ne z]
        exact at'.ok.dj b o q
    · have z : b ≠ a := fun z => by subst z; rw [delM_same] at q; cases q
      rw [delM_ne z] at q
      rw [hidE]
      refine (at'.ok.ob b o q).mono (Same.refl _) (upd_ne z) (fun c hc => ?_) q (fun c hc => ?_)
      · rw [q] at hc
        cases o with
        | ext near φ =>
          obtain ⟨_, _, hn, _⟩ := at'.ok.ob b _ q
          exact upd_ne fun y => by subst y; have := hn c hc; rw [em] at this; cases this
        | _ => cases hc
      · rw [delM_ne fun y => by subst y; rw [em] at hc; cases hc]
        exact hc
  have at2 : At K (upd R a (.frz od (.dK kvs))) σ ρ (delM μ a) (upd H a (.frz od (.dK kvs))) := ⟨ok', by rw [hidE]; exact at'.sl⟩
  refine ⟨_, ρ, _, fun d m => d = .obj a ∧ m = delM μ a, at2, ?_, fun d m v H1 ⟨hd, hm⟩ o1 s1 i1 => ?_⟩
  · show (match ρ[i]? with | some (some d) => _ | _ => False)
    rw [ea]
    exact ⟨rfl, rfl⟩
  subst hd hm
  cases i1
  refine ⟨a, od, kvs, rfl, o1.fr a _ upd_same, ?_⟩
  have r1 : Iss K (hid (upd R a (.frz od (.dK kvs))) (delM μ a) H1) (kvs.map (·.2)) (ds.map (·.2)) := hr.mono (by rw [← hidE]; exact s1)
  refine lc_body (P := fun d μ2 => μ2 a = none ∧ P d (updM μ2 a (.dct ds))) (Q := fun v H' => H' a = some (.frz od (.dK kvs)) ∧ Q v (upd H' a (.dK kvs))) hv at2 w1 o1 s1 (.vals upd_same r1) fun d μ2 v H2 ⟨n2, p2⟩ o2 s2 i2 => ⟨o2.fr a _ upd_same, ?_⟩
  have hid3 : hid R (updM μ2 a (.dct ds)) (upd H2 a (.dK kvs)) = hid (upd R a (.frz od (.dK kvs))) μ2 H2 := by
    funext b
    unfold hid
    by_cases z : b = a
    · subst z
      rw [upd_same, updM_same, if_neg (fun q => Bool.false_ne_true q.2), if_neg (fun q => by rw [upd_same] at q; exact Bool.false_ne_true q.1)]
    · rw [upd_ne z, upd_ne z, updM_ne z]
  have s3 : Same (hid R μ H) (hid (upd R a (.frz od (.dK kvs))) μ2 H2) := by rw [← hidE]; exact s2
  refine k d _ v _ p2 ⟨fun b o q => ?_, fun b o q => ?_, fun b o q => ?_⟩ (by rw [hid3]; exact s3) (by rw [hid3]; exact i2)
  · have z : b ≠ a := fun z => by subst z; rw [ra] at q; cases q
    rw [upd_ne z]
    exact o2.fr b o (by rw [upd_ne z]; exact q)
  · have z : b ≠ a := fun z => by subst z; rw [ra] at q; cases q
    rw [updM_ne z]
    exact o2.dj b o (by rw [upd_ne z]; exact q)
  · rw [hid3]
    by_cases z : b = a
    · subst z
      rw [updM_same] at q
      cases q
      exact ⟨kvs, upd_same, hk, hr.mono s3⟩
    · rw [updM_ne z] at q
      refine (o2.ob b o q).mono (Same.refl _) (upd_ne z) (fun c hc => ?_) q (fun c hc => ?_)
      · rw [q] at hc
        cases o with
        | ext near φ =>
          obtain ⟨_, _, hn, _⟩ := o2.ob b _ q
          exact upd_ne fun y => by subst y; have := hn c hc; rw [n2] at this; cases this
        | _ => cases hc
      · rw [updM_ne fun y => by subst y; rw [n2] at hc; cases hc]
        exact hc
theorem d_lcV {i : Nat} {e0 : Expr} {apos cpos : Pos} (he0 : PE X e0 (tD X.K (wVar i))) (ok : BlkOk X.N X.env.scope scope own)
    (hg : ∀ (s : Shared) (H : Hp) (C : Addr) (cl : List (Str × Addr)) (fp : List Addr), PG (X.blk s H scope (compEnvC scope cl C X.env) fp) tg (tDG X.K sl g)) (ht : ∀ (s : Shared) (H : Hp) (C : Addr) (cl : List (Str × Addr)) (fp : List Addr), PTs (X.blk s H scope (compEnvC scope cl C X.env) fp) ifs (tDT X.K t))
    (he : ∀ (s : Shared) (H : Hp) (C : Addr) (cl : List (Str × Addr)) (fp : List Addr), PE (X.blk s H scope (compEnvC scope cl C X.env) fp) elt (tD X.K e)) (hN : X.N.Nodup) (hv : ∀ i ∈ sl, i ∈ own.map (·.2) := by decide) (hc : X.calm = true := by rfl)
    (hbase : attributeBase e0 "values" X.env (eval e0 X.env) = eval e0 X.env := by rfl) (hline : (apos.endLine == cpos.line) = true := by rfl)
    (hs : ∀ x, foldedSetIterable (.Call (.Attribute e0 "values" apos) [] [] cpos) X.env x = pure x := by intro _; rfl) :
    PE X (.ListComp elt [⟨tg, .Call (.Attribute e0 "values" apos) [] [] cpos, ifs, 0⟩] scope pos) (tD X.K (wLcV i g t e (own.map (·.2)))) := PE.imp (pe_lock (pe_lc hc hN (pi_values he0 hbase hline) ok hg ht he hs)) (lcV_imp hv)
end
theorem Iss.ofInts {K : PySem.W.Frag} {H : Hp} : ∀ (ks : List Int), Iss K H (ks.map V.int) (ks.map DV.int)
  | [] => .nil
  | k :: ks => .cons (.int k) (Iss.ofInts ks)
/-- sorted(d) of a dict whose keys are ints -/
def wSortDI (w : WE) : WE := fun ρ μ P => w ρ μ fun x μ1 => match look μ1 x with
  | .dct kvs => ∃ ks : List Int, kvs.map (·.1) = ks.map Sum.inl ∧ ks.length < 64 ∧ ∀ ys : List Int, ys.Perm ks → ys.Pairwise (· ≤ ·) → P (.lst (ys.map .int)) μ1
  | _ => False
section
variable {X : Cx} {p pos : Pos} {e : Expr} {w : WE}
theorem d_sortDI (hg : Gl X "sorted") (hm : X.mg "sorted" = none) (ha : PE X e (tD X.K w)) (hc : X.calm = true := by rfl) (hs : starEach [e] X.env = [(false, eval e X.env)] := by rfl) :
    PE X (.Call (.Name "sorted" p) [e] [] pos) (tD X.K (wSortDI w)) :=
  PE.imp (pe_callB (call_sortedDI hc) hg hm (by decide +kernel) (pa_cons ha pa_nil hs) (by decide) (by decide) hs rfl)
    fun σ H Q ⟨R, ρ, μ, P, a, w, k⟩ => ⟨R, ρ, μ, _, a, w, fun x μ1 v H1 p1 o1 s1 i1 => by
      have i2 := i1.look o1
      have p2 : (match look μ1 x with | .dct kvs => ∃ ks : List Int, kvs.map (·.1) = ks.map Sum.inl ∧ ks.length < 64 ∧ ∀ ys : List Int, ys.Perm ks → ys.Pairwise (· ≤ ·) → P (.lst (ys.map .int)) μ1 | _ => False) := p1
      generalize look μ1 x = y at i2 p2
      cases i2 with
      | @dct b xs ds hx hk rx =>
        obtain ⟨ks, h1, h2, q⟩ := p2
        exact ⟨b, xs, ks, rfl, .inl hx, hk.trans h1, h2, fun ys p' pm pw hp' => (k.step s1).lst o1 (q ys pm pw) (Iss.ofInts ys) hp'⟩
      | _ => exact (show False from p2).elim⟩
end
end Dz

set_option Elab.async false
set_option linter.all false
set_option maxRecDepth 100000
set_option maxHeartbeats 4000000
/-! DzZc: d[k], e[l] = two. -/
namespace Dz
open PySem PySem.Spec L2 PyProof.Rows StX

def putW (x y v : DV) (μ : Mh) (P : Mh → Prop) : Prop := match x with
  | .obj a => match μ a with
    | some (.dct kvs) => atW (keyD y) fun k => kvs.length < sizeLine ∧ P (updM μ a (.dct (putD kvs k v)))
    | _ => False
  | _ => False
theorem putW_of {K : PySem.W.Frag} {R : Hp} {μ : Mh} {H : Hp} {xv yv vv : V} {x y v : DV} {P : Mh → Prop} (w : putW x y v μ P) (o : Ok K R μ H) (i2 : Is K (hid R μ H) xv x) (i3 : Is K (hid R μ H) yv y) (i1 : Is K (hid R μ H) vv v) :
    ∃ b H4 μ4, xv = .ref b ∧ DPut H b yv vv H4 ∧ P μ4 ∧ Ok K R μ4 H4 ∧ Same (hid R μ H) (hid R μ4 H4) := by
  cases i2 with
  | obj b =>
    have p3' : (match μ b with | some (.dct kvs) => atW (keyD y) fun k => kvs.length < sizeLine ∧ P (updM μ b (.dct (putD kvs k v))) | _ => False) := w
    split at p3'
    · rename_i kvs e
      obtain ⟨key, h1, hl, w3⟩ := atW_of p3'
      obtain ⟨ks, h3, h4, h5⟩ := o.ob b _ e
      obtain ⟨h6, h7⟩ := Iss.put (k := key) h4 h5 i1
      obtain ⟨o4, e4⟩ := o.setM (o := .dK (putK ks key vv)) (m := .dct (putD kvs key v)) e (by intro z; cases z) ⟨_, upd_same, h6, h7⟩
      have hlen : ks.length = kvs.length := by have := congrArg List.length h4; simpa using this
      exact ⟨b, _, _, rfl, by rw [keyD_of i3 h1]; exact DPut.k h3 (by rw [hlen]; exact hl), w3, o4, by rw [e4]; exact Same.refl _⟩
    · exact p3'.elim
  | _ => exact (show False from w).elim
/-- d[k], e[l] = two -/
def wDPut2 (wd wk we wl wv : WE) : WS := fun E ρ μ => wv ρ μ fun v μ1 => match v with
  | .tup [v1, v2] => wd ρ μ1 fun x μ2 => wk ρ μ2 fun y μ3 => putW x y v1 μ3 fun μ4 => we ρ μ4 fun x2 μ5 => wl ρ μ5 fun y2 μ6 => putW x2 y2 v2 μ6 fun μ7 => E.nx ρ μ7
  | _ => False
section
variable {X : Cx} {oe ke oe2 ke2 ve : Expr} {pos p1 p2 tp : Pos} {kk : Nat} {wd wk we wl wv : WE}
theorem ds_dput2 {k : Nat} (hr : Room k X.A) (ho : PE X oe (tD X.K wd)) (hi : PE X ke (tD X.K wk)) (ho2 : PE X oe2 (tD X.K we)) (hi2 : PE X ke2 (tD X.K wl)) (hv : PE X ve (tD X.K wv)) (hc : X.calm = true := by rfl)
    (hs : swapsWithSole [.Tuple [.Subscript oe ke p1, .Subscript oe2 ke2 p2] kk tp] ve pos.line X.env = pure false := by rfl) (hw : swappedStores [.Tuple [.Subscript oe ke p1, .Subscript oe2 ke2 p2] kk tp] ve X.env = pure none := by rfl)
    (h1 : (assignEach [.Tuple [.Subscript oe ke p1, .Subscript oe2 ke2 p2] kk tp] X.env).map (·.2) = [assign (.Tuple [.Subscript oe ke p1, .Subscript oe2 ke2 p2] kk tp) X.env] := by rfl)
    (ha : ∀ v, assign (.Subscript oe ke p1) X.env v = (do
      let ov ← holding [v] (eval oe X.env)
      let iv ← holding [v, ov] (eval ke X.env)
      standAt p1
      holding [v, ov, iv] (setItem ov iv v)
      release [v, ov, iv] []) := by intro _; rfl)
    (hb : ∀ v, assign (.Subscript oe2 ke2 p2) X.env v = (do
      let ov ← holding [v] (eval oe2 X.env)
      let iv ← holding [v, ov] (eval ke2 X.env)
      standAt p2
      holding [v, ov, iv] (setItem ov iv v)
      release [v, ov, iv] []) := by intro _; rfl)
    (hn : (assignEach [.Subscript oe ke p1, .Subscript oe2 ke2 p2] X.env).length = 2 := by rfl) (hst : (assignEach [.Subscript oe ke p1, .Subscript oe2 ke2 p2] X.env).findIdx? (·.1) = none := by rfl)
    (hs1 : (assignEach [.Subscript oe ke p1, .Subscript oe2 ke2 p2] X.env).map (·.2) = assign (.Subscript oe ke p1) X.env :: (assignEach [.Subscript oe2 ke2 p2] X.env).map (·.2) := by rfl)
    (hs2 : (assignEach [.Subscript oe2 ke2 p2] X.env).map (·.2) = assign (.Subscript oe2 ke2 p2) X.env :: (assignEach [] X.env).map (·.2) := by rfl) :
    PS X (.Assign [.Tuple [.Subscript oe ke p1, .Subscript oe2 ke2 p2] kk tp] ve pos) (tDS X.K (wDPut2 wd wk we wl wv)) :=
  PS.imp (ps_asg hv (pg_tup hc (pgs_cons (pg_sub ho hi (set_dict (by have := hr.un; omega)) ha) (pgs_cons (pg_sub ho2 hi2 (set_dict (by have := hr.un; omega)) hb) pgs_nil hs2) hs1) hn hst) hs hw h1) fun D σ H ⟨R, ρ, μ, E, a, w, k⟩ => ⟨R, ρ, μ, _, a, w, fun v μ1 vv H1 p1 o1 s1 i1 => by
    cases i1 with
    | @tup b xs ds hx rx =>
      cases rx with
      | nil => exact (show False from p1).elim
      | @cons u1 us e1 es r1 rr =>
        cases rr with
        | nil => exact (show False from p1).elim
        | @cons u2 us2 e2 es2 r2 rr2 =>
          cases rr2 with
          | cons _ _ => exact (show False from p1).elim
          | nil =>
            refine ⟨b, _, rfl, Same.seqT hid_le hx.t, rfl, u1, [u2], rfl, R, ρ, μ1, _, a.step o1 s1, p1, fun x μ2 xv H2 p2 o2 s2 i2 => ⟨R, ρ, μ2, _, a.step o2 (s1.trans s2), p2, fun y μ3 yv H3 p3 o3 s3 i3 => ?_⟩⟩
            obtain ⟨c, H4, μ4, rfl, g4, p4, o4, s4⟩ := putW_of p3 o3 (i2.mono s3) i3 (r1.mono (s2.trans s3))
            have t4 := ((s1.trans s2).trans s3).trans s4
            refine ⟨c, H4, rfl, g4, u2, [], rfl, R, ρ, μ4, _, a.step o4 t4, p4, fun x μ5 xv H5 p5 o5 s5 i5 => ⟨R, ρ, μ5, _, a.step o5 (t4.trans s5), p5, fun y μ6 yv H6 p6 o6 s6 i6 => ?_⟩⟩
            obtain ⟨c2, H7, μ7, rfl, g7, p7, o7, s7⟩ := putW_of p6 o6 (i5.mono s6) i6 (r2.mono ((((s2.trans s3).trans s4).trans s5).trans s6))
            exact ⟨c2, H7, rfl, g7, rfl, k.nx ρ _ σ _ p7 (a.step o7 (((t4.trans s5).trans s6).trans s7)) (((t4.trans s5).trans s6).trans s7)⟩
    | _ => exact (show False from p1).elim⟩
end
end Dz

set_option Elab.async false
set_option linter.all false
set_option maxRecDepth 100000
set_option maxHeartbeats 4000000
/-! DzZd: xs[a:b] of a list that changes. -/
namespace Dz
open PySem PySem.Spec L2 PyProof.Rows StX

section
variable {X : Cx} {e : Expr} {pos : Pos}
/-- xs[a:b] of a list that changes: a new one that may change -/
def wSlM (w : WE) (wl wh : WO) : WE := fun ρ μ P => w ρ μ fun x μ1 => wl ρ μ1 fun l μ2 => wh ρ μ2 fun h μ3 => match x with
  | .obj a => match μ3 a with
    | some (.lst ds) => ∀ p, μ3 p = none → P (.obj p) (updM μ3 p (.lst (cutD ds l h)))
    | _ => False
  | .lst ds => ∀ p, μ3 p = none → P (.obj p) (updM μ3 p (.lst (cutD ds l h)))
  | _ => False
theorem d_sliceM {lo hi : Option Expr} {p2 : Pos} {w : WE} {wl wh : WO} (he : PE X e (tD X.K w)) (hl : PO X lo (tDO X.K wl)) (hu : PO X hi (tDO X.K wh)) : PE X (.Subscript e (.Slice lo hi none p2) pos) (tD X.K (wSlM w wl wh)) :=
  PE.imp (pe_slice sl_list he hl hu) fun σ H Q ⟨R, ρ, μ, P, a, w, k⟩ => ⟨R, ρ, μ, _, a, w, fun x μ1 v H1 p1 o1 s1 i1 => ⟨R, ρ, μ1, _, a.step o1 s1, p1, fun l μ2 H2 p2 o2 s2 => ⟨R, ρ, μ2, _, a.step o2 (s1.trans s2), p2, fun h μ3 H3 p3 o3 s3 => by
    have k3 := k.step ((s1.trans s2).trans s3)
    have i3 := i1.mono (s2.trans s3)
    cases i3 with
    | lst hx rx => exact ⟨_, _, rfl, SqL.of (hid_le _ _ hx), fun p n => k3.lstM o3 p3 (rx.cut l h) n⟩
    | obj b =>
      have p4 : (match μ3 b with | some (.lst ds) => ∀ p, μ3 p = none → P (.obj p) (updM μ3 p (.lst (cutD ds l h))) | _ => False) := p3
      split at p4
      · rename_i ds em
        obtain ⟨xs, h3, h4⟩ := o3.ob b _ em
        exact ⟨_, _, rfl, SqL.of h3, fun p n => k3.lstM o3 p4 (h4.cut l h) n⟩
      · exact p4.elim
    | _ => exact (show False from p3).elim⟩⟩⟩
end
end Dz

set_option Elab.async false
set_option linter.all false
set_option maxRecDepth 100000
set_option maxHeartbeats 4000000
/-! DzZe: t.index(x) of a tuple, t * k of a tuple. -/
namespace Dz
open PySem PySem.Spec L2 PyProof.Rows

section
variable {X : Cx} {oe e : Expr} {es : List Expr} {pos apos : Pos} {wo we : WE}
theorem SqN.noDict {pins : List (Addr × Obj)} {σ : L2.St} {H : Hp} {s : Shared} {a : Addr} {xs : List V} (I : Inv X pins σ H s) (h : SqN X.K H a xs) : ∃ o, s.heap.get? a = some o ∧ NewT o := by
  rcases h with ⟨o, h, n⟩ | ⟨o, its, k, h1, h2, _⟩
  · exact ⟨o, (I.hok a _ h).1, n⟩
  · exact ⟨o, I.kIn _ o h1, h2⟩
/-- t.m(e, ..), t a tuple known to have no dict of its own -/
theorem pe_bmN {o : Expr} {to : TE} {t : TA} {name : Str} {id : String} {cpos : Pos} {r : V → List V → Hp → VK → Prop} (slot : Slot "tuple" name id) (hty : typeOf (.builtin id) = pure (.type "method_descriptor")) (hm : MtR X id r) (ho : PE X o to) (ha : PA X (e :: es) t)
    (hbase : attributeBase o name X.env (eval o X.env) = eval o X.env := by rfl)
    (hfew : ((backTo cpos (starEach (e :: es) X.env)).all (fun x => !x.1) && (backToKw cpos (keywordEach [] X.env)).all (fun x => x.1.isSome)
      && decide ((e :: es).length + ([] : List Keyword).length + (if ([] : List Keyword).isEmpty then 0 else 1) < 30)) = true := by rfl)
    (hline : (apos.endLine == cpos.line) = true := by rfl) (hs : starEach (e :: es) X.env = (false, eval e X.env) :: starEach es X.env := by rfl) (hplain : (backTo cpos (starEach es X.env)).any (·.1) = false := by rfl) :
    PE X (.Call (.Attribute o name apos) (e :: es) [] cpos) (fun σ H Q => to σ H fun x H1 => (∃ a xs, x = V.ref a ∧ SqN X.K H1 a xs) ∧ t σ H1 fun xs H2 => r x xs H2 Q) := by
  refine ⟨fun pins s σ H Q I h => ?_⟩
  refine wpAny_Call_method_late hbase hfew hline rfl (thn (ho.run pins s σ H _ I h) fun v s1 ⟨x, H1, I1, r1, ty, q1⟩ => ?_)
  obtain ⟨a, xs, rfl, hN⟩ := ty
  obtain ⟨ob, hob, hn⟩ := hN.noDict I1
  obtain rfl : v = Value.ref a := r1
  refine ⟨"tuple", id, PySem.F.plainAttrs_tuple, slot, hty, ⟨ob, hob, hn.1⟩, fun b eb => by cases eb; exact ⟨ob, hob, hn.2⟩, ?_⟩
  have hA := ha.run cpos pins s1 σ H1 _ I1 q1
  rw [hs] at hA ⊢
  refine Calls.callWith_builtin (by show (false || (backTo cpos (starEach es X.env)).any (·.1)) = false; rw [hplain] <;> rfl) (Calls.evalArgs_plain ?_)
  exact thn hA fun us s2 ⟨vs, H2, I2, r2, q2⟩ => hm pins s2 σ H2 (V.ref a) vs (Value.ref a) us Q I2 rfl r2 q2

/-- t.index(x): the first place of an equal one -/
def rIndexTD (K : PySem.W.Frag) : V → List V → Hp → VK → Prop := fun x xs H Q => ∃ (a : Addr) (y : V) (d : PyData) (ds : List PyData) (j : Nat) (z : PyData), x = V.ref a ∧ xs = [y] ∧ Dp K H (V.ref a) (.tuple ds) ∧ Dp K H y d ∧
  SeqAt.shaped (.tuple ds) = true ∧ SeqAt.shaped d = true ∧ ds[j]? = some z ∧ PyData.eqv z d = true ∧ (∀ (m : Nat) (z' : PyData), m < j → ds[m]? = some z' → PyData.eqv z' d = false) ∧ Q (.int (j : Nat)) H
theorem mt_indexTD (hu : X.A.units + 65 < cLine) : MtR X "tuple.index" (rIndexTD X.K) := by
  intro pins s σ H x xs v us Q I rx rxs h
  obtain ⟨a, y, d, ds, j, z, rfl, rfl, hl, hy, sl, sd, hz, hzj, hno, q⟩ := h
  cases rx
  cases rxs with
  | cons ry rt =>
    rename_i uy ut
    cases rt
    obtain ⟨bs, r1⟩ := Dp.reads I d y uy hy ry
    have hxs : PyData.canLayAll0 ds = true := SeqAt.canLay_of_shaped sl
    have hroom : X.A.units + 1 + min (PyData.depthAll ds) d.depth < cLine := room_in_tup sd hu
    cases hl with
    | tup hs ha =>
      obtain ⟨its, rv, ⟨⟨cls, dd, data, sls⟩, ho, hc, n, hdt⟩, hlen⟩ := I.tuple hs
      simp only at hc hdt
      subst hc hdt
      obtain ⟨as, h4⟩ := Dp.readsAll I ds _ its ha rv
      have hn : its.length = ds.length := SeqAt.ReadsAll.length ds its as h4
      have hmap : its.map (SeqAt.readOf s.heap) = ds := SeqAt.readsAll_map ds its as hxs h4
      have hvl := rv.length
      have hsl := sizeLine_eq
      obtain ⟨hjd, _⟩ := List.getElem?_eq_some_iff.mp hz
      have hjl : j < its.length := by omega
      have hj : j < its.toArray.size := by simpa using hjl
      have at_ : ∀ (m : Nat) (hm : m < its.toArray.size) (z' : PyData), ds[m]? = some z' → SeqAt.readOf s.heap its.toArray[m] = z' := by
        intro m hm z' hz'
        have hml : m < its.length := by simpa using hm
        rw [← hmap, List.getElem?_map, List.getElem?_eq_getElem hml] at hz'
        have e1 : SeqAt.readOf s.heap its[m] = z' := Option.some.inj (show some (SeqAt.readOf s.heap its[m]) = some z' from hz')
        simpa using e1
      refine call_meets PySem.F.slot_tuple_index ⟨_, ho, rfl⟩ PySem.F.entry_tuple_index (PySem.F.args_tuple_index_2 _ _)
        (TI.tuple_indexAt a its.toArray n dd sls uy (fun u => PyData.eqv (SeqAt.readOf s.heap u) d) j hj ?_ ?_) ⟨ho, SeqAt.items_eqAt (vs := its.toArray) (show ReadsAll s.heap its.toArray.toList ds as from h4) r1 hxs (SeqAt.canLay_of_shaped sd) hroom, ?_⟩
      · show PyData.eqv (SeqAt.readOf s.heap its.toArray[j]) d = true
        rw [at_ j hj z hz]
        exact hzj
      · intro m hm hmj
        have hmd : m < ds.length := by omega
        have hz' : ds[m]? = some ds[m] := List.getElem?_eq_getElem hmd
        show PyData.eqv (SeqAt.readOf s.heap its.toArray[m]) d = false
        rw [at_ m hm _ hz']
        exact hno m _ hmj hz'
      · exact ⟨.int (j : Nat), H, I.tok _, ⟨_, rfl⟩, q⟩
/-- the first place of an equal one, in a tuple -/
def wIndexT (wo we : WE) : WE := fun ρ μ P => wo ρ μ fun x μ1 => match x with
  | .tup ds => we ρ μ1 fun y μ2 => shapedD (.tup ds) = true ∧ shapedD y = true ∧ ∃ j z, ds[j]? = some z ∧ deepEq z y = true ∧ (∀ m z', m < j → ds[m]? = some z' → deepEq z' y = false) ∧ P (.int (j : Nat)) μ2
  | _ => False
theorem d_indexT {k : Nat} (hr : Room k X.A) (ho : PE X oe (tD X.K wo)) (he : PE X e (tD X.K we)) (hs : starEach [e] X.env = [(false, eval e X.env)] := by rfl) (hbase : attributeBase oe "index" X.env (eval oe X.env) = eval oe X.env := by rfl)
    (hfew : ((backTo pos (starEach [e] X.env)).all (fun x => !x.1) && (backToKw pos (keywordEach [] X.env)).all (fun x => x.1.isSome) && decide (([e] : List Expr).length + ([] : List Keyword).length + (if ([] : List Keyword).isEmpty then 0 else 1) < 30)) = true := by rfl) (hline : (apos.endLine == pos.line) = true := by rfl) :
    PE X (.Call (.Attribute oe "index" apos) [e] [] pos) (tD X.K (wIndexT wo we)) :=
  PE.imp (pe_bmN PySem.F.slot_tuple_index PySem.F.type_tuple_index (mt_indexTD (by have := hr.un; omega)) ho (pa_cons he pa_nil hs) hbase hfew hline hs) fun σ H Q ⟨R, ρ, μ, P, a, w, k⟩ => ⟨R, ρ, μ, _, a, w, fun x μ1 v H1 p1 o1 s1 i1 => by
    cases i1 with
    | @tup b xs ds hx rx =>
      refine ⟨⟨b, xs, rfl, Same.seqN hid_le hx⟩, R, ρ, μ1, _, a.step o1 s1, p1, fun y μ2 u H2 p2 o2 s2 i2 => ?_⟩
      obtain ⟨sl1, sy, j, z, hj, hz, hno, q⟩ := p2
      have hl2 : Is X.K H2 (.ref b) (.tup ds) := (Is.mono s2 (Is.tup hx rx)).mono hid_le
      have hy2 := i2.mono hid_le
      have d1 := hl2.dpS sl1
      have d2 := hy2.dpS sy
      refine ⟨b, u, toPy y, toPys ds, j, toPy z, rfl, rfl, d1.1, d2.1, d1.2, d2.2, by rw [toPys_get, hj]; rfl, hz, fun m z' hm hz' => ?_, (k.step (s1.trans s2)).val o2 q (.int _)⟩
      rw [toPys_get] at hz'
      cases hd : ds[m]? with
      | none => rw [hd] at hz'; cases hz'
      | some d =>
        rw [hd] at hz'
        have : toPy d = z' := Option.some.inj hz'
        rw [← this]
        exact hno m d hm hd
    | _ => exact (show False from p1).elim⟩

/-! ### t * k -/
theorem tuple_mul1 (l : Addr) (items : Array Value) (n : Nat) (dd : Option Addr) (sl : Array (Option Value)) (x : Int) (u : Tok) (c0 : (decide (x < -(2 ^ 63)) || decide (x ≥ 2 ^ 63)) = false) (c1 : (items.isEmpty || x == 1) = true) :
    Meets (Builtin.«tuple.__mul__» ⟨[.ref l, .int x u], []⟩) (fun _ R s => s.heap.get? l = some { cls := .type "tuple", dict := dd, data := .seq items n, slots := sl } ∧ R (.ok (.ret (Value.ref l))) s) :=
  .of_wp fun prog w A R s h => by
    obtain ⟨hp, g, d, tk, os⟩ := s
    obtain ⟨hl, h⟩ := h
    have f1 := AutoSeq1.idx_int
    wp_walk using wpAny_loadPart' hl
    repeat (first
      | (refine wpAny_ite_false (decide_eq_false (by rw [c0]; exact Bool.false_ne_true)) ?_; wp_walk using wpAny_loadPart' hl)
      | (refine wpAny_ite_true (decide_eq_true c1) ?_; wp_walk using wpAny_loadPart' hl))
    exact ⟨_, rfl, h⟩
theorem tuple_mul0 (l : Addr) (items : Array Value) (n : Nat) (dd : Option Addr) (sl : Array (Option Value)) (x : Int) (u : Tok) (c0 : (decide (x < -(2 ^ 63)) || decide (x ≥ 2 ^ 63)) = false) (c1 : (items.isEmpty || x == 1) = false) (c2 : (decide (x ≤ 0) || items.isEmpty) = true) :
    Meets (Builtin.«tuple.__mul__» ⟨[.ref l, .int x u], []⟩) (fun _ R s => s.heap.get? l = some { cls := .type "tuple", dict := dd, data := .seq items n, slots := sl } ∧
      R (.ok (.ret (Value.ref s.heap.objs.size))) { s with heap := s.heap.push { cls := Value.type "tuple", data := Data.seq #[] }, toks := s.toks }) :=
  .of_wp fun prog w A R s h => by
    obtain ⟨hp, g, d, tk, os⟩ := s
    obtain ⟨hl, h⟩ := h
    have f1 := AutoSeq1.idx_int
    wp_walk using wpAny_loadPart' hl
    repeat (first
      | (refine wpAny_ite_false (decide_eq_false (by rw [c0]; exact Bool.false_ne_true)) ?_; wp_walk using wpAny_loadPart' hl)
      | (refine wpAny_ite_false (decide_eq_false (by rw [c1]; exact Bool.false_ne_true)) ?_; wp_walk using wpAny_loadPart' hl)
      | (refine wpAny_ite_true (decide_eq_true c2) ?_; wp_walk using wpAny_loadPart' hl))
    exact ⟨_, rfl, h⟩
/-- t * k -/
def rRepN (K : PySem.W.Frag) : R2 := fun x y H Q => ∃ l k xs, x = .ref l ∧ y = .int k ∧ SqT K H l xs ∧ -1000 ≤ k ∧ k ≤ 1000 ∧ xs.length ≤ 1000 ∧ ((xs = [] ∨ k = 1) → Q (.ref l) H) ∧
  (¬ (xs = [] ∨ k = 1) → ∀ p o, H p = none → NewT o → Q (.ref p) (upd H p (.frz o (.tup (List.replicate k.toNat xs).flatten))))
theorem op_repN : OpR X (binaryOp .Mult) (rRepN X.K) := by
  intro pins s σ H x y v u Q I rx ry h
  obtain ⟨l, k, xs, rfl, rfl, hT, h1, h2, hz, q1, q2⟩ := h
  cases rx
  obtain ⟨t, rfl⟩ := ry
  obtain ⟨its, r, ⟨⟨cls, dd, data, sl⟩, ho, hc, n, hd⟩, hs⟩ := I.tuple hT
  simp only at hc hd
  subst hc hd
  have hle : its.length = xs.length := r.length.symm
  have hsz0 : its.toArray.size = xs.length := by rw [List.size_toArray, hle]
  have c0 : (decide (k < -(2 ^ 63)) || decide (k ≥ 2 ^ 63)) = false := by
    rw [decide_eq_false (by omega), decide_eq_false (by omega)] <;> rfl
  refine wpAny_binaryOp_repeat_ref (T := "tuple") (U := "int") (by decide) ⟨_, ho, rfl⟩ (fun s' => typeIs_int s' k t) noFill_tuple_mul F.fills_int_mul F.slot_int_rmul repeat_tuple F.slot_int_index.lookup
    (call_meets F.slot_int_rmul (typeIs_int s k t) F.entry_int_rmul (F.args_int_rmul_2 _ _) (int_rmul_tuple k t l its.toArray n dd sl) ⟨ho, rfl, ⟨_, ho, rfl⟩, ?_⟩)
  by_cases hsame : xs = [] ∨ k = 1
  · have c1 : (its.toArray.isEmpty || k == 1) = true := by
      rcases hsame with e | e
      · subst e
        cases r
        rfl
      · subst e
        rw [Bool.or_eq_true]
        exact .inr rfl
    exact call_meets F.slot_tuple_mul ⟨_, ho, rfl⟩ F.entry_tuple_mul (F.args_tuple_mul_2 _ _) (tuple_mul1 l its.toArray n dd sl k t c0 c1) ⟨ho, ⟨.ref l, H, I, rfl, q1 hsame⟩⟩
  · have hne : xs ≠ [] := fun e => hsame (.inl e)
    have hk1 : k ≠ 1 := fun e => hsame (.inr e)
    have hn : its ≠ [] := fun e => hne (by
      rw [e] at hle
      exact List.eq_nil_of_length_eq_zero hle.symm)
    have hi : its.toArray.isEmpty = false := by
      cases its with
      | nil => exact absurd rfl hn
      | cons a b => rfl
    have c1 : (its.toArray.isEmpty || k == 1) = false := by
      rw [hi, Bool.false_or]
      exact beq_eq_false_iff_ne.mpr hk1
    by_cases hk0 : k ≤ 0
    · have c2 : (decide (k ≤ 0) || its.toArray.isEmpty) = true := by rw [decide_eq_true hk0]; rfl
      have e0 : (List.replicate k.toNat xs).flatten = [] := by
        have : k.toNat = 0 := by omega
        rw [this]
        rfl
      rw [e0] at q2
      refine call_meets F.slot_tuple_mul ⟨_, ho, rfl⟩ F.entry_tuple_mul (F.args_tuple_mul_2 _ _) (tuple_mul0 l its.toArray n dd sl k t c0 c1 c2) ⟨ho, ?_⟩
      exact ⟨.ref s.heap.objs.size, _, I.laid (t' := s.toks) (fun b ob q => Heap.get?_push_of_some _ q) (Nat.le_refl _) (newT_ok (us := []) .nil (Nat.zero_le _)), rfl, q2 hsame _ _ (I.hok.fresh (Nat.le_refl _)) ⟨rfl, rfl⟩⟩
    · have hm : ((its.toArray.size : Nat) : Int) * k ≤ 1000000 := by
        rw [hsz0]
        have a1 : ((xs.length : Nat) : Int) * k ≤ 1000 * k := Int.mul_le_mul_of_nonneg_right (by omega) (by omega)
        omega
      have flen : (List.replicate k.toNat its).flatten.length ≤ sizeLine := by
        rw [PyProof.Rows.lm_len_rep_flat, hle, sizeLine_eq]
        have a1 : k.toNat * xs.length ≤ 1000 * 1000 := Nat.mul_le_mul (by omega) hz
        omega
      have c2 : (decide (k ≤ 0) || its.toArray.isEmpty) = false := by
        rw [hi, Bool.or_false]
        exact decide_eq_false (by omega)
      have c4 : Builtin.Tuple.tupleTooMany (((its.toArray.size : Nat) : Int) * k) = false := by
        unfold Builtin.Tuple.tupleTooMany
        rw [sizeLine_eq]
        exact decide_eq_false (by omega)
      refine call_meets F.slot_tuple_mul ⟨_, ho, rfl⟩ F.entry_tuple_mul (F.args_tuple_mul_2 _ _) (tuple_mulW l its.toArray n dd sl k t c0 c1 c2 (by omega) c4 (by rw [size_rep, List.size_toArray]; exact flen)) ⟨ho, ?_⟩
      rw [size_rep]
      refine ⟨.ref s.heap.objs.size, _, I.laid (t' := s.toks) (fun b ob q => Heap.get?_push_of_some _ q) (Nat.le_refl _) (newT_ok (r.rep k.toNat) ?_), rfl, q2 hsame _ _ (I.hok.fresh (Nat.le_refl _)) ⟨rfl, rfl⟩⟩
      rw [PyProof.Rows.lm_len_rep_flat, sizeLine_eq]
      have a1 : k.toNat * xs.length ≤ 1000 * 1000 := Nat.mul_le_mul (by omega) hz
      omega
def wMulT : W2
  | .tup xs, .int k, μ, P => -1000 ≤ k ∧ k ≤ 1000 ∧ xs.length ≤ 1000 ∧ P (.tup (List.replicate k.toNat xs).flatten) μ
  | _, _, _, _ => False
theorem mulT_rd {K : PySem.W.Frag} : R2D K (rRepN K) wMulT := by
  intro R μ H x y dx dy P Q ok ix iy w k
  cases ix with
  | @tup a xs ds hx rx => cases iy with
    | int j =>
      obtain ⟨h1, h2, h3, q⟩ := w
      refine ⟨_, j, xs, rfl, rfl, Same.seqT hid_le hx.t, h1, h2, by rw [rx.length]; exact h3, fun hs => ?_, fun hs p t n nt => k.tup nt ok q (rx.replicate _) n⟩
      have e : (List.replicate j.toNat ds).flatten = ds := by
        rcases hs with e | e
        · subst e
          cases rx
          induction j.toNat with
          | zero => rfl
          | succ m ih => rw [List.replicate_succ, List.flatten_cons, ih]; rfl
        · subst e
          show (List.replicate 1 ds).flatten = ds
          simp
      rw [e] at q
      exact k.val ok q (.tup hx rx)
    | _ => exact (show False from w).elim
  | _ => exact (show False from w).elim
theorem d_mulT {a b : Expr} {wa wb : WE} {pos : Pos} (ha : PE X a (tD X.K wa)) (hb : PE X b (tD X.K wb)) : PE X (.BinOp a .Mult b pos) (tD X.K (wBin wMulT wa wb)) := d_op op_repN mulT_rd ha hb
end
end Dz

set_option Elab.async false
set_option linter.all false
set_option maxRecDepth 100000
set_option maxHeartbeats 2000000
/-! DzZf: objects that change no more, anywhere within a value, are plain data. -/
namespace Dz
open PySem L2

mutual
/-- the data x in place of the object at a -/
def subD (a : Addr) (x : DV) : DV → DV
  | .obj b => if b = a then x else .obj b
  | .tup ds => .tup (subDs a x ds)
  | .lst ds => .lst (subDs a x ds)
  | .dct kvs => .dct (subKv a x kvs)
  | .fix ds => .fix ds
  | .none => .none
  | .bool b => .bool b
  | .int i => .int i
  | .str s => .str s
def subDs (a : Addr) (x : DV) : List DV → List DV
  | [] => []
  | d :: ds => subD a x d :: subDs a x ds
def subKv (a : Addr) (x : DV) : List (Key × DV) → List (Key × DV)
  | [] => []
  | (k, d) :: ds => (k, subD a x d) :: subKv a x ds
end
theorem subKv_keys (a : Addr) (x : DV) : ∀ kvs : List (Key × DV), (subKv a x kvs).map (·.1) = kvs.map (·.1)
  | [] => rfl
  | (k, d) :: r => by rw [subKv, List.map_cons, List.map_cons, subKv_keys a x r]
theorem subKv_vals (a : Addr) (x : DV) : ∀ kvs : List (Key × DV), (subKv a x kvs).map (·.2) = subDs a x (kvs.map (·.2))
  | [] => by rw [List.map_nil, subDs]; rfl
  | (k, d) :: r => by rw [subKv, List.map_cons, List.map_cons, subDs, subKv_vals a x r]
mutual
theorem Is.sub {K : PySem.W.Frag} {H : Hp} {a : Addr} {x : DV} (hx : Is K H (.ref a) x) : ∀ {v : V} {d : DV}, Is K H v d → Is K H v (subD a x d)
  | _, _, .none => .none
  | _, _, .bool b => .bool b
  | _, _, .int i => .int i
  | _, _, .str s => .str s
  | _, _, .tup h r => by rw [subD]; exact .tup h (Iss.sub hx r)
  | _, _, .lst h r => by rw [subD]; exact .lst h (Iss.sub hx r)
  | _, _, .dct h k r => by
    rw [subD]
    exact .dct h (by rw [subKv_keys]; exact k) (by rw [subKv_vals]; exact Iss.sub hx r)
  | _, _, .obj b => by
    rw [subD]
    by_cases e : b = a
    · rw [if_pos e]
      subst e
      exact hx
    · rw [if_neg e]
      exact .obj b
  | _, _, .fix h r => .fix h r
theorem Iss.sub {K : PySem.W.Frag} {H : Hp} {a : Addr} {x : DV} (hx : Is K H (.ref a) x) : ∀ {vs : List V} {ds : List DV}, Iss K H vs ds → Iss K H vs (subDs a x ds)
  | _, _, .nil => .nil
  | _, _, .cons h r => .cons (Is.sub hx h) (Iss.sub hx r)
end
/-- the objects at as are let go, one behind the other -/
def frzL : List Addr → DV → Mh → (DV → Mh → Prop) → Prop
  | [], d, μ, P => P d μ
  | a :: as, d, μ, P => match μ a with
    | some (.lst ds) => frzL as (subD a (.lst ds) d) (delM μ a) P
    | some (.dct kvs) => frzL as (subD a (.dct kvs) d) (delM μ a) P
    | _ => False
/-- e, in which objects, as one likes, are data from here on -/
def wFrzX (w : WE) : WE := fun ρ μ P => w ρ μ fun d μ1 => ∃ as, frzL as d μ1 P
theorem frzL_imp {K : PySem.W.Frag} {R : Hp} {H : Hp} {Q : VK} {v : V} {P : DV → Mh → Prop} : ∀ (as : List Addr) (d : DV) (μ0 : Mh) (H0 : Hp) (μ : Mh), Nxt K R μ0 H0 P Q → Ok K R μ H → Same (hid R μ0 H0) (hid R μ H) → Is K (hid R μ H) v d → frzL as d μ P → Q v H
  | [], d, μ0, H0, μ, k, o, s, i, p => k _ _ _ _ p o s i
  | a :: as, d, μ0, H0, μ, k, o, s, i, p => by
    have p2 : (match μ a with | some (.lst ds) => frzL as (subD a (.lst ds) d) (delM μ a) P | some (.dct kvs) => frzL as (subD a (.dct kvs) d) (delM μ a) P | _ => False) := p
    split at p2
    · rename_i ds e
      obtain ⟨xs, h1, r⟩ := o.ob a _ e
      obtain ⟨o2, s2, e2⟩ := o.free e (by intro z; cases z)
      exact frzL_imp as _ μ0 H0 _ k o2 (s.trans s2) (Is.sub (.lst (e2.trans h1) (r.mono s2)) (i.mono s2)) p2
    · rename_i ds e
      obtain ⟨xs, h1, q, r⟩ := o.ob a _ e
      obtain ⟨o2, s2, e2⟩ := o.free e (by intro z; cases z)
      exact frzL_imp as _ μ0 H0 _ k o2 (s.trans s2) (Is.sub (.dct (e2.trans h1) q (r.mono s2)) (i.mono s2)) p2
    · exact p2.elim
theorem d_frzX {X : Cx} {e : Expr} {w : WE} (h : PE X e (tD X.K w)) : PE X e (tD X.K (wFrzX w)) :=
  PE.imp h fun σ H Q ⟨R, ρ, μ, P, a, w, k⟩ => ⟨R, ρ, μ, _, a, w, fun x μ1 v H1 ⟨as, p1⟩ o1 s1 i1 => frzL_imp as x μ H μ1 k o1 s1 i1 p1⟩
end Dz

set_option Elab.async false
set_option linter.all false
set_option maxRecDepth 100000
set_option maxHeartbeats 2000000
/-! DzH: dicts whose keys are tuples, of any depth: {}, d[k], d[k] = v, k in d. -/
namespace Dz
open PySem PySem.Spec L2 PyProof.Rows

section
variable {X : Cx} {pins : List (Addr × Obj)} {σ : L2.St} {H Hm : Hp} {s : Shared}
mutual
theorem nkey_is (I : Inv X pins σ H s) (sm : Same Hm H) : ∀ {v : V} {d : DV} {k : NestedKey} {u : Value}, Is X.K Hm v d → nkey d = some k → RelV v u → NestedIs s.heap k u
  | _, _, _, _, .none, e, r => by
    cases e
    obtain rfl := (show _ = Value.none from r)
    exact .none
  | _, _, _, _, .int i, e, r => by
    cases e
    obtain ⟨t, rfl⟩ := (show ∃ t, _ = Value.int i t from r)
    exact .int i t
  | _, _, _, _, .str x, e, r => by
    cases e
    obtain ⟨t, rfl⟩ := (show ∃ t, _ = Value.str x t from r)
    exact .text x t
  | _, _, _, _, .tup (a := a) (ds := ds) hx rx, e, r => by
    have e : (nkeys ds).map NestedKey.tup = some _ := e
    obtain ⟨ks, h1, h2⟩ := Option.map_eq_some_iff.mp e
    subst h2
    obtain rfl := (show _ = Value.ref a from r)
    obtain ⟨its, r', ⟨o, g1, g2, n, g3⟩, _⟩ := I.tuple (Same.seqT sm hx.t)
    exact .tup g1 g2 g3 (nkeys_is I sm rx h1 (by simpa using r'))
  | _, _, _, _, .bool b, e, _ => by cases e
  | _, _, _, _, .lst _ _, e, _ => by cases e
  | _, _, _, _, .dct _ _ _, e, _ => by cases e
  | _, _, _, _, .obj _, e, _ => by cases e
  | _, _, _, _, .fix _ _, e, _ => by cases e
theorem nkeys_is (I : Inv X pins σ H s) (sm : Same Hm H) : ∀ {vs : List V} {ds : List DV} {ks : List NestedKey} {us : List Value}, Iss X.K Hm vs ds → nkeys ds = some ks → Vals vs us → NestedAll s.heap ks us
  | _, _, _, _, .nil, e, r => by
    cases e
    cases r
    exact .nil
  | _, _, _, _, .cons (d := d) (ds := ds) h rs, e, r => by
    cases r with
    | cons r1 r2 =>
      have e : (match nkey d, nkeys ds with | some k, some ks => some (k :: ks) | _, _ => none) = some _ := e
      cases h1 : nkey d with
      | none => rw [h1] at e; cases e
      | some k =>
        cases h2 : nkeys ds with
        | none => rw [h1, h2] at e; cases e
        | some ks =>
          rw [h1, h2] at e
          cases e
          exact .cons (nkey_is I sm h h1 r1) (nkeys_is I sm rs h2 r2)
end
abbrev KN (X : Cx) : HeapKind X.prog X.w NestedKey := nestedKind X.prog X.w
abbrev hsOf (X : Cx) : NestedKey → Int := fun k => k.hash X.w
/-- the dict at a, its keys and values -/
structure NDict (K : PySem.W.Frag) (hs : NestedKey → Int) (Hm H : Hp) (a : Addr) (es : List (NestedKey × Addr × V)) : Prop where
  at_ : H a = some (rawN a hs es)
  keys : ∀ e ∈ es, e.1.depth ≤ 8 ∧ ∃ d, Is K Hm (.ref e.2.1) d ∧ nkey d = some e.1
  nd : (es.map (·.1)).Nodup
abbrev xsOf (es : List (NestedKey × Addr × V)) (xs : List (NestedKey × Addr × Value)) : Prop := xs.map (fun x => (x.1, x.2.1)) = es.map (fun e => (e.1, e.2.1)) ∧ Vals (es.map (·.2.2)) (xs.map (·.2.2))
theorem NDict.dict {a : Addr} {es : List (NestedKey × Addr × V)} (n : NDict X.K (hsOf X) Hm H a es) (I : Inv X pins σ H s) (sm : Same Hm H) :
    es.length ≤ sizeLine ∧ (a == sysModules) = false ∧ ∃ xs, xsOf es xs ∧ s.heap.DictOfH (KN X) a xs := by
  obtain ⟨⟨h1, h2, xs, h3, h4, o, ds, ep, g1, g2, g3, g4⟩, _, _⟩ := (show ObjOk X.prog X.w H s.heap a (rawN a (hsOf X) es) from I.hok a _ n.at_)
  have hk : xs.map (·.1) = es.map (·.1) := by
    have := congrArg (List.map Prod.fst) h3
    rw [List.map_map, List.map_map] at this
    exact this
  refine ⟨h1, h2, xs, ⟨h3, h4⟩, o, ds, ep, g1, g2, g3, g4, fun x hx => ?_, by rw [hk]; exact n.nd⟩
  have hm : (x.1, x.2.1) ∈ es.map (fun e => (e.1, e.2.1)) := by
    rw [← h3]
    exact List.mem_map.mpr ⟨x, hx, rfl⟩
  obtain ⟨e, he, ee⟩ := List.mem_map.mp hm
  have e1 : e.1 = x.1 := congrArg Prod.fst ee
  have e2 : e.2.1 = x.2.1 := congrArg Prod.snd ee
  obtain ⟨z, d, i, nk⟩ := n.keys e he
  refine ⟨?_, by rw [← e1]; exact z⟩
  rw [← e1, ← e2]
  exact nkey_is I sm i nk rfl
def lkE (es : List (NestedKey × Addr × V)) (k : NestedKey) : Option V := (es.find? fun e => decide (e.1 = k)).map (·.2.2)
theorem xsOf.at {k : NestedKey} : ∀ {es : List (NestedKey × Addr × V)} {xs : List (NestedKey × Addr × Value)}, xsOf es xs → RelO (lkE es k) ((atKey xs k).map (·.2))
  | [], [], _ => trivial
  | [], _ :: _, h => by have := congrArg List.length h.1; simp at this
  | _ :: _, [], h => by have := congrArg List.length h.1; simp at this
  | e :: es, x :: xs, h => by
    obtain ⟨h1, h2⟩ := h
    rw [List.map_cons, List.map_cons] at h1 h2
    injection h1 with h3 h4
    cases h2 with
    | cons r1 r2 =>
      have ek : x.1 = e.1 := congrArg Prod.fst h3
      unfold lkE atKey
      rw [List.find?_cons, List.find?_cons, ek]
      cases decide (e.1 = k) with
      | true => exact r1
      | false => exact xsOf.at (k := k) ⟨h4, r2⟩
def putE (es : List (NestedKey × Addr × V)) (k : NestedKey) (b : Addr) (v : V) : List (NestedKey × Addr × V) :=
  if (lkE es k).isSome then es.map fun e => if e.1 = k then (e.1, e.2.1, v) else e else es ++ [(k, b, v)]
theorem xsOf.put {k : NestedKey} {b : Addr} {v : V} {u : Value} (r : RelV v u) {es : List (NestedKey × Addr × V)} {xs : List (NestedKey × Addr × Value)} (h : xsOf es xs) : xsOf (putE es k b v) (storedH xs k b u) := by
  have hs : (lkE es k).isSome = (atKey xs k).isSome := by
    have := h.at (k := k)
    cases e1 : lkE es k <;> cases e2 : atKey xs k <;> rw [e1, e2] at this <;> first | rfl | exact this.elim
  unfold putE storedH
  rw [← hs]
  by_cases c : (lkE es k).isSome = true
  · rw [if_pos c, if_pos c]
    clear hs c
    have go : ∀ {es : List (NestedKey × Addr × V)} {xs : List (NestedKey × Addr × Value)}, xsOf es xs → xsOf (es.map fun e => if e.1 = k then (e.1, e.2.1, v) else e) (xs.map (putAt k u)) := by
      intro es
      induction es with
      | nil =>
        intro xs h
        cases xs with
        | nil => exact h
        | cons x xs => have := congrArg List.length h.1; simp at this
      | cons e es ih =>
        intro xs h
        cases xs with
        | nil => have := congrArg List.length h.1; simp at this
        | cons x xs =>
          obtain ⟨h1, h2⟩ := h
          rw [List.map_cons, List.map_cons] at h1 h2
          injection h1 with h3 h4
          cases h2 with
          | cons r1 r2 =>
            obtain ⟨i1, i2⟩ := ih ⟨h4, r2⟩
            have ek : x.1 = e.1 := congrArg Prod.fst h3
            have ea : x.2.1 = e.2.1 := congrArg Prod.snd h3
            refine ⟨?_, ?_⟩
            · rw [List.map_cons, List.map_cons, List.map_cons, List.map_cons, i1]
              congr 1
              unfold putAt
              rw [ek]
              split
              · rw [ea]
              · rw [ek, ea]
            · rw [List.map_cons, List.map_cons, List.map_cons, List.map_cons]
              refine .cons ?_ i2
              unfold putAt
              rw [ek]
              split
              · exact r
              · exact r1
    exact go h
  · rw [if_neg c, if_neg c]
    refine ⟨?_, ?_⟩
    · rw [List.map_append, List.map_append, h.1]
      rfl
    · rw [List.map_append, List.map_append]
      exact h.2.append (.cons r .nil)
variable {a b : Addr} {es : List (NestedKey × Addr × V)} {k : NestedKey} {d : DV} {A : Around} {E : Value → Shared → Prop}
theorem n_get {v : V} {Q : Value → Shared → Prop} (hu : A.in1.units + 8 < cLine) (I : Inv X pins σ H s) (sm : Same Hm H) (n : NDict X.K (hsOf X) Hm H a es) (ik : Is X.K Hm (.ref b) d) (nk : nkey d = some k) (hk : k.depth ≤ 8) (l : lkE es k = some v)
    (h : ∀ w' s', Inv X pins σ H s' → RelV v w' → Q w' s') : wpAny (model X.prog X.w) A (getItem (.ref a) (.ref b)) Q E s := by
  obtain ⟨_, _, xs, hx, dd⟩ := n.dict I sm
  have r := hx.at (k := k)
  rw [l] at r
  cases e : atKey xs k with
  | none => rw [e] at r; exact r.elim
  | some p =>
    rw [e] at r
    exact wpAny_getItem_heap (knd := KN X) hu ⟨nkey_is I sm ik nk rfl, hk⟩ dd e (h p.2 _ (I.tok _) r)
theorem n_in {Q : Value → Shared → Prop} (hu : A.in1.units + 8 < cLine) (I : Inv X pins σ H s) (sm : Same Hm H) (n : NDict X.K (hsOf X) Hm H a es) (ik : Is X.K Hm (.ref b) d) (nk : nkey d = some k) (hk : k.depth ≤ 8)
    (h : ∀ s', Inv X pins σ H s' → Q (.bool (lkE es k).isSome) s') : wpAny (model X.prog X.w) A (compareOp .In (.ref b) (.ref a)) Q E s := by
  obtain ⟨_, hd, xs, hx, dd⟩ := n.dict I sm
  have hs : (lkE es k).isSome = (atKey xs k).isSome := by
    have := hx.at (k := k)
    cases e1 : lkE es k <;> cases e2 : atKey xs k <;> rw [e1, e2] at this <;> first | rfl | exact this.elim
  refine wpAny_in_heap (knd := KN X) hu ⟨nkey_is I sm ik nk rfl, hk⟩ hd dd ?_
  rw [← hs]
  exact h _ (I.tok _)
theorem n_notIn {Q : Value → Shared → Prop} (hu : A.in1.units + 8 < cLine) (I : Inv X pins σ H s) (sm : Same Hm H) (n : NDict X.K (hsOf X) Hm H a es) (ik : Is X.K Hm (.ref b) d) (nk : nkey d = some k) (hk : k.depth ≤ 8)
    (h : ∀ s', Inv X pins σ H s' → Q (.bool (!(lkE es k).isSome)) s') : wpAny (model X.prog X.w) A (compareOp .NotIn (.ref b) (.ref a)) Q E s := by
  obtain ⟨_, hd, xs, hx, dd⟩ := n.dict I sm
  have hs : (lkE es k).isSome = (atKey xs k).isSome := by
    have := hx.at (k := k)
    cases e1 : lkE es k <;> cases e2 : atKey xs k <;> rw [e1, e2] at this <;> first | rfl | exact this.elim
  refine wpAny_notIn_heap (knd := KN X) hu ⟨nkey_is I sm ik nk rfl, hk⟩ hd dd ?_
  rw [← hs]
  exact h _ (I.tok _)
theorem putE_len (es : List (NestedKey × Addr × V)) (k : NestedKey) (b : Addr) (v : V) : (putE es k b v).length ≤ es.length + 1 := by
  unfold putE
  split
  · rw [List.length_map]; omega
  · rw [List.length_append, List.length_singleton]; exact Nat.le_refl _
/-- d[k] = v -/
theorem n_set {v : V} {u : Value} {Q : Unit → Shared → Prop} (hu : A.in1.units + 8 < cLine) (I : Inv X pins σ H s) (sm : Same Hm H) (n : NDict X.K (hsOf X) Hm H a es) (ik : Is X.K Hm (.ref b) d) (nk : nkey d = some k) (hk : k.depth ≤ 8) (rv : RelV v u) (hl : es.length < sizeLine)
    (h : ∀ s', Inv X pins σ (upd H a (rawN a (hsOf X) (putE es k b v))) s' → Q () s') : wpAny (model X.prog X.w) A (setItem (.ref a) (.ref b) u) Q E s := by
  obtain ⟨_, hd, xs, hx, dd⟩ := n.dict I sm
  have hxl : xs.length = es.length := by
    have := congrArg List.length hx.1
    rw [List.length_map, List.length_map] at this
    exact this
  refine wpAny_setItem_heap (knd := KN X) (hsz := by rw [hxl]; omega) hu ⟨nkey_is I sm ik nk rfl, hk⟩ dd fun h' dd' hs => h _ ?_
  obtain ⟨q, ds, ep, hq, h2, h3, h4, _, h5⟩ := dd'
  have hp := hx.put (k := k) (b := b) rv
  refine d_write I (by rw [n.at_]; exact True.intro) hs ⟨q, hq⟩ ⟨⟨?_, hd, storedH xs k b u, hp.1, hp.2, q, ds, ep, hq, h2, h3, h4⟩, ⟨q, hq⟩, ?_⟩
  · have := putE_len es k b v
    omega
  · rintro h1 h2' ⟨z1, z2, xs', z3, z4, o, ds', ep', z5, z6⟩ keep
    exact ⟨z1, z2, xs', z3, z4, o, ds', ep', keep o z5, z6⟩
end
end Dz

set_option Elab.async false
set_option linter.all false
set_option maxRecDepth 100000
set_option maxHeartbeats 2000000
/-! DzH2: the rules for dicts whose keys are tuples. -/
namespace Dz
open PySem PySem.Spec L2 PyProof.Rows

def lkN (kvs : List (NestedKey × DV)) (k : NestedKey) : Option DV := (kvs.find? fun e => decide (e.1 = k)).map (·.2)
def putN (kvs : List (NestedKey × DV)) (k : NestedKey) (d : DV) : List (NestedKey × DV) := if (lkN kvs k).isSome then kvs.map fun e => if e.1 = k then (e.1, d) else e else kvs ++ [(k, d)]
/-- a key: a tuple of data, not too deep -/
def keyN (y : DV) (P : NestedKey → Prop) : Prop := match y with
  | .tup ds => match nkeys ds with
    | some ks => (NestedKey.tup ks).depth ≤ 8 ∧ P (.tup ks)
    | none => False
  | _ => False
section
variable {K : PySem.W.Frag} {Hm : Hp}
theorem keyN_of {u : V} {y : DV} {P : NestedKey → Prop} (i : Is K Hm u y) (h : keyN y P) : ∃ b k, u = .ref b ∧ nkey y = some k ∧ k.depth ≤ 8 ∧ P k := by
  cases i with
  | @tup b xs ds hx rx =>
    have h : (match nkeys ds with | some ks => (NestedKey.tup ks).depth ≤ 8 ∧ P (.tup ks) | none => False) := h
    cases e : nkeys ds with
    | none => rw [e] at h; exact h.elim
    | some ks =>
      rw [e] at h
      refine ⟨b, .tup ks, rfl, ?_, h.1, h.2⟩
      show (nkeys ds).map NestedKey.tup = _
      rw [e]
      rfl
  | _ => exact (show False from h).elim
theorem lk_rel {k : NestedKey} : ∀ {es : List (NestedKey × Addr × V)} {kvs : List (NestedKey × DV)}, es.map (·.1) = kvs.map (·.1) → Iss K Hm (es.map (·.2.2)) (kvs.map (·.2)) → (lkE es k = none ∧ lkN kvs k = none) ∨ ∃ v d, lkE es k = some v ∧ lkN kvs k = some d ∧ Is K Hm v d
  | [], [], _, _ => .inl ⟨rfl, rfl⟩
  | [], _ :: _, h, _ => by cases h
  | _ :: _, [], h, _ => by cases h
  | e :: es, x :: kvs, h, r => by
    rw [List.map_cons, List.map_cons] at h r
    injection h with h1 h2
    cases r with
    | cons r1 r2 =>
      unfold lkE lkN
      rw [List.find?_cons, List.find?_cons, h1]
      cases decide (x.1 = k) with
      | true => exact .inr ⟨_, _, rfl, rfl, r1⟩
      | false => exact lk_rel h2 r2
theorem put_rel {k : NestedKey} {b : Addr} {v : V} {d : DV} (i : Is K Hm v d) {es : List (NestedKey × Addr × V)} {kvs : List (NestedKey × DV)} (h : es.map (·.1) = kvs.map (·.1)) (r : Iss K Hm (es.map (·.2.2)) (kvs.map (·.2))) :
    (putE es k b v).map (·.1) = (putN kvs k d).map (·.1) ∧ Iss K Hm ((putE es k b v).map (·.2.2)) ((putN kvs k d).map (·.2)) := by
  have hs : (lkE es k).isSome = (lkN kvs k).isSome := by
    rcases lk_rel (k := k) h r with ⟨h1, h2⟩ | ⟨_, _, h1, h2, _⟩ <;> rw [h1, h2] <;> rfl
  unfold putE putN
  rw [← hs]
  by_cases c : (lkE es k).isSome = true
  · rw [if_pos c, if_pos c]
    clear hs c
    induction es generalizing kvs with
    | nil => cases kvs with
      | nil => exact ⟨rfl, .nil⟩
      | cons _ _ => cases h
    | cons e es ih => cases kvs with
      | nil => cases h
      | cons x kvs =>
        rw [List.map_cons, List.map_cons] at h r
        injection h with h1 h2
        cases r with
        | cons r1 r2 =>
          obtain ⟨i1, i2⟩ := ih h2 r2
          refine ⟨?_, ?_⟩
          · rw [List.map_cons, List.map_cons, List.map_cons, List.map_cons, i1]
            congr 1
            rw [h1]
            split
            · rfl
            · exact h1
          · rw [List.map_cons, List.map_cons, List.map_cons, List.map_cons]
            refine .cons ?_ i2
            rw [h1]
            split
            · exact i
            · exact r1
  · rw [if_neg c, if_neg c]
    refine ⟨?_, ?_⟩
    · rw [List.map_append, List.map_append, h]
      rfl
    · rw [List.map_append, List.map_append]
      exact r.append (.cons i .nil)
theorem put_keys {k : NestedKey} {b : Addr} {v : V} {y : DV} (ib : Is K Hm (.ref b) y) (nk : nkey y = some k) (hk : k.depth ≤ 8) {es : List (NestedKey × Addr × V)} (h : ∀ e ∈ es, e.1.depth ≤ 8 ∧ ∃ d, Is K Hm (.ref e.2.1) d ∧ nkey d = some e.1) (nd : (es.map (·.1)).Nodup) :
    (∀ e ∈ putE es k b v, e.1.depth ≤ 8 ∧ ∃ d, Is K Hm (.ref e.2.1) d ∧ nkey d = some e.1) ∧ ((putE es k b v).map (·.1)).Nodup := by
  unfold putE
  by_cases c : (lkE es k).isSome = true
  · rw [if_pos c]
    refine ⟨fun e he => ?_, ?_⟩
    · obtain ⟨x, hx, rfl⟩ := List.mem_map.mp he
      have := h x hx
      split
      · exact this
      · exact this
    · rw [List.map_map]
      have : es.map ((fun e => e.1) ∘ fun e => if e.1 = k then (e.1, e.2.1, v) else e) = es.map (·.1) := List.map_congr_left fun e _ => by
        show (if e.1 = k then (e.1, e.2.1, v) else e).1 = e.1
        split <;> rfl
      rw [this]
      exact nd
  · rw [if_neg c]
    refine ⟨fun e he => ?_, ?_⟩
    · rcases List.mem_append.mp he with he | he
      · exact h e he
      · rw [List.mem_singleton] at he
        rw [he]
        exact ⟨hk, y, ib, nk⟩
    · rw [List.map_append]
      refine List.nodup_append.mpr ⟨nd, List.pairwise_singleton _ _, fun x hx z hz e => ?_⟩
      rw [List.map_cons, List.map_nil, List.mem_singleton] at hz
      obtain ⟨w, hw, rfl⟩ := List.mem_map.mp hx
      refine c ?_
      have e2 : w.1 = k := e.trans hz
      unfold lkE
      rw [Option.isSome_map, List.find?_isSome]
      exact ⟨w, hw, decide_eq_true e2⟩
end
/-- the dict x at the key y -/
def nAt (hs : NestedKey → Int) (μ : Mh) (x y : DV) (T : Addr → List (NestedKey × DV) → NestedKey → Prop) : Prop := match x with
  | .obj a => match μ a with
    | some (.dcN hs' kvs) => hs' = hs ∧ keyN y fun k => T a kvs k
    | _ => False
  | _ => False
/-- d[k]: there -/
def wNGet (hs : NestedKey → Int) : W2 := fun x y μ P => nAt hs μ x y fun _ kvs k => atW (lkN kvs k) fun d => P d μ
def wNPut (hs : NestedKey → Int) (wd wk wv : WE) : WS := fun E ρ μ => wv ρ μ fun v μ1 => wd ρ μ1 fun x μ2 => wk ρ μ2 fun y μ3 => nAt hs μ3 x y fun a kvs k => kvs.length < sizeLine ∧ E.nx ρ (updM μ3 a (.dcN hs (putN kvs k v)))
def wInN (hs : NestedKey → Int) : W2 := fun y x μ P => nAt hs μ x y fun _ kvs k => P (.bool (lkN kvs k).isSome) μ
def wNotInN (hs : NestedKey → Int) : W2 := fun y x μ P => nAt hs μ x y fun _ kvs k => P (.bool (!(lkN kvs k).isSome)) μ
def wDctN0 (hs : NestedKey → Int) : WE := fun _ μ P => ∀ p, μ p = none → P (.obj p) (updM μ p (.dcN hs []))
theorem n_core {K : PySem.W.Frag} {hs : NestedKey → Int} {R : Hp} {μ : Mh} {H : Hp} {v u : V} {x y : DV} {T : Addr → List (NestedKey × DV) → NestedKey → Prop} (o : Ok K R μ H) (i : Is K (hid R μ H) v x) (j : Is K (hid R μ H) u y) (w : nAt hs μ x y T) :
    ∃ a b es kvs k, v = .ref a ∧ u = .ref b ∧ μ a = some (.dcN hs kvs) ∧ NDict K hs (hid R μ H) H a es ∧ es.map (·.1) = kvs.map (·.1) ∧ Iss K (hid R μ H) (es.map (·.2.2)) (kvs.map (·.2)) ∧ nkey y = some k ∧ k.depth ≤ 8 ∧ T a kvs k := by
  cases i with
  | obj a =>
    have w2 : (match μ a with | some (.dcN hs' kvs) => hs' = hs ∧ keyN y fun k => T a kvs k | _ => False) := w
    split at w2
    · rename_i hs' kvs e
      obtain ⟨e0, w3⟩ := w2
      subst e0
      obtain ⟨b, k, rfl, nk, hk, t⟩ := keyN_of j w3
      obtain ⟨es, h1, h2, h3, h4, h5⟩ := o.ob a _ e
      exact ⟨a, b, es, kvs, k, rfl, rfl, e, ⟨h1, h2, h3⟩, h4, h5, nk, hk, t⟩
    · exact w2.elim
  | _ => exact (show False from w).elim
section
variable {X : Cx} {oe ke ve : Expr} {pos apos : Pos} {wo wk wv : WE} {o i value : Expr} {td ty tv : TE}
/-- what is asked of a dict and a key -/
def NHas (X : Cx) (H : Hp) (x y : V) (T : Addr → Addr → List (NestedKey × Addr × V) → NestedKey → Prop) : Prop := ∃ a b Hm es d k, x = .ref a ∧ y = .ref b ∧ Same Hm H ∧ NDict X.K (hsOf X) Hm H a es ∧ Is X.K Hm (.ref b) d ∧ nkey d = some k ∧ k.depth ≤ 8 ∧ T a b es k
theorem pe_nget (hu : X.A.units + 9 < cLine) (ho : PE X o td) (hi : PE X i ty) (hs : NoSl i) : PE X (.Subscript o i pos) (fun σ H Q => td σ H fun x H1 => ty σ H1 fun y H2 => NHas X H2 x y fun _ _ es k => ∃ v, lkE es k = some v ∧ Q v H2) := by
  refine ⟨fun pins s σ H Q I h => ?_⟩
  refine subD_of PySem.F.slot_dict_getitem.lookup hs (thn (ho.run pins s σ H _ I h) fun u s1 ⟨x, H1, I1, rx, q1⟩ => thn (hi.run pins s1 σ H1 _ I1 q1) fun iv s2 ⟨y, H2, I2, ry, a, b, Hm, es, d, k, ex, ey, sm, n, ik, nk, hk, v, l, q2⟩ => ?_)
  subst ex ey
  obtain rfl : u = Value.ref a := rx
  obtain rfl : iv = Value.ref b := ry
  obtain ⟨_, _, xs, _, dd⟩ := n.dict I2 sm
  exact ⟨dd.typeIs, n_get (by show X.A.units + 1 + 8 < _; omega) I2 sm n ik nk hk l fun w' s3 I3 rw' => ⟨v, H2, I3, rw', q2⟩⟩
theorem ps_nput {pos' : Pos} (hu : X.A.units + 9 < cLine) (ho : PE X o td) (hi : PE X i ty) (hv : PE X value tv) (hs : swapsWith value (some (.Subscript o i pos')) pos.line X.env = pure false) :
    PS X (.Assign [.Subscript o i pos'] value pos) (fun D σ H => tv σ H fun v H1 => td σ H1 fun x H2 => ty σ H2 fun y H3 => NHas X H3 x y fun a b es k => es.length < sizeLine ∧ D.nx σ (upd H3 a (rawN a (hsOf X) (putE es k b v)))) := by
  refine ⟨fun pins s σ H D I h => ?_⟩
  refine wpAny_Assign_Subscript (thn (hv.run pins s σ H _ I h) fun r s1 ⟨v, H1, I1, rv, q1⟩ => thn (ho.run pins s1 σ H1 _ I1 q1) fun u s2 ⟨x, H2, I2, rx, q2⟩ => thn (hi.run pins s2 σ H2 _ I2 q2) fun iv s3 ⟨y, H3, I3, ry, a, b, Hm, es, d, k, ex, ey, sm, n, ik, nk, hk, hl, q3⟩ => ?_) hs
  subst ex ey
  obtain rfl : u = Value.ref a := rx
  obtain rfl : iv = Value.ref b := ry
  exact n_set (by show X.A.units + 1 + 8 < _; omega) I3 sm n ik nk hk rv hl fun s4 I4 => ⟨σ, _, I4, q3⟩
theorem op_inN (hu : X.A.units + 9 < cLine) : OpR X (compareOp .In) (fun y x H Q => NHas X H x y fun _ _ es k => Q (.bl (lkE es k).isSome) H) := by
  intro pins s σ H y x v u Q I ry rx ⟨a, b, Hm, es, d, k, ex, ey, sm, n, ik, nk, hk, q⟩
  subst ex ey
  cases rx
  cases ry
  exact n_in (by show X.A.units + 1 + 8 < _; omega) I sm n ik nk hk fun s' I' => ⟨.bl _, H, I', rfl, q⟩
theorem op_notInN (hu : X.A.units + 9 < cLine) : OpR X (compareOp .NotIn) (fun y x H Q => NHas X H x y fun _ _ es k => Q (.bl (!(lkE es k).isSome)) H) := by
  intro pins s σ H y x v u Q I ry rx ⟨a, b, Hm, es, d, k, ex, ey, sm, n, ik, nk, hk, q⟩
  subst ex ey
  cases rx
  cases ry
  exact n_notIn (by show X.A.units + 1 + 8 < _; omega) I sm n ik nk hk fun s' I' => ⟨.bl _, H, I', rfl, q⟩
theorem d_nget {k : Nat} (hr : Room k X.A) (ho : PE X oe (tD X.K wo)) (hi : PE X ke (tD X.K wk)) (hs : NoSl ke := by exact fun _ _ => rfl) : PE X (.Subscript oe ke pos) (tD X.K (wBin (wNGet (hsOf X)) wo wk)) :=
  PE.imp (pe_nget (by have := hr.un; omega) ho hi hs) fun σ H Q ⟨R, ρ, μ, P, a, w, k⟩ => ⟨R, ρ, μ, _, a, w, fun x μ1 v H1 p1 o1 s1 i1 => ⟨R, ρ, μ1, _, a.step o1 s1, p1, fun y μ2 u H2 p2 o2 s2 i2 => by
    obtain ⟨a', b, es, kvs, key, rfl, rfl, e, n, h4, h5, nk, hk, t⟩ := n_core o2 (i1.mono s2) i2 p2
    obtain ⟨d, h6, p3⟩ := atW_of t
    rcases lk_rel (k := key) h4 h5 with ⟨_, z⟩ | ⟨vv, dd, z1, z2, iv⟩
    · rw [z] at h6; cases h6
    · rw [z2] at h6
      cases h6
      exact ⟨a', b, _, es, y, key, rfl, rfl, hid_le, n, i2, nk, hk, vv, z1, (k.step (s1.trans s2)).val o2 p3 iv⟩⟩⟩
theorem ds_nput {k : Nat} {pos' : Pos} {wd : WE} (hr : Room k X.A) (ho : PE X oe (tD X.K wd)) (hi : PE X ke (tD X.K wk)) (hv : PE X ve (tD X.K wv)) (hs : swapsWith ve (some (.Subscript oe ke pos')) pos.line X.env = pure false := by rfl) : PS X (.Assign [.Subscript oe ke pos'] ve pos) (tDS X.K (wNPut (hsOf X) wd wk wv)) :=
  PS.imp (ps_nput (by have := hr.un; omega) ho hi hv hs) fun D σ H ⟨R, ρ, μ, E, a, w, k⟩ => ⟨R, ρ, μ, _, a, w, fun v μ1 vv H1 p1 o1 s1 i1 => ⟨R, ρ, μ1, _, a.step o1 s1, p1, fun x μ2 xv H2 p2 o2 s2 i2 => ⟨R, ρ, μ2, _, a.step o2 (s1.trans s2), p2, fun y μ3 yv H3 p3 o3 s3 i3 => by
    obtain ⟨a', b, es, kvs, key, rfl, rfl, e, n, h4, h5, nk, hk, hl, w3⟩ := n_core o3 (i2.mono s3) i3 p3
    obtain ⟨q1, q2⟩ := put_rel (k := key) (b := b) (i1.mono (s2.trans s3)) h4 h5
    obtain ⟨q3, q4⟩ := put_keys (v := vv) i3 nk hk n.keys n.nd
    obtain ⟨o4, e4⟩ := o3.setM (o := rawN a' (hsOf X) (putE es key b vv)) (m := .dcN (hsOf X) (putN kvs key v)) e (by intro z; cases z) ⟨_, upd_same, q3, q4, q1, q2⟩
    have hlen : es.length = kvs.length := by have := congrArg List.length h4; simpa using this
    refine ⟨a', b, _, es, y, key, rfl, rfl, hid_le, n, i3, nk, hk, by rw [hlen]; exact hl, k.nx ρ _ σ _ w3 ⟨o4, ?_⟩ ?_⟩
    · rw [e4]
      exact a.sl.mono ((s1.trans s2).trans s3)
    · rw [e4]
      exact (s1.trans s2).trans s3⟩⟩⟩
theorem inN_rd : R2D X.K (fun y x H Q => NHas X H x y fun _ _ es k => Q (.bl (lkE es k).isSome) H) (wInN (hsOf X)) := by
  intro R μ H y x dy dx P Q ok iy ix w k
  obtain ⟨a', b, es, kvs, key, rfl, rfl, e, n, h4, h5, nk, hk, t⟩ := n_core ok ix iy w
  refine ⟨a', b, _, es, dy, key, rfl, rfl, hid_le, n, iy, nk, hk, ?_⟩
  have : (lkE es key).isSome = (lkN kvs key).isSome := by
    rcases lk_rel (k := key) h4 h5 with ⟨h1, h2⟩ | ⟨_, _, h1, h2, _⟩ <;> rw [h1, h2] <;> rfl
  show Q (.bl (lkE es key).isSome) H
  rw [this]
  exact k.val ok t (.bool _)
theorem notInN_rd : R2D X.K (fun y x H Q => NHas X H x y fun _ _ es k => Q (.bl (!(lkE es k).isSome)) H) (wNotInN (hsOf X)) := by
  intro R μ H y x dy dx P Q ok iy ix w k
  obtain ⟨a', b, es, kvs, key, rfl, rfl, e, n, h4, h5, nk, hk, t⟩ := n_core ok ix iy w
  refine ⟨a', b, _, es, dy, key, rfl, rfl, hid_le, n, iy, nk, hk, ?_⟩
  have : (lkE es key).isSome = (lkN kvs key).isSome := by
    rcases lk_rel (k := key) h4 h5 with ⟨h1, h2⟩ | ⟨_, _, h1, h2, _⟩ <;> rw [h1, h2] <;> rfl
  show Q (.bl (!(lkE es key).isSome)) H
  rw [this]
  exact k.val ok t (.bool _)
variable {a b : Expr} {wa wb : WE}
theorem t_inN {k : Nat} (hr : Room k X.A) (ha : PE X a (tD X.K wa)) (hb : PE X b (tD X.K wb)) (hm : behindInMarks .In b = false) : PT X (.Compare a [.In] [b] pos) (tDT X.K (wTest (wBin (wInN (hsOf X)) wa wb))) := dt_cmp (op_inN (by have := hr.un; omega)) inN_rd ha hb hm
theorem t_notinN {k : Nat} (hr : Room k X.A) (ha : PE X a (tD X.K wa)) (hb : PE X b (tD X.K wb)) (hm : behindInMarks .NotIn b = false) : PT X (.Compare a [.NotIn] [b] pos) (tDT X.K (wTest (wBin (wNotInN (hsOf X)) wa wb))) := dt_cmp (op_notInN (by have := hr.un; omega)) notInN_rd ha hb hm
/-- {} -/
theorem pe_dnewN : PE X (.Dict [] [] pos) (fun _ H Q => ∀ p, H p = none → Q (.ref p) (upd H p (rawN p (hsOf X) []))) := ⟨fun pins s σ H Q I h =>
  wpAny_Dict_empty ⟨.ref s.heap.objs.size, _, I.laid (a := s.heap.objs.size) (o := rawN s.heap.objs.size (hsOf X) []) (t' := s.toks) (fun _ _ q => Heap.get?_push_of_some _ q) (Nat.le_refl _)
    ⟨⟨Nat.zero_le _, beq_false_of_ne (Nat.ne_of_gt I.big), [], rfl, .nil, _, #[], 0, Heap.get?_push_size _ rfl, ⟨rfl, rfl, rfl⟩, rfl, rfl⟩, ⟨_, Heap.get?_push_size _ rfl⟩, by
      rintro h1 h2' ⟨z1, z2, xs', z3, z4, o, ds', ep', z5, z6⟩ keep
      exact ⟨z1, z2, xs', z3, z4, o, ds', ep', keep o z5, z6⟩⟩, rfl, h _ (I.hok.fresh (Nat.le_refl _))⟩⟩
theorem d_dctN0 : PE X (.Dict [] [] pos) (tD X.K (wDctN0 (hsOf X))) :=
  PE.imp pe_dnewN fun σ H Q ⟨R, ρ, μ, P, a, w, k⟩ => fun p n => by
    have fm := a.ok.freeM n
    have o1 := a.ok.newM (o := rawN p (hsOf X) []) (m := .dcN (hsOf X) []) n ⟨[], upd_same, (fun e h => by cases h), .nil, rfl, .nil⟩ (by intro z; cases z)
    exact k _ _ _ _ (w p fm) o1.1 o1.2 (.obj p)
end
end Dz

set_option Elab.async false
set_option linter.all false
set_option maxRecDepth 100000
set_option maxHeartbeats 2000000
/-! DzH3: copies of dicts whose keys are tuples. -/
namespace Dz
open PySem PySem.Spec L2 PyProof.Rows

section
variable {X : Cx} {pins : List (Addr × Obj)} {σ : L2.St} {H Hm : Hp} {s : Shared} {a : Addr} {es : List (NestedKey × Addr × V)} {A : Around} {E : Value → Shared → Prop}
theorem n_copy {Q : Value → Shared → Prop} (hu : A.in1.in1.units + 8 < cLine) (I : Inv X pins σ H s) (sm : Same Hm H) (n : NDict X.K (hsOf X) Hm H a es) (hap : (es.map fun e => e.1.hash X.w).Nodup)
    (h : ∀ p s', H p = none → Inv X pins σ (upd H p (rawN p (hsOf X) es)) s' → Q (.ref p) s') : wpAny (model X.prog X.w) A (call (.type "dict") [.ref a]) Q E s := by
  have hk : ∀ b o, s.heap.get? b = some o → (s.heap.push { cls := .type "dict", data := .dict #[] }).get? b = some o := fun b o e => Heap.get?_push_of_some _ e
  obtain ⟨hz, hd, xs, hx, dd⟩ := n.dict (I.kept (t' := s.toks) hk) sm
  refine callType_codes (Q₁ := fun obj s₁ => obj = .ref s.heap.objs.size ∧ s₁ = { s with heap := s.heap.push { cls := .type "dict", data := .dict #[] } }) F.kt_called_dict (F.kt_typeCall_dict_1 _) F.entry_dict_init (kt_code_dict_new _ ⟨rfl, rfl⟩) ?_
  rintro obj s₁ ⟨rfl, rfl⟩
  have hT : Shared.TypeIs { s with heap := s.heap.push { cls := .type "dict", data := .dict #[] } } (.ref s.heap.objs.size) "dict" := ⟨_, Heap.get?_push_size _ rfl, rfl⟩
  refine ⟨hT, F.args_dict_init_2 _ _, ?_⟩
  unfold Builtin.«dict.__init__»
  refine wpAny_bind ?_
  unfold Builtin.Dict.selfAndRest
  refine wpAny_bind (wpAny_notOrdered_dict hT ?_)
  show wpAny _ _ (pure (s.heap.objs.size, [Value.ref a])) _ _ _
  refine wpAny_pure ?_
  have hxl : xs.length = es.length := by
    have := congrArg List.length hx.1
    rw [List.length_map, List.length_map] at this
    exact this
  have hxk : xs.map (·.1) = es.map (·.1) := by
    have := congrArg (List.map Prod.fst) hx.1
    rw [List.map_map, List.map_map] at this
    exact this
  have hda : s.heap.objs.size ≠ a := fun e => by
    have := (I.hok a _ n.at_).lt
    exact absurd this (by rw [← e]; exact Nat.lt_irrefl _)
  obtain ⟨_, _, _, _, _, _, _, his, _⟩ := id dd
  refine updateFrom_dictH (A := A.in1) (knd := KN X) (kvs := []) .none hu hda hd (Heap.DictOfH.new s.heap) dd (.inr ⟨fun x hx' => ?_, ?_⟩) (by rw [List.length_nil, hxl]; omega) fun h' hd' ho' hs' => ?_
  · obtain ⟨hn, _⟩ := his x hx'
    generalize x.1 = kx at hn
    cases hn with
    | tup g1 g2 g3 g4 => exact ⟨_, g1, g2⟩
  · have : (xs.map fun x => (KN X).hash x.1) = es.map fun e => e.1.hash X.w := by
      have := congrArg (List.map fun k : NestedKey => k.hash X.w) hxk
      rw [List.map_map, List.map_map] at this
      exact this
    rw [this]
    exact hap
  · rw [storedAllH_nil_of_nodup xs dd.nodup] at hd'
    obtain ⟨o, ds, ep, g1, g2, g3, g4, _, _⟩ := hd'
    refine ⟨rfl, h _ _ (I.hok.fresh (Nat.le_refl _)) (I.laid (fun b u e => ?_) (Nat.le_refl _) ⟨⟨hz, ?_, xs, hx.1, hx.2, o, ds, ep, g1, g2, g3, g4⟩, ⟨o, g1⟩, ?_⟩)⟩
    · exact (hs'.2 b (Nat.ne_of_lt (Heap.lt_size e))).trans (hk b u e)
    · exact beq_false_of_ne (Nat.ne_of_gt I.big)
    · rintro h1 h2' ⟨z1, z2, xs', z3, z4, o, ds', ep', z5, z6⟩ keep
      exact ⟨z1, z2, xs', z3, z4, o, ds', ep', keep o z5, z6⟩
def rDictN (X : Cx) : List V → Hp → VK → Prop := fun xs H Q => ∃ a Hm es, xs = [.ref a] ∧ Same Hm H ∧ NDict X.K (hsOf X) Hm H a es ∧ (es.map fun e => e.1.hash X.w).Nodup ∧ ∀ p, H p = none → Q (.ref p) (upd H p (rawN p (hsOf X) es))
theorem call_dictN (hu : X.A.units + 10 < cLine) : CallR X (.type "dict") (rDictN X) := by
  intro pins s σ H xs us Q I r h
  obtain ⟨a, Hm, es, rfl, sm, n, hap, q⟩ := h
  obtain ⟨u, rfl, rx⟩ := vals1 r
  cases rx
  exact n_copy (by show X.A.units + 1 + 1 + 8 < _; omega) I sm n hap fun p s' hp I' => ⟨.ref p, _, I', rfl, q p hp⟩
/-- dict(d), a copy: the keys' hashes differ -/
def wDictN (hs : NestedKey → Int) : WB
  | [.obj a], μ, P => match μ a with
    | some (.dcN hs' kvs) => hs' = hs ∧ (kvs.map fun e => hs e.1).Nodup ∧ ∀ p, μ p = none → P (.obj p) (updM μ p (.dcN hs kvs))
    | _ => False
  | _, _, _ => False
theorem dictN_rd : RAD X.K (rDictN X) (wDictN (hsOf X)) := by
  intro R μ H vs ds P Q o i w k
  match ds, w with
  | [.obj a], w =>
    obtain ⟨v, rfl, i1⟩ := i.one
    cases i1
    have w2 : (match μ a with | some (.dcN hs' kvs) => hs' = hsOf X ∧ (kvs.map fun e => hsOf X e.1).Nodup ∧ ∀ p, μ p = none → P (.obj p) (updM μ p (.dcN (hsOf X) kvs)) | _ => False) := w
    split at w2
    · rename_i hs' kvs e
      obtain ⟨e0, hn, w3⟩ := w2
      subst e0
      obtain ⟨es, h1, h2, h3, h4, h5⟩ := o.ob a _ e
      refine ⟨a, _, es, rfl, hid_le, ⟨h1, h2, h3⟩, ?_, fun p n => ?_⟩
      · have := congrArg (List.map fun k : NestedKey => k.hash X.w) h4
        rw [List.map_map, List.map_map] at this
        have e1 : (es.map fun e => e.1.hash X.w) = kvs.map fun e => hsOf X e.1 := this
        rw [e1]
        exact hn
      · have hs : Same (hid R μ H) (hid R (updM μ p (.dcN (hsOf X) kvs)) (upd H p (rawN p (hsOf X) es))) := fun b u e => by
          obtain ⟨e1, e2, e3⟩ := hid_some e
          have ne := ne_of_none e3 n
          rw [hid_at e1 (by rw [updM_ne ne]; exact e2), upd_ne ne]
          exact e3
        obtain ⟨o2, s2⟩ := o.newM (o := rawN p (hsOf X) es) (m := .dcN (hsOf X) kvs) n ⟨es, upd_same, fun x hx => let ⟨z, d, i, nk⟩ := h2 x hx; ⟨z, d, i.mono hs, nk⟩, h3, h4, h5.mono hs⟩ (by intro z; cases z)
        exact k _ _ _ _ (w3 p (o.freeM n)) o2 s2 (.obj p)
    · exact w2.elim
variable {e : Expr} {w : WE} {p pos : Pos}
theorem d_dictN {k : Nat} (hr : Room k X.A) (hg : Gl X "dict") (hm : X.mg "dict" = none) (ha : PE X e (tD X.K w)) (hs : starEach [e] X.env = [(false, eval e X.env)] := by rfl) : PE X (.Call (.Name "dict" p) [e] [] pos) (tD X.K (wB (wDictN (hsOf X)) (wCons w wNil))) :=
  d_callTy (call_dictN (by have := hr.un; omega)) dictN_rd hg hm (by decide +kernel) (da_cons ha da_nil hs) (by decide) (by decide) hs rfl
end
end Dz

set_option Elab.async false
set_option linter.all false
set_option maxRecDepth 100000
set_option maxHeartbeats 2000000
/-! DzH4: dict(pairs) whose keys are tuples. -/
namespace Dz
open PySem PySem.Spec L2 PyProof.Rows

section
variable {X : Cx} {pins : List (Addr × Obj)} {σ : L2.St} {H Hm : Hp} {s : Shared} {a : Addr} {A : Around} {E : Value → Shared → Prop}
theorem newT_at (I : Inv X pins σ H s) {xs : List V} (h : SqN X.K H a xs) : ∃ its : List Value, Vals xs its ∧ PlainSeq "tuple" s.heap a its.toArray := by
  obtain ⟨its, r, ⟨o, g1, g2, n, g3⟩, _⟩ := I.tuple h.t
  rcases h with ⟨o', h1, h2, h3⟩ | ⟨o', its', n', h1, ⟨h2, h3⟩, _⟩
  · have := (show ObjOk X.prog X.w H s.heap a (.frz o' (.tup xs)) from I.hok a _ h1).1
    rw [g1] at this
    cases this
    exact ⟨its, r, o, n, g1, g2, h3, g3⟩
  · have := I.kIn a o' h1
    rw [g1] at this
    cases this
    exact ⟨its, r, o, n, g1, g2, h3, g3⟩
theorem pairs_at (I : Inv X pins σ H s) : ∀ {qs : List (Addr × NestedKey × Addr × V)}, (∀ q ∈ qs, SqT X.K H q.1 [.ref q.2.2.1, q.2.2.2]) →
    ∃ us : List Value, Vals (qs.map (·.2.2.2)) us ∧ ∀ (j : Nat) (q : Addr × NestedKey × Addr × V) (u : Value), qs[j]? = some q → us[j]? = some u → PairAt s.heap q.1 (.ref q.2.2.1) u
  | [], _ => ⟨[], .nil, fun j q u h => by simp at h⟩
  | q :: qs, h => by
    obtain ⟨us, h1, h2⟩ := pairs_at I (qs := qs) fun x hx => h x (List.mem_cons_of_mem _ hx)
    obtain ⟨its, r, ⟨o, g1, g2, n, g3⟩, _⟩ := I.tuple (h q List.mem_cons_self)
    cases r with
    | cons r1 r =>
      cases r with
      | cons r2 r =>
        cases r
        cases r1
        rename_i u
        refine ⟨u :: us, .cons r2 h1, fun j q' u' e1 e2 => ?_⟩
        cases j with
        | zero =>
          simp only [List.getElem?_cons_zero, Option.some.injEq] at e1 e2
          subst e1 e2
          exact .inl ⟨o, g1, g2, n, g3⟩
        | succ j => exact h2 j q' u' (by simpa using e1) (by simpa using e2)
theorem vals_len {vs : List V} {us : List Value} (r : Vals vs us) : us.length = vs.length := r.length.symm
theorem n_pairs {xs : List V} {qs : List (Addr × NestedKey × Addr × V)} {Q : Value → Shared → Prop} (hh : A.handled = none) (hu : A.in1.in1.units + 8 < cLine) (I : Inv X pins σ H s) (sm : Same Hm H) (ht : SqN X.K H a xs) (hx : xs = qs.map fun q => .ref q.1)
    (hq : ∀ q ∈ qs, SqT X.K H q.1 [.ref q.2.2.1, q.2.2.2]) (hk : ∀ q ∈ qs, q.2.1.depth ≤ 8 ∧ ∃ d, Is X.K Hm (.ref q.2.2.1) d ∧ nkey d = some q.2.1) (nd : (qs.map (·.2.1)).Nodup) (hz : qs.length ≤ sizeLine)
    (h : ∀ p s', H p = none → Inv X pins σ (upd H p (rawN p (hsOf X) (qs.map (·.2)))) s' → Q (.ref p) s') : wpAny (model X.prog X.w) A (call (.type "dict") [.ref a]) Q E s := by
  obtain ⟨its, r, hp⟩ := newT_at I ht
  obtain ⟨us, ru, hus⟩ := pairs_at I hq
  have lu : us.length = qs.length := by rw [vals_len ru, List.length_map]
  have li : its.length = qs.length := by rw [vals_len r, hx, List.length_map]
  let Ts : Nat → Addr := fun j => match qs[j]? with | some q => q.1 | none => 0
  let ps : List (Value × Value) := (qs.zip us).map fun z => (.ref z.1.2.2.1, z.2)
  let ks : List (NestedKey × Addr × Value) := (qs.zip us).map fun z => (z.1.2.1, z.1.2.2.1, z.2)
  have lp : ps.length = qs.length := by
    show ((qs.zip us).map _).length = _
    rw [List.length_map, List.length_zip, lu, Nat.min_self]
  have lk : ks.length = qs.length := by
    show ((qs.zip us).map _).length = _
    rw [List.length_map, List.length_zip, lu, Nat.min_self]
  have hitem : ∀ (j : Nat) (q : Addr × NestedKey × Addr × V), qs[j]? = some q → its[j]? = some (Value.ref q.1) := fun j q e => by
    have e1 : xs[j]? = some (V.ref q.1) := by rw [hx, List.getElem?_map, e]; rfl
    obtain ⟨u, e2, e3⟩ := r.get e1
    cases e3
    exact e2
  have hok : PlainSeq "tuple" s.heap a its.toArray ∧ PairItems s.heap its.toArray Ts ps := by
    refine ⟨hp, by rw [lp]; simpa using li, fun j k v e => ?_⟩
    have e : ((qs.zip us).map fun z => ((.ref z.1.2.2.1 : Value), z.2))[j]? = some (k, v) := e
    rw [List.getElem?_map, Option.map_eq_some_iff] at e
    obtain ⟨⟨q, u⟩, e1, e2⟩ := e
    cases e2
    obtain ⟨e3, e4⟩ := List.getElem?_zip_eq_some.mp e1
    have et : Ts j = q.1 := by show (match qs[j]? with | some q => q.1 | none => 0) = _; rw [e3]
    rw [et]
    exact ⟨by simpa using hitem j q e3, hus j q u e3 e4⟩
  have hkeys : ∀ h' : Heap, (∀ b o, s.heap.get? b = some o → h'.get? b = some o) → ∀ x ∈ ks, (KN X).is h' x.1 x.2.1 := fun h' hk' x hx' => by
    obtain ⟨z, hz', rfl⟩ := List.mem_map.mp hx'
    have hm : z.1 ∈ qs := (List.of_mem_zip (show (z.1, z.2) ∈ qs.zip us from hz')).1
    obtain ⟨dz, d, i, nk⟩ := hk z.1 hm
    exact ⟨nkey_is (I.kept (h' := h') (t' := s.toks) hk') sm i nk rfl, dz⟩
  have nk : (ks.map (·.1)).Nodup := by
    have : ks.map (·.1) = qs.map (·.2.1) := by
      show ((qs.zip us).map _).map _ = _
      rw [List.map_map]
      have e : (qs.zip us).map ((fun x : NestedKey × Addr × Value => x.1) ∘ fun z => (z.1.2.1, z.1.2.2.1, z.2)) = ((qs.zip us).map Prod.fst).map (·.2.1) := by rw [List.map_map]; rfl
      rw [e, List.map_fst_zip (by omega)]
    rw [this]
    exact nd
  refine call_dict_pairsH (knd := KN X) (ps := ks) (PairArg.tuple a its.toArray Ts ps) hh hu hok ⟨by rw [lk, lp], fun i key v e => ?_⟩ (fun h' hk' => hkeys h' fun b o e => hk' b o (Nat.ne_of_lt (Heap.lt_size e)) (fun h => by cases h) e) (by rw [lp]; exact hz) fun h' tk hd' hk' => ?_
  · have e : ((qs.zip us).map fun z => ((.ref z.1.2.2.1 : Value), z.2))[i]? = some (key, v) := e
    rw [List.getElem?_map, Option.map_eq_some_iff] at e
    obtain ⟨⟨q, u⟩, e1, e2⟩ := e
    cases e2
    exact ⟨q.2.1, q.2.2.1, by show ((qs.zip us).map _)[i]? = _; rw [List.getElem?_map, e1]; rfl, rfl⟩
  · rw [storedAllH_nil_of_nodup ks nk] at hd'
    obtain ⟨o, ds, ep, g1, g2, g3, g4, _, _⟩ := hd'
    have hxs : xsOf (qs.map (·.2)) ks := by
      refine ⟨?_, ?_⟩
      · show ((qs.zip us).map _).map _ = (qs.map _).map _
        rw [List.map_map, List.map_map]
        have e : (qs.zip us).map ((fun x : NestedKey × Addr × Value => (x.1, x.2.1)) ∘ fun z => (z.1.2.1, z.1.2.2.1, z.2)) = ((qs.zip us).map Prod.fst).map fun q => (q.2.1, q.2.2.1) := by rw [List.map_map]; rfl
        rw [e, List.map_fst_zip (by omega)]
        rfl
      · have e1 : ks.map (·.2.2) = us := by
          show ((qs.zip us).map _).map _ = _
          rw [List.map_map]
          have e : (qs.zip us).map ((fun x : NestedKey × Addr × Value => x.2.2) ∘ fun z => (z.1.2.1, z.1.2.2.1, z.2)) = (qs.zip us).map Prod.snd := rfl
          rw [e, List.map_snd_zip (by omega)]
        rw [e1, List.map_map]
        exact ru
    refine h _ _ (I.hok.fresh (Nat.le_refl _)) (I.laid (fun b u e => hk' b u (fun h => by cases h) e) (Nat.le_refl _) ⟨⟨by rw [List.length_map]; exact hz, beq_false_of_ne (Nat.ne_of_gt I.big), ks, hxs.1, hxs.2, o, ds, ep, g1, g2, g3, g4⟩, ⟨o, g1⟩, ?_⟩)
    rintro h1 h2' ⟨z1, z2, xs', z3, z4, o, ds', ep', z5, z6⟩ keep
    exact ⟨z1, z2, xs', z3, z4, o, ds', ep', keep o z5, z6⟩
/-- the pairs of a tuple, with keys that are tuples -/
def pairsN : List DV → Option (List (NestedKey × DV))
  | [] => some []
  | .tup [.tup ks, v] :: r => match nkeys ks, pairsN r with
    | some k, some l => some ((.tup k, v) :: l)
    | _, _ => none
  | _ :: _ => none
theorem pairsN_is {K : PySem.W.Frag} {Hm : Hp} : ∀ {ds : List DV} {vs : List V} {kvs : List (NestedKey × DV)}, Iss K Hm vs ds → pairsN ds = some kvs →
    ∃ qs : List (Addr × NestedKey × Addr × V), vs = qs.map (fun q => V.ref q.1) ∧ (∀ q ∈ qs, SqT K Hm q.1 [.ref q.2.2.1, q.2.2.2]) ∧ (∀ q ∈ qs, ∃ d, Is K Hm (.ref q.2.2.1) d ∧ nkey d = some q.2.1) ∧ qs.map (·.2.1) = kvs.map (·.1) ∧ Iss K Hm (qs.map (·.2.2.2)) (kvs.map (·.2))
  | [], _, _, .nil, e => by
    cases e
    exact ⟨[], rfl, (fun q h => by cases h), (fun q h => by cases h), rfl, .nil⟩
  | .tup [.tup ks, v] :: r, _, kvs, .cons h rs, e => by
    have e : (match nkeys ks, pairsN r with | some k, some l => some ((NestedKey.tup k, v) :: l) | _, _ => none) = some kvs := e
    cases e1 : nkeys ks with
    | none => rw [e1] at e; cases e
    | some k =>
      cases e2 : pairsN r with
      | none => rw [e1, e2] at e; cases e
      | some l =>
        rw [e1, e2] at e
        cases e
        obtain ⟨qs, h1, h2, h3, h4, h5⟩ := pairsN_is rs e2
        cases h with
        | tup hx rx =>
          rename_i a xs
          cases rx with
          | cons i1 rx =>
            cases rx with
            | cons i2 rx =>
              cases rx
              cases i1 with
              | tup hk rk =>
                rename_i v2 b ys
                refine ⟨(a, .tup k, b, v2) :: qs, by rw [List.map_cons, h1], fun q hq => ?_, fun q hq => ?_, by rw [List.map_cons, List.map_cons, h4], .cons i2 h5⟩
                · rcases List.mem_cons.mp hq with rfl | hq
                  · exact hx.t
                  · exact h2 q hq
                · rcases List.mem_cons.mp hq with rfl | hq
                  · refine ⟨.tup ks, .tup hk rk, ?_⟩
                    show (nkeys ks).map NestedKey.tup = _
                    rw [e1]
                    rfl
                  · exact h3 q hq
def rDictP (X : Cx) : List V → Hp → VK → Prop := fun zs H Q => ∃ a Hm xs, ∃ qs : List (Addr × NestedKey × Addr × V), zs = [.ref a] ∧ Same Hm H ∧ SqN X.K H a xs ∧ xs = qs.map (fun q => V.ref q.1) ∧ (∀ q ∈ qs, SqT X.K H q.1 [.ref q.2.2.1, q.2.2.2]) ∧
  (∀ q ∈ qs, q.2.1.depth ≤ 8 ∧ ∃ d, Is X.K Hm (.ref q.2.2.1) d ∧ nkey d = some q.2.1) ∧ (qs.map (·.2.1)).Nodup ∧ qs.length ≤ sizeLine ∧ ∀ p, H p = none → Q (.ref p) (upd H p (rawN p (hsOf X) (qs.map (·.2))))
theorem call_dictP (hc : X.calm = true) (hu : X.A.units + 10 < cLine) : CallR X (.type "dict") (rDictP X) := by
  intro pins s σ H zs us Q I r h
  obtain ⟨a, Hm, xs, qs, rfl, sm, ht, hx, hq, hk, nd, hz, q⟩ := h
  obtain ⟨u, rfl, rx⟩ := vals1 r
  cases rx
  exact n_pairs (I.ok.hd hc) (by show X.A.units + 1 + 1 + 8 < _; omega) I sm ht hx hq hk nd hz fun p s' hp I' => ⟨.ref p, _, I', rfl, q p hp⟩
/-- dict(t) of a tuple of pairs whose keys are tuples, all different -/
def wDictP (hs : NestedKey → Int) : WB
  | [.tup ds], μ, P => ∃ kvs, pairsN ds = some kvs ∧ (∀ e ∈ kvs, e.1.depth ≤ 8) ∧ (kvs.map (·.1)).Nodup ∧ kvs.length ≤ sizeLine ∧ ∀ p, μ p = none → P (.obj p) (updM μ p (.dcN hs kvs))
  | _, _, _ => False
theorem dictP_rd : RAD X.K (rDictP X) (wDictP (hsOf X)) := by
  intro R μ H vs ds P Q o i w k
  match ds, w with
  | [.tup ds], w =>
    obtain ⟨v, rfl, i1⟩ := i.one
    obtain ⟨kvs, hp, hd, hn, hz, w3⟩ := w
    cases i1 with
    | @tup a xs _ hx rx =>
      obtain ⟨qs, h1, h2, h3, h4, h5⟩ := pairsN_is rx hp
      have hk : ∀ q ∈ qs, q.2.1.depth ≤ 8 ∧ ∃ d, Is X.K (hid R μ H) (.ref q.2.2.1) d ∧ nkey d = some q.2.1 := fun q hq => by
        refine ⟨?_, h3 q hq⟩
        have hm : q.2.1 ∈ kvs.map (·.1) := by rw [← h4]; exact List.mem_map.mpr ⟨q, hq, rfl⟩
        obtain ⟨e, he, ee⟩ := List.mem_map.mp hm
        rw [← ee]
        exact hd e he
      have hlen : qs.length = kvs.length := by have := congrArg List.length h4; simpa using this
      have e1 : (qs.map (·.2)).map (·.1) = kvs.map (·.1) := by rw [List.map_map]; exact h4
      refine ⟨a, _, xs, qs, rfl, hid_le, Same.seqN hid_le hx, h1, fun q hq => Same.seqT hid_le (h2 q hq), hk, by rw [h4]; exact hn, by rw [hlen]; exact hz, fun p n => ?_⟩
      have hs : Same (hid R μ H) (hid R (updM μ p (.dcN (hsOf X) kvs)) (upd H p (rawN p (hsOf X) (qs.map (·.2))))) := fun b u e => by
        obtain ⟨e1, e2, e3⟩ := hid_some e
        have ne := ne_of_none e3 n
        rw [hid_at e1 (by rw [updM_ne ne]; exact e2), upd_ne ne]
        exact e3
      obtain ⟨o2, s2⟩ := o.newM (o := rawN p (hsOf X) (qs.map (·.2))) (m := .dcN (hsOf X) kvs) n ⟨qs.map (·.2), upd_same, fun x hx => by
        obtain ⟨q, hq, rfl⟩ := List.mem_map.mp hx
        obtain ⟨z, d, i, nk⟩ := hk q hq
        exact ⟨z, d, i.mono hs, nk⟩, by rw [e1]; exact hn, e1, by rw [List.map_map]; exact h5.mono hs⟩ (by intro z; cases z)
      exact k _ _ _ _ (w3 p (o.freeM n)) o2 s2 (.obj p)
variable {e : Expr} {w : WE} {p pos : Pos}
theorem d_dictP {k : Nat} (hr : Room k X.A) (hg : Gl X "dict") (hm : X.mg "dict" = none) (ha : PE X e (tD X.K w)) (hc : X.calm = true := by rfl) (hs : starEach [e] X.env = [(false, eval e X.env)] := by rfl) : PE X (.Call (.Name "dict" p) [e] [] pos) (tD X.K (wB (wDictP (hsOf X)) (wCons w wNil))) :=
  d_callTy (call_dictP hc (by have := hr.un; omega)) dictP_rd hg hm (by decide +kernel) (da_cons ha da_nil hs) (by decide) (by decide) hs rfl
end
end Dz

set_option Elab.async false
set_option linter.all false
set_option maxRecDepth 100000
set_option maxHeartbeats 2000000
/-! DzH5: sorted(d.items()) of a dict whose keys are tuples. -/
namespace Dz
open PySem PySem.Spec L2 PyProof.Rows

mutual
/-- a key's data -/
def kd : NestedKey → DV
  | .none => .none
  | .num i => .int i
  | .text x => .str x
  | .tup ks => .tup (kds ks)
def kds : List NestedKey → List DV
  | [] => []
  | k :: ks => kd k :: kds ks
end
mutual
theorem nkey_kd : ∀ (d : DV) (k : NestedKey), nkey d = some k → d = kd k
  | .none, k, h => by cases h; rfl
  | .int i, k, h => by cases h; rfl
  | .str x, k, h => by cases h; rfl
  | .tup ds, k, h => by
    have h : (nkeys ds).map NestedKey.tup = some k := h
    obtain ⟨ks, h1, h2⟩ := Option.map_eq_some_iff.mp h
    subst h2
    show DV.tup ds = .tup (kds ks)
    rw [nkeys_kd ds ks h1]
  | .bool b, k, h => by cases h
  | .lst _, k, h => by cases h
  | .dct _, k, h => by cases h
  | .obj _, k, h => by cases h
  | .fix _, k, h => by cases h
theorem nkeys_kd : ∀ (ds : List DV) (ks : List NestedKey), nkeys ds = some ks → ds = kds ks
  | [], ks, h => by cases h; rfl
  | d :: ds, ks, h => by
    have h : (match nkey d, nkeys ds with | some k, some ks => some (k :: ks) | _, _ => none) = some ks := h
    cases e1 : nkey d with
    | none => rw [e1] at h; cases h
    | some k =>
      cases e2 : nkeys ds with
      | none => rw [e1, e2] at h; cases h
      | some l =>
        rw [e1, e2] at h
        cases h
        show d :: ds = kd k :: kds l
        rw [nkey_kd d k e1, nkeys_kd ds l e2]
end

mutual
/-- the addresses that data reads off are there -/
theorem reads_in {h : Heap} : ∀ {d : PyData} {v : Value} {as : List Addr}, Reads h v d as → ∀ a ∈ as, ∃ o, h.get? a = some o
  | _, _, _, .none, a, m => by cases m
  | _, _, _, .bool _, a, m => by cases m
  | _, _, _, .int _ _, a, m => by cases m
  | _, _, _, .str _ _, a, m => by cases m
  | _, _, _, .list h1 _ _ r, a, m => by
    rcases List.mem_cons.mp m with rfl | m
    · exact ⟨_, h1⟩
    · exact readsAll_in r a m
  | _, _, _, .tuple _ _ _ r, a, m => readsAll_in r a m
  | _, _, _, .dict h1 _ _ r1 r2, a, m => by
    rcases List.mem_append.mp m with m | m
    · rcases List.mem_cons.mp m with rfl | m
      · exact ⟨_, h1⟩
      · exact readsAll_in r1 a m
    · exact readsAll_in r2 a m
theorem readsAll_in {h : Heap} : ∀ {ds : List PyData} {vs : List Value} {as : List Addr}, ReadsAll h vs ds as → ∀ a ∈ as, ∃ o, h.get? a = some o
  | _, _, _, .nil, a, m => by cases m
  | _, _, _, .cons r1 r2, a, m => by
    rcases List.mem_append.mp m with m | m
    · exact reads_in r1 a m
    · exact readsAll_in r2 a m
end
/-- new things laid one by one -/
inductive Grown (H : Hp) : Hp → Prop
  | refl : Grown H H
  | step {H1 : Hp} {p : Addr} {o : HO} : Grown H H1 → H1 p = none → Grown H (upd H1 p o)
theorem Grown.same {H H' : Hp} (g : Grown H H') : Same H H' := by
  induction g with
  | refl => exact Same.refl _
  | step g n ih => exact fun b o e => by rw [upd_ne (ne_of_none (ih b o e) n)]; exact ih b o e
theorem Grown.pre {H H1 : Hp} {p : Addr} {o : HO} (n : H p = none) {H' : Hp} (g : Grown (upd H p o) H') : Grown H H' := by
  induction g with
  | refl => exact .step .refl n
  | step _ n' ih => exact .step ih n'
theorem Ok.grown {K : PySem.W.Frag} {R : Hp} {μ : Mh} {H H' : Hp} (k : Ok K R μ H) (g : Grown H H') : Ok K R μ H' ∧ Same (hid R μ H) (hid R μ H') := by
  induction g with
  | refl => exact ⟨k, Same.refl _⟩
  | step _ n ih => exact ⟨ih.1.new n, ih.2.trans (ih.1.sameNew n)⟩
/-- the items of a dict, as data -/
def itemN (e : NestedKey × DV) : DV := .tup [kd e.1, e.2]
/-- what data can be sorted -/
structure SortOk (ds : List DV) : Prop where
  no : noObjs ds = true
  al : allAlike ds = true
  so : sortable ds = true
  dp : ∀ d ∈ ds, (toPy d).depth ≤ 60
  sz : ds.length ≤ sizeLine
section
variable {X : Cx}
theorem takeG {α : Type} {pins : List (Addr × Obj)} {σ : L2.St} {H0 : Hp} {s : Shared} {h' : Heap} {tk : Nat} {P : Addr × α → Obj → List V → Prop} (I0 : Inv X pins σ H0 s) : ∀ (L : List (Addr × α)) (H1 : Hp), Inv X pins σ H1 { s with heap := h', toks := tk } → (L.map (·.1)).Nodup →
    (∀ z ∈ L, s.heap.objs.size ≤ z.1 ∧ H1 z.1 = none ∧ ∃ o vs, P z o vs ∧ ∀ H2, ObjOk X.prog X.w H2 h' z.1 (.frz o (.tup vs))) →
    ∃ H2, Inv X pins σ H2 { s with heap := h', toks := tk } ∧ Grown H1 H2 ∧ ∀ z ∈ L, ∃ o vs, P z o vs ∧ H2 z.1 = some (.frz o (.tup vs))
  | [], H1, I1, _, _ => ⟨H1, I1, .refl, fun _ h => nomatch h⟩
  | z :: L, H1, I1, hn, h => by
    obtain ⟨hb, hnone, o, vs, hP, ok⟩ := h z (List.mem_cons_self ..)
    have I2 : Inv X pins σ (upd H1 z.1 (.frz o (.tup vs))) { s with heap := h', toks := tk } := I1.take (h' := h') (t' := tk) (fun b ob _ e => e) (I0.fpOk hb hnone) (ok _)
    rw [List.map_cons, List.nodup_cons] at hn
    obtain ⟨H2, I3, g, q⟩ := takeG I0 L (upd H1 z.1 (.frz o (.tup vs))) I2 hn.2 fun c hc => by
      obtain ⟨c1, c2, c3⟩ := h c (List.mem_cons_of_mem _ hc)
      exact ⟨c1, by rw [upd_ne (fun e => hn.1 (by rw [← e]; exact List.mem_map_of_mem hc))]; exact c2, c3⟩
    refine ⟨H2, I3, g.pre (H1 := H1) hnone, fun c hc => ?_⟩
    rcases List.mem_cons.mp hc with rfl | hc
    · exact ⟨o, vs, hP, g.same _ _ upd_same⟩
    · exact q c hc
/-- a fresh pair -/
def PairF (K : PySem.W.Frag) (Hm H H' : Hp) (x : V) (d : DV) : Prop := ∃ b o e v k y, x = .ref b ∧ d = itemN (k, y) ∧ H b = none ∧ H' b = some (.frz o (.tup [.ref e, v])) ∧ NewT o ∧ Is K Hm (.ref e) (kd k) ∧ Is K Hm v y
def rSortN (X : Cx) : List V → Hp → VK → Prop := fun zs H Q => ∃ (p a : Addr) (Hm : Hp) (es : List (NestedKey × Addr × V)) (kvs : List (NestedKey × DV)), zs = [.ref p] ∧ H p = some (L2.DX.itemsO p a) ∧ Same Hm H ∧ NDict X.K (hsOf X) Hm H a es ∧
  es.map (·.1) = kvs.map (·.1) ∧ Iss X.K Hm (es.map (·.2.2)) (kvs.map (·.2)) ∧ SortOk (kvs.map itemN) ∧
  ∀ (H' : Hp) (ps : List (V × DV)) (l : Addr), Grown H H' → (∀ q ∈ ps, PairF X.K Hm H H' q.1 q.2) → (ps.map (·.2)).Perm (kvs.map itemN) → (ps.map (·.2)).Pairwise (fun a b => leD a b = true) → H' l = none → Q (.ref l) (upd H' l (.lst (ps.map (·.1))))
theorem cr_sortN {k : Nat} (hrm : Room k X.A) (hsm : ∃ o, X.base.get? sysModules = some o) (hc : X.calm = true) : CallR X (.builtin "sorted") (rSortN X) := by
  intro pins s σ H zs us Q I r h
  obtain ⟨p, a, Hm, es, kvs, rfl, hp, sm, n, hk, hr, so, q⟩ := h
  obtain rfl := Vals.ref1 r
  have view : s.heap.IsItemsView p a := (show ObjOk X.prog X.w H s.heap p (L2.DX.itemsO p a) from I.hok p _ hp).1
  obtain ⟨hz, hd, xs, hx, dd⟩ := n.dict I sm
  obtain ⟨o, ds, ep, ho, hex, hdat, hes, _, hnd⟩ := id dd
  have lx : xs.length = es.length := by have := congrArg List.length hx.1; simpa using this
  have ld : ds.size = xs.length := size_of_entries hes
  have lk : kvs.length = es.length := by have := congrArg List.length hk; simpa using this.symm
  have hh : X.A.handled = none := I.ok.hd hc
  refine DT.sortedI (es := ds) (ep := ep) hh view ⟨o, ho, hex, hdat⟩ (by omega) fun h' tk as hkeep hlt hl hG => ?_
  have lak : as.length = kvs.length := by omega
  have nd : as.Nodup := List.Pairwise.imp (fun h => Nat.ne_of_lt h) hG.rise
  let L : List (Addr × (NestedKey × DV)) := as.zip kvs
  have L1 : L.map (·.1) = as := List.map_fst_zip (by omega)
  have L2' : L.map (·.2) = kvs := List.map_snd_zip (by omega)
  let P : Addr × (NestedKey × DV) → Obj → List V → Prop := fun z o vs => NewT o ∧ ∃ e v, vs = [.ref e, v] ∧ Is X.K Hm (.ref e) (kd z.2.1) ∧ Is X.K Hm v z.2.2
  have I1 : Inv X pins σ H { s with heap := h', toks := tk } := I.kept (t' := tk) hkeep
  obtain ⟨H2, I2, g, qt⟩ := takeG (P := P) I L H I1 (by rw [L1]; exact nd) fun z hz' => by
    obtain ⟨j, hj⟩ := List.mem_iff_getElem?.mp hz'
    obtain ⟨hj1, hj2⟩ := List.getElem?_zip_eq_some.mp hj
    obtain ⟨en, he, hg⟩ := hG.pairs j z.1 hj1
    have hbl : s.heap.objs.size ≤ z.1 := Nat.le_of_lt (hG.above z.1 (List.mem_of_getElem? hj1))
    rw [entry_at hes j] at he
    cases hxj : xs[j]? with
    | none => rw [hxj] at he; exact nomatch (show (none : Option DictEntry) = some en from he)
    | some x =>
      rw [hxj] at he
      have een : entryOfKey (KN X) x = en := Option.some.inj he
      have hej : (es.map (fun e => (e.1, e.2.1)))[j]? = some (x.1, x.2.1) := by rw [← hx.1, List.getElem?_map, hxj]; rfl
      rw [List.getElem?_map, Option.map_eq_some_iff] at hej
      obtain ⟨e, hej, ee⟩ := hej
      have e1 : e.1 = x.1 := congrArg Prod.fst ee
      have e2 : e.2.1 = x.2.1 := congrArg Prod.snd ee
      have hv : ∃ u, (xs.map (·.2.2))[j]? = some u ∧ RelV e.2.2 u := hx.2.get (by rw [List.getElem?_map, hej]; rfl)
      obtain ⟨u, hu1, hu2⟩ := hv
      rw [List.getElem?_map, hxj] at hu1
      cases hu1
      have hk1 : e.1 = z.2.1 := by
        have := congrArg (fun l => l[j]?) hk
        simp only [List.getElem?_map, hej, hj2, Option.map_some, Option.some.injEq] at this
        exact this
      obtain ⟨y, hy1, hy2⟩ := hr.getV (i := j) (v := e.2.2) (by rw [List.getElem?_map, hej]; rfl)
      rw [List.getElem?_map, hj2] at hy1
      cases hy1
      obtain ⟨dz, d, i, nk⟩ := n.keys e (List.mem_of_getElem? hej)
      have hkd := nkey_kd d e.1 nk
      rw [hkd, hk1] at i
      refine ⟨hbl, I.hok.fresh hbl, { cls := .type "tuple", data := .seq #[.ref x.2.1, x.2.2] }, [.ref e.2.1, e.2.2], ⟨⟨rfl, rfl⟩, e.2.1, e.2.2, rfl, i, hy2⟩, fun H3 => ?_⟩
      have hg2 : h'.get? z.1 = some { cls := .type "tuple", data := .seq #[.ref x.2.1, x.2.2] } := by
        rw [hg, ← een]
        rfl
      refine ⟨hg2, (by rw [sizeLine_eq]; show 2 ≤ 16777216; omega), [Value.ref x.2.1, x.2.2], .cons (by rw [e2]; rfl) (.cons hu2 .nil), ⟨_, hg2, rfl, 0, rfl⟩⟩
  have hs2 : Same Hm H2 := sm.trans g.same
  have hall : ∀ l : List (Addr × (NestedKey × DV)), (∀ z ∈ l, z ∈ L) → Iss X.K H2 (l.map fun z => V.ref z.1) (l.map fun z => itemN z.2) := by
    intro l
    induction l with
    | nil => exact fun _ => .nil
    | cons z l ih =>
      intro hm
      refine .cons ?_ (ih fun y hy => hm y (List.mem_cons_of_mem _ hy))
      obtain ⟨o, vs, ⟨h1, e, v, rfl, i1, i2⟩, h2⟩ := qt z (hm z List.mem_cons_self)
      exact .tup (.inl ⟨o, h2, h1⟩) (.cons (i1.mono hs2) (.cons (i2.mono hs2) .nil))
  have hI := hall L fun _ h => h
  have eds : L.map (fun z => itemN z.2) = kvs.map itemN := by rw [← L2', List.map_map]; rfl
  have eus : L.map (fun z => Value.ref z.1) = as.map Value.ref := by rw [← L1, List.map_map]; rfl
  have rv : Vals (L.map fun z => V.ref z.1) (L.map fun z => Value.ref z.1) := by
    generalize L = l
    induction l with
    | nil => exact .nil
    | cons z l ih => exact .cons rfl ih
  rw [eds] at hI
  rw [eus] at rv
  generalize hXs : (L.map fun z => V.ref z.1) = Xs at hI rv
  generalize hDs : kvs.map itemN = Ds at hI so q
  obtain ⟨e1, e2⟩ := each_of I2 hsm hI so.no rv
  have hlen : (Xs.zip Ds).length = Ds.length := by rw [List.length_zip, hI.length, Nat.min_self]
  have hsnd : (Xs.zip Ds).map (fun b => toPy b.2) = Ds.map toPy := by
    have := congrArg (List.map toPy) (zip_snd hI.length)
    rw [List.map_map] at this
    exact this
  have hmem : ∀ b ∈ Xs.zip Ds, b.2 ∈ Ds := fun b hb => by
    have := List.mem_map_of_mem (f := (·.2)) hb
    rw [zip_snd hI.length] at this
    exact this
  have hob : (h'.push { cls := .type "list", data := .seq (as.map Value.ref).toArray }).get? h'.objs.size = some (seqObj "list" (as.map Value.ref).toArray 0) := Heap.get?_push_size _ rfl
  have ne0 : ∀ b o, h'.get? b = some o → b ≠ h'.objs.size := fun b o e => Nat.ne_of_lt (Heap.lt_size e)
  have ka : ∀ b o, h'.get? b = some o → (h'.push { cls := .type "list", data := .seq (as.map Value.ref).toArray }).get? b = some o := fun b o e => Heap.get?_push_of_some _ e
  generalize hh2 : h'.push { cls := .type "list", data := .seq (as.map Value.ref).toArray } = h2 at hob ka ⊢
  have er : PySem.W.EachIs (fun (v : Value) (b : V × DV) => ∃ as, Reads h2 v (toPy b.2) as ∧ h'.objs.size ∉ as) (as.map Value.ref) (Xs.zip Ds) := e2.mono fun v b ⟨as', rd⟩ => ⟨as', PyProof.Rows.Reads.keeps (fun b o e => ka b o e) rd, fun m => by
    obtain ⟨o', ho'⟩ := reads_in rd _ m
    exact ne0 _ _ ho' rfl⟩
  refine PySem.W.list_sort_data (s := { s with heap := h2, toks := tk }) (enc := fun b : V × DV => toPy b.2) hob e1 er ?_ ?_ (by rw [hlen]; exact so.sz) (fun b hb => ?_) fun out h1 h2' => ?_
  · rw [hsnd]
    intro d hd d' hd'
    rw [List.mem_map] at hd hd'
    obtain ⟨x, hx, rfl⟩ := hd
    obtain ⟨y, hy, rfl⟩ := hd'
    have al := so.al
    unfold allAlike at al
    rw [List.all_eq_true] at al
    have := al x hx
    rw [List.all_eq_true] at this
    exact this y hy
  · rw [hsnd]
    have so' := so.so
    unfold sortable at so'
    rw [Bool.or_eq_true, List.all_eq_true, List.all_eq_true] at so'
    rcases so' with so' | so'
    · refine .inl fun d hd => ?_
      rw [List.mem_map] at hd
      obtain ⟨x, hx, rfl⟩ := hd
      have := so' x hx
      match x, this with
      | .tup (y :: ys), _ => exact ⟨toPy y, toPys ys, rfl⟩
    · refine .inr fun d hd => ?_
      rw [List.mem_map] at hd
      obtain ⟨x, hx, rfl⟩ := hd
      have := so' x hx
      match x, this with
      | .int i, _ => exact ⟨fun z => (by cases z), fun xs z => (by cases z)⟩
      | .str i, _ => exact ⟨fun z => (by cases z), fun xs z => (by cases z)⟩
  · have h1 := so.dp b.2 (hmem b hb)
    have := hrm.un
    show X.A.units + 1 + 1 + (toPy b.2).depth < cLine
    omega
  · obtain ⟨ep', he'⟩ := PyProof.Rows.sortedHeap_at (vs := as.map Value.ref) (out := out.toArray) hob
    have rv2 := vals_of_each h2'
    have pw := List.pairwise_mergeSort (le := PySem.W.dataLe false fun b : V × DV => toPy b.2) (PySem.W.sortLe_total _ false _).trans (fun a b => by
      rw [Bool.or_eq_true]
      exact (PySem.W.sortLe_total (PyProof.Rows.listOrd PyProof.Rows.itemOrd) false fun b : V × DV => PySem.W.keyToks (toPy b.2)).total a b) (Xs.zip Ds)
    have pm := List.mergeSort_perm (Xs.zip Ds) (PySem.W.dataLe false fun b : V × DV => toPy b.2)
    generalize hms : (Xs.zip Ds).mergeSort (PySem.W.dataLe false fun b : V × DV => toPy b.2) = ps at rv2 pm pw
    have hz2 : (ps.map (·.1)).length ≤ sizeLine := by
      rw [List.length_map, pm.length_eq, hlen]
      exact so.sz
    have kF : ∀ b o, h'.get? b = some o → (PyProof.Rows.sortedHeap h2 h'.objs.size (as.map Value.ref) out.toArray).get? b = some o := fun b o e => (PyProof.Rows.sortedHeap_old (ne0 b o e) (Heap.lt_size (ka b o e))).trans (ka b o e)
    refine ⟨.ref h'.objs.size, upd H2 h'.objs.size (.lst (ps.map (·.1))), I2.laid (t' := tk) kF (Nat.le_refl _) ⟨hz2, out, ep', rv2, he'⟩, rfl, q H2 ps _ g (fun z hz' => ?_) ?_ ?_ (I2.hok.fresh (Nat.le_refl _))⟩
    · have hm := pm.mem_iff.mp hz'
      have hm2 : ∀ l : List (Addr × (NestedKey × DV)), z ∈ (l.map fun z => V.ref z.1).zip (l.map fun z => itemN z.2) → ∃ y ∈ l, z = (V.ref y.1, itemN y.2) := by
        intro l
        induction l with
        | nil => exact fun h => nomatch h
        | cons y l ih =>
          intro h
          rw [List.map_cons, List.map_cons, List.zip_cons_cons] at h
          rcases List.mem_cons.mp h with h | h
          · exact ⟨y, List.mem_cons_self, h⟩
          · obtain ⟨w, hw, e⟩ := ih h
            exact ⟨w, List.mem_cons_of_mem _ hw, e⟩
      rw [← hXs, ← hDs, ← eds] at hm
      obtain ⟨y, hy, rfl⟩ := hm2 L hm
      obtain ⟨o', vs, ⟨h3, e, v, rfl, i1, i2⟩, h4⟩ := qt y hy
      obtain ⟨j, hj⟩ := List.mem_iff_getElem?.mp hy
      have hb := hG.above y.1 (List.mem_of_getElem? (List.getElem?_zip_eq_some.mp hj).1)
      exact ⟨y.1, o', e, v, y.2.1, y.2.2, rfl, rfl, I.hok.fresh (Nat.le_of_lt hb), h4, h3, i1, i2⟩
    · have := pm.map (·.2)
      rw [zip_snd hI.length] at this
      exact this
    · rw [List.pairwise_map]
      exact pw.imp fun {a b} h => h
end
end Dz

set_option Elab.async false
set_option linter.all false
set_option maxRecDepth 100000
set_option maxHeartbeats 2000000
/-! DzH6: sorted(d.items()) as a rule. -/
namespace Dz
open PySem PySem.Spec L2 PyProof.Rows

section
variable {X : Cx}
def tyN (x : V) (H : Hp) : Prop := ∃ a hs es, x = .ref a ∧ H a = some (rawN a hs es)
theorem ty_N : TyOk X "dict" tyN := by
  intro pins σ H s x v I r ty
  obtain ⟨a, hs, es, rfl, e⟩ := ty
  cases r
  obtain ⟨⟨h1, h2, xs, h3, h4, o, ds, ep, g1, g2, g3, g4⟩, _, _⟩ := (show ObjOk X.prog X.w H s.heap a (rawN a hs es) from I.hok a _ e)
  refine ⟨⟨o, g1, g2.1⟩, fun b hb => ?_⟩
  cases hb
  exact ⟨o, g1, g2.2.1⟩
def rItemsN : V → List V → Hp → VK → Prop := fun x xs H Q => ∃ a hs es, x = .ref a ∧ xs = [] ∧ H a = some (rawN a hs es) ∧ ∀ p, H p = none → Q (.ref p) (upd H p (L2.DX.itemsO p a))
theorem mt_itemsN : MtR X "dict.items" rItemsN := by
  intro pins s σ H x xs v us Q I rx rxs h
  obtain ⟨a, hs, es, rfl, rfl, ha, q⟩ := h
  cases rx
  cases rxs
  obtain ⟨⟨_, hd, xs', h3, h4, o, ds, ep, ho, hx, hdat, _⟩, _, _⟩ := (show ObjOk X.prog X.w H s.heap a (rawN a hs es) from I.hok a _ ha)
  refine DT.callItems (es := ds) (ep := ep) hd ⟨o, ho, hx, hdat⟩ ?_
  have hf : H s.heap.objs.size = none := I.hok.fresh (Nat.le_refl _)
  exact ⟨.ref s.heap.objs.size, upd H s.heap.objs.size (L2.DX.itemsO s.heap.objs.size a), I.laid (t' := s.toks) (fun b u e => Heap.get?_push_of_some _ e) (Nat.le_refl _) (L2.DX.itemsO_ok (Heap.get?_push_size _ rfl)), rfl, q _ hf⟩
/-- a name of the module, as a constant -/
theorem pe_globE {x : Str} {v : V} {pos : Pos} (hg : Gl X x) (hm : ∃ u, X.mg x = some u ∧ RelV v u) (hd : (x == ("__debug__" : Str)) = false := by decide) : PE X (.Name x pos) (tC v) := by
  obtain ⟨u, hu, r⟩ := hm
  exact pe_glob hg hu r hd
abbrev hsW (w : World) : NestedKey → Int := fun k => k.hash w
/-- sorted(d.items()) -/
def wSortN (hs : NestedKey → Int) (wo : WE) : WE := fun ρ μ P => wo ρ μ fun x μ1 => match x with
  | .obj a => match μ1 a with
    | some (.dcN hs' kvs) => hs' = hs ∧ sortW (kvs.map itemN) μ1 P
    | _ => False
  | _ => False
variable {oe : Expr} {wo : WE} {p pos pos2 apos : Pos}
theorem d_sortN {k : Nat} (hr : Room k X.A) (hsm : ∃ o, X.base.get? sysModules = some o) (hg : Gl X "sorted") (hm : X.mg "sorted" = none) (ho : PE X oe (tD X.K wo)) (hc : X.calm = true := by rfl)
    (hbase : attributeBase oe "items" X.env (eval oe X.env) = eval oe X.env := by rfl) (hline : (apos.endLine == pos2.line) = true := by rfl)
    (hs2 : starEach [.Call (.Attribute oe "items" apos) [] [] pos2] X.env = [(false, eval (.Call (.Attribute oe "items" apos) [] [] pos2) X.env)] := by rfl) :
    PE X (.Call (.Name "sorted" p) [.Call (.Attribute oe "items" apos) [] [] pos2] [] pos) (tD X.K (wSortN (hsOf X) wo)) :=
  PE.imp (pe_callB (cr_sortN hr hsm hc) hg hm (by decide +kernel) (pa_cons (pe_mG0 ty_N PySem.F.plainAttrs_dict PySem.F.slot_dict_items PySem.F.type_dict_items mt_itemsN ho hbase hline) pa_nil hs2) (by decide) (by decide) hs2 rfl)
    fun σ H Q ⟨R, ρ, μ, P, a, w, k⟩ => ⟨R, ρ, μ, _, a, w, fun x μ1 v H1 p1 o1 s1 i1 => by
      cases i1 with
      | obj b =>
        have p1 : (match μ1 b with | some (.dcN hs' kvs) => hs' = hsOf X ∧ sortW (kvs.map itemN) μ1 P | _ => False) := p1
        split at p1
        case h_2 => exact p1.elim
        rename_i hs' kvs em
        obtain ⟨rfl, no, al, so, dp, sz, w⟩ := p1
        obtain ⟨es, hb, hk, hn, hkk, hv⟩ := o1.ob b _ em
        refine ⟨⟨b, _, es, rfl, hb⟩, b, _, es, rfl, rfl, hb, fun p hp => ?_⟩
        have o2 := o1.new (o := L2.DX.itemsO p b) hp
        have s2 := o1.sameNew (o := L2.DX.itemsO p b) hp
        have nb : b ≠ p := fun z => by subst z; rw [hp] at hb; cases hb
        refine ⟨p, b, hid R μ1 H1, es, kvs, rfl, upd_same, s2.trans hid_le, ⟨by rw [upd_ne nb]; exact hb, hk, hn⟩, hkk, hv, ⟨no, al, so, dp, sz⟩, fun H' ps l g hp' pm pw nl => ?_⟩
        obtain ⟨o3, s3⟩ := o2.grown g
        refine ((k.step s1).step (s2.trans s3)).lst o3 (w _ pm pw) (Iss.ofAll fun q hq => ?_) nl
        obtain ⟨c, oc, e, v, kk, y, h1, h2, h3, h4, h5, h6, h7⟩ := hp' q hq
        rw [h1, h2]
        have hc : hid R μ1 H' c = some (.frz oc (.tup [.ref e, v])) := by rw [hid_at (o2.freeR h3) (o2.freeM h3)]; exact h4
        have sm := s2.trans s3
        exact .tup (.inl ⟨oc, hc, h5⟩) (.cons (h6.mono sm) (.cons (h7.mono sm) .nil))
      | _ => exact (show False from p1).elim⟩
end
end Dz

set_option Elab.async false
set_option linter.all false
set_option maxRecDepth 100000
set_option maxHeartbeats 2000000
/-! DzH7: a def that leaves the objects as they were, dicts with tuple keys among the new ones. -/
namespace Dz
open PySem L2

/-- new lists and dicts aside, the same objects -/
def NewN (μ μ' : Mh) : Prop := ∀ b, μ' b = μ b ∨ (μ b = none ∧ ∃ o, μ' b = some o ∧ o ≠ .inner)
theorem NewN.refl {μ : Mh} : NewN μ μ := fun _ => .inl rfl
theorem NewN.upd {μ μ1 : Mh} {p : Addr} {o : MO} (h : NewN μ μ1) (n : μ p = none) (i : o ≠ .inner) : NewN μ (updM μ1 p o) := fun b => by
  by_cases e : b = p
  · subst e
    exact .inr ⟨n, o, updM_same, i⟩
  · rw [updM_ne e]
    exact h b
theorem NewN.del {μ μ1 : Mh} {p : Addr} (h : NewN μ μ1) (n : μ p = none) : NewN μ (delM μ1 p) := fun b => by
  by_cases e : b = p
  · subst e
    exact .inl (by rw [delM_same, n])
  · rw [delM_ne e]
    exact h b
theorem NewN.none {μ μ1 : Mh} {b : Addr} (h : NewN μ μ1) (n : μ1 b = none) : μ b = none := by
  rcases h b with e | ⟨e, _⟩
  · rw [← e]; exact n
  · exact e
theorem NewN.at {μ μ1 : Mh} {b : Addr} {o : MO} (h : NewN μ μ1) (n : μ b = some o) : μ1 b = some o := by
  rcases h b with e | ⟨e, _⟩
  · rw [e]; exact n
  · rw [n] at e; cases e
theorem NewN.trans {μ μ1 μ2 : Mh} (h : NewN μ μ1) (h2 : NewN μ1 μ2) : NewN μ μ2 := fun b => by
  rcases h2 b with e | ⟨e, o, e2, i⟩
  · rw [e]; exact h b
  · exact .inr ⟨h.none e, o, e2, i⟩
theorem Ok.restrictN {K : PySem.W.Frag} {R : Hp} {μ μ' : Mh} {H : Hp} (k : Ok K R μ' H) (n : NewN μ μ') : Ok K R μ H ∧ Same (hid R μ' H) (hid R μ H) := by
  have hs : Same (hid R μ' H) (hid R μ H) := fun b u e => by
    obtain ⟨e1, e2, e3⟩ := hid_some e
    rw [hid_at e1 (n.none e2)]
    exact e3
  refine ⟨⟨k.fr, fun b o e => n.none (k.dj b o e), fun b u e => ?_⟩, hs⟩
  have e' : μ' b = some u := n.at e
  refine (k.ob b u e').mono hs rfl (fun _ _ => rfl) e' (fun c q => ?_)
  rcases n c with z | ⟨_, o, z, i⟩
  · rw [← z]; exact q
  · rw [z] at q; cases q; exact (i rfl).elim
def wPureN (w : WS) : WS := fun E ρ μ => w { nx := fun ρ' μ' => NewN μ μ' ∧ E.nx ρ' μ, rt := fun d μ' => NewN μ μ' ∧ E.rt d μ } ρ μ
theorem dss_pureN {X : Cx} {body : List Stmt} {w : WS} (h : PSs X body (tDS X.K w)) : PSs X body (tDS X.K (wPureN w)) :=
  PSs.imp h fun D σ H ⟨R, ρ, μ, E, a, w, k⟩ => ⟨R, ρ, μ, _, a, w, {
    nx := fun ρ' μ' σ' H' p a' s' => by
      obtain ⟨o2, s2⟩ := a'.ok.restrictN p.1
      exact k.nx ρ' μ σ' H' p.2 ⟨o2, a'.sl.mono s2⟩ (s'.trans s2)
    rt := fun d μ' v H' p o' s' i => by
      obtain ⟨o2, s2⟩ := o'.restrictN p.1
      exact k.rt d μ v H' p.2 o2 (s'.trans s2) (i.mono s2)
    bk := fun _ _ _ _ p => p.elim
    ct := fun _ _ _ _ p => p.elim }⟩
end Dz

set_option Elab.async false
set_option linter.all false
set_option maxRecDepth 100000
set_option maxHeartbeats 2000000
/-! DzH8: {k: v} whose key is a tuple. -/
namespace Dz
open PySem PySem.Spec L2 PyProof.Rows

/-- a framed thing becomes an object -/
theorem Ok.unframeG {K : PySem.W.Frag} {R : Hp} {μ : Mh} {H : Hp} {D : Addr} {o : HO} {m : MO} (k : Ok K (upd R D o) μ H) (n : R D = none) (hm' : MOk K (hid (upd R D o) μ H) H (updM μ D m) D m) :
    Ok K R (updM μ D m) H ∧ hid R (updM μ D m) H = hid (upd R D o) μ H := by
  have hm : μ D = none := k.dj D _ upd_same
  have e : hid R (updM μ D m) H = hid (upd R D o) μ H := by
    funext b
    by_cases z : b = D
    · subst z
      have h1 : hid (upd R b o) μ H b = none := by
        unfold hid
        rw [if_neg fun q => by rw [upd_same] at q; exact Bool.false_ne_true q.1]
      have h2 : hid R (updM μ b m) H b = none := by
        unfold hid
        rw [if_neg fun q => by rw [updM_same] at q; exact Bool.false_ne_true q.2]
      rw [h1, h2]
    · unfold hid
      rw [upd_ne z, updM_ne z]
  refine ⟨⟨fun a u h => ?_, fun a u h => ?_, fun a u h => ?_⟩, e⟩
  · exact k.fr a u (by rw [upd_ne fun z => by subst z; rw [n] at h; cases h]; exact h)
  · have z : a ≠ D := fun z => by subst z; rw [n] at h; cases h
    rw [updM_ne z]
    exact k.dj a u (by rw [upd_ne z]; exact h)
  · rw [e]
    by_cases z : a = D
    · subst z
      rw [updM_same] at h
      cases h
      exact hm'
    · rw [updM_ne z] at h
      exact (k.ob a u h).mono (Same.refl _) rfl (fun _ _ => rfl) h fun c q => by
        rw [updM_ne fun w => by subst w; rw [hm] at q; cases q]
        exact q
section
variable {X : Cx} {pos : Pos} {kx vx : Expr} {tk tv : TE} {wk wv : WE}
def disp1Q (X : Cx) (p : Addr) (Q : VK) : List (V × V) → Hp → Prop := fun ps H2 => ∃ y b k d Hm, ps = [(.ref b, y)] ∧ Same Hm H2 ∧ Is X.K Hm (.ref b) d ∧ nkey d = some k ∧ k.depth ≤ 8 ∧ H2 p = some (rawN p (hsOf X) []) ∧
  Q (.ref p) (upd H2 p (rawN p (hsOf X) [(k, b, y)]))
def tDisp1N (X : Cx) (tk tv : TE) : TE := fun σ H Q => ∀ p, H p = none → tPairs [(tk, tv)] σ (upd H p (rawN p (hsOf X) [])) (disp1Q X p Q)
theorem pe_disp1N (hu : X.A.units + 8 < cLine) (hk : PE X kx tk) (hv : PE X vx tv) : PE X (.Dict [some kx] [vx] pos) (tDisp1N X tk tv) := by
  refine ⟨fun pins s σ H Q I h => ?_⟩
  have I1 := I.laid (a := s.heap.objs.size) (o := rawN s.heap.objs.size (hsOf X) []) (h' := s.heap.push { cls := .type "dict", data := .dict #[] }) (t' := s.toks) (fun _ _ q => Heap.get?_push_of_some _ q) (Nat.le_refl _)
    ⟨⟨Nat.zero_le _, beq_false_of_ne (Nat.ne_of_gt I.big), [], rfl, .nil, _, #[], 0, Heap.get?_push_size _ rfl, ⟨rfl, rfl, rfl⟩, rfl, rfl⟩, ⟨_, Heap.get?_push_size _ rfl⟩, by
      rintro h1 h2' ⟨z1, z2, xs', z3, z4, o, ds', ep', z5, z6⟩ keep
      exact ⟨z1, z2, xs', z3, z4, o, ds', ep', keep o z5, z6⟩⟩
  have q := h s.heap.objs.size (I.hok.fresh (Nat.le_refl _))
  refine wpAny_Dict_any rfl rfl (by simp) (Nat.le_of_ble_eq_true rfl) (thn ((pps_cons hk hv pps_nil).run pins _ σ _ _ I1 q) fun vs s2 ⟨ps, H2, I2, rel, hq⟩ => ?_)
  obtain ⟨y, b, k, d, Hm, rfl, sm, ik, nk, hd, hp, q2⟩ := hq
  cases rel with
  | @cons pa pb as bs hr t =>
    cases t
    obtain ⟨u1, u2⟩ := pb
    obtain ⟨r1, r2⟩ := hr
    obtain rfl := (show u1 = Value.ref b from r1)
    have n : NDict X.K (hsOf X) Hm H2 s.heap.objs.size [] := ⟨hp, fun e he => (by cases he), .nil⟩
    obtain ⟨_, hsys, xs, hx, dd⟩ := n.dict I2 sm
    have hxs : xs = [] := by
      have := congrArg List.length hx.1
      rw [List.length_map] at this
      exact List.eq_nil_of_length_eq_zero this
    subst hxs
    unfold storeAll
    rw [List.forIn_cons]
    refine wpAny_bind (wpAny_bind (wpAny_dictSet_heap (knd := KN X) (hsz := Nat.zero_le _) hu ⟨nkey_is I2 sm ik nk rfl, hd⟩ dd fun h' dd' hs => wpAny_pure ?_))
    dsimp only
    rw [List.forIn_nil]
    refine wpAny_pure ⟨.ref s.heap.objs.size, _, ?_, rfl, q2⟩
    obtain ⟨q, ds, ep, hq, h2, h3, h4, _, h5⟩ := dd'
    refine d_write I2 (by rw [hp]; exact True.intro) hs ⟨q, hq⟩ ⟨⟨?_, hsys, [(k, b, u2)], rfl, .cons r2 .nil, q, ds, ep, hq, h2, h3, h4⟩, ⟨q, hq⟩, ?_⟩
    · rw [sizeLine_eq]
      show 1 ≤ 16777216
      omega
    · rintro h1 h2' ⟨z1, z2, xs', z3, z4, o, ds', ep', z5, z6⟩ keep
      exact ⟨z1, z2, xs', z3, z4, o, ds', ep', keep o z5, z6⟩
/-- {k: v}: k a tuple -/
def wDctN1 (hs : NestedKey → Int) (wk wv : WE) : WE := fun ρ μ P => wk ρ μ fun y μ1 => wv ρ μ1 fun v μ2 => keyN y fun k => ∀ p, μ2 p = none → P (.obj p) (updM μ2 p (.dcN hs [(k, v)]))
theorem d_dctN1 {j : Nat} (hr : Room j X.A) (hk : PE X kx (tD X.K wk)) (hv : PE X vx (tD X.K wv)) : PE X (.Dict [some kx] [vx] pos) (tD X.K (wDctN1 (hsOf X) wk wv)) :=
  PE.imp (pe_disp1N (by have := hr.un; omega) hk hv) fun σ H Q ⟨R, ρ, μ, P, a, w, k⟩ => fun p n => by
    obtain ⟨o1, e1⟩ := a.ok.frame (o := rawN p (hsOf X) []) n
    refine ⟨upd R p (rawN p (hsOf X) []), ρ, μ, _, ⟨o1, by rw [e1]; exact a.sl⟩, w, fun y μ1 kv H1 p1 o2 s2 i2 => ⟨upd R p (rawN p (hsOf X) []), ρ, μ1, _, ⟨o2, (by rw [e1] at s2; exact a.sl.mono s2)⟩, p1, fun v μ2 vv H2 p2 o3 s3 i3 => ?_⟩⟩
    have p2 : keyN y fun k => ∀ p, μ2 p = none → P (.obj p) (updM μ2 p (.dcN (hsOf X) [(k, v)])) := p2
    obtain ⟨b, kk, rfl, nk, hd, w2⟩ := keyN_of (i2.mono s3) p2
    have mp : μ2 p = none := o3.dj p _ upd_same
    refine ⟨vv, b, kk, y, hid (upd R p (rawN p (hsOf X) [])) μ2 H2, rfl, hid_le, i2.mono s3, nk, hd, o3.fr p _ upd_same, ?_⟩
    obtain ⟨o4, e4⟩ := o3.reframe (o' := rawN p (hsOf X) [(kk, b, vv)])
    obtain ⟨o5, e5⟩ := o4.unframeG (m := .dcN (hsOf X) [(kk, v)]) (a.ok.freeR n) ⟨[(kk, b, vv)], upd_same, fun e he => by
      rw [List.mem_singleton] at he
      rw [he, e4]
      exact ⟨hd, y, i2.mono s3, nk⟩, List.pairwise_singleton _ _, rfl, by rw [e4]; exact .cons i3 .nil⟩
    rw [e1] at s2
    exact k _ _ _ _ (w2 p mp) o5 (by rw [e5, e4]; exact s2.trans s3) (.obj p)
end
end Dz

set_option Elab.async false
set_option linter.all false
set_option maxRecDepth 100000
set_option maxHeartbeats 4000000
/-! DzK1: own classes: fields of an instance, methods, instances made. -/
namespace Dz
open PySem PySem.Spec L2 PyProof.Rows StX

/-! ### fields -/
def putFD (f : Str) (d : DV) : List (Str × DV) → List (Str × DV)
  | [] => [(f, d)]
  | (g, x) :: r => if g = f then (g, d) :: r else (g, x) :: putFD f d r
theorem Iss.fields {K : PySem.W.Frag} {Hm : Hp} : ∀ {gs : List (Str × V)} {fs : List (Str × DV)} {f : Str} {d : DV}, gs.map (·.1) = fs.map (·.1) → Iss K Hm (gs.map (·.2)) (fs.map (·.2)) → fs.lookup f = some d → ∃ v, gs.lookup f = some v ∧ Is K Hm v d
  | [], [], _, _, _, _, l => by cases l
  | [], _ :: _, _, _, h, _, _ => by cases h
  | _ :: _, [], _, _, h, _, _ => by cases h
  | (g, v) :: gs, (g', d') :: fs, f, d, h, r, l => by
    have h1 : g = g' := (List.cons.inj h).1
    subst h1
    cases r with
    | cons r rr =>
      rw [List.lookup_cons] at l ⊢
      cases e : (f == g) with
      | true =>
        rw [e] at l
        cases l
        exact ⟨v, rfl, r⟩
      | false =>
        rw [e] at l
        exact Iss.fields (List.cons.inj h).2 rr l
theorem fields_none : ∀ {gs : List (Str × V)} {fs : List (Str × DV)} {f : Str}, gs.map (·.1) = fs.map (·.1) → fs.lookup f = none → gs.lookup f = none
  | [], [], _, _, _ => rfl
  | [], _ :: _, _, h, _ => by cases h
  | _ :: _, [], _, h, _ => by cases h
  | (g, v) :: gs, (g', d') :: fs, f, h, l => by
    have h1 : g = g' := (List.cons.inj h).1
    subst h1
    rw [List.lookup_cons] at l ⊢
    cases e : (f == g) with
    | true => rw [e] at l; cases l
    | false =>
      rw [e] at l
      exact fields_none (List.cons.inj h).2 l
theorem Iss.putF {K : PySem.W.Frag} {Hm : Hp} {f : Str} {v : V} {d : DV} (i : Is K Hm v d) : ∀ {gs : List (Str × V)} {fs : List (Str × DV)}, gs.map (·.1) = fs.map (·.1) → Iss K Hm (gs.map (·.2)) (fs.map (·.2)) →
    (L2.putF f v gs).map (·.1) = (putFD f d fs).map (·.1) ∧ Iss K Hm ((L2.putF f v gs).map (·.2)) ((putFD f d fs).map (·.2))
  | [], [], _, _ => ⟨rfl, .cons i .nil⟩
  | [], _ :: _, h, _ => by cases h
  | _ :: _, [], h, _ => by cases h
  | (g, w) :: gs, (g', d') :: fs, h, r => by
    have h1 : g = g' := (List.cons.inj h).1
    subst h1
    cases r with
    | cons r rr =>
      have ih := Iss.putF (f := f) i (List.cons.inj h).2 rr
      unfold L2.putF putFD
      by_cases e : g = f
      · rw [if_pos e, if_pos e]
        exact ⟨h, .cons i rr⟩
      · rw [if_neg e, if_neg e]
        exact ⟨by rw [List.map_cons, List.map_cons, ih.1], .cons r ih.2⟩
/-- e.f of an instance of C -/
def wFld (C : Addr) (f : Str) (w : WE) : WE := fun ρ μ P => w ρ μ fun x μ1 => match x with
  | .obj a => match μ1 a with
    | some (.ins C' fs) => C' = C ∧ atW (fs.lookup f) fun d => P d μ1
    | _ => False
  | _ => False
/-- e.f = v -/
def wPutF (C : Addr) (f : Str) (wo wv : WE) : WS := fun E ρ μ => wv ρ μ fun y μ1 => wo ρ μ1 fun x μ2 => match x with
  | .obj a => match μ2 a with
    | some (.ins C' fs) => C' = C ∧ fs.length < 1000 ∧ E.nx ρ (updM μ2 a (.ins C (putFD f y fs)))
    | _ => False
  | _ => False
section
variable {X : Cx} {C : Addr} {f : Str} {e o value : Expr} {pos pos' : Pos} {w wo wv : WE}
theorem d_fld (c : Cls X.K C) (n : NoAttr X.K C f) (he : PE X e (tD X.K w)) (hb : attributeBase e f X.env (eval e X.env) = eval e X.env := by rfl) : PE X (.Attribute e f pos) (tD X.K (wFld C f w)) :=
  PE.imp (pe_fld he hb) fun σ H Q ⟨R, ρ, μ, P, a, w, k⟩ => ⟨R, ρ, μ, _, a, w, fun x μ1 v H1 p1 o1 s1 i1 => by
    cases i1 with
    | obj b =>
      have p2 : (match μ1 b with | some (.ins C' fs) => C' = C ∧ atW (fs.lookup f) (fun d => P d μ1) | _ => False) := p1
      split at p2
      · rename_i C' fs em
        obtain ⟨rfl, p3⟩ := p2
        obtain ⟨d, hd, p4⟩ := atW_of p3
        obtain ⟨dx, gs, hH, hk, hr⟩ := o1.ob b _ em
        obtain ⟨v, hv, iv⟩ := Iss.fields hk hr hd
        exact ⟨b, C', dx, gs, v, rfl, hH, c, n, hv, k _ _ _ _ p4 o1 s1 iv⟩
      · exact p2.elim
    | _ => exact (show False from p1).elim⟩
theorem ds_fld (c : Cls X.K C) (n : NoAttr X.K C f) (ho : PE X o (tD X.K wo)) (hv : PE X value (tD X.K wv)) (hs : swapsWith value (some (.Attribute o f pos')) pos.line X.env = pure false := by rfl) : PS X (.Assign [.Attribute o f pos'] value pos) (tDS X.K (wPutF C f wo wv)) :=
  PS.imp (ps_fld ho hv hs) fun D σ H ⟨R, ρ, μ, E, a, w, k⟩ => ⟨R, ρ, μ, _, a, w, fun y μ1 v H1 p1 o1 s1 i1 => ⟨R, ρ, μ1, _, a.step o1 s1, p1, fun x μ2 u H2 p2 o2 s2 i2 => by
    cases i2 with
    | obj b =>
      have p3 : (match μ2 b with | some (.ins C' fs) => C' = C ∧ fs.length < 1000 ∧ E.nx ρ (updM μ2 b (.ins C (putFD f y fs))) | _ => False) := p2
      split at p3
      · rename_i C' fs em
        obtain ⟨rfl, hl, p4⟩ := p3
        obtain ⟨dx, gs, hH, hk, hr⟩ := o2.ob b _ em
        obtain ⟨h1, h2⟩ := Iss.putF (f := f) (i1.mono s2) hk hr
        obtain ⟨o4, e4⟩ := o2.setM (o := .ins C' dx (L2.putF f v gs)) (m := .ins C' (putFD f y fs)) em (by intro z; cases z) ⟨dx, _, upd_same, h1, h2⟩
        have hlen : gs.length = fs.length := by have := congrArg List.length hk; simpa using this
        refine ⟨b, C', dx, gs, rfl, hH, c, n, by rw [hlen]; exact hl, k.nx ρ _ σ _ p4 ⟨o4, ?_⟩ ?_⟩
        · rw [e4]
          exact a.sl.mono (s1.trans s2)
        · rw [e4]
          exact s1.trans s2
      · exact p3.elim
    | _ => exact (show False from p2).elim⟩⟩
end
end Dz

set_option Elab.async false
set_option linter.all false
set_option maxRecDepth 100000
set_option maxHeartbeats 4000000
/-! DzK2: methods called, instances made. -/
namespace Dz
open PySem PySem.Spec L2 PyProof.Rows StX

/-- the method m of the class C is the def st -/
def AtM (K : PySem.W.Frag) (C : Addr) (m qual : Str) (st : Stmt) : Prop := ∃ f fd, Cls K C ∧ Meth K C m f ∧ Fun K m qual st f fd
def DefM (P : Program) (w : World) (K : PySem.W.Frag) (mg : Str → Option Value) (base : Heap) (k : Nat) (C : Addr) (m qual : Str) (st : Stmt) (ps : List Str) (wf : WF) : Prop :=
  ∃ f fd, Cls K C ∧ Meth K C m f ∧ Fun K m qual st f fd ∧ FnG P w K mg base k f fd ps (spD K ps.length wf)
theorem DefM.mono {P : Program} {w : World} {K : PySem.W.Frag} {mg : Str → Option Value} {base : Heap} {j k : Nat} {C : Addr} {m qual : Str} {st : Stmt} {ps : List Str} {wf : WF} (h : DefM P w K mg base j C m qual st ps wf) (l : j ≤ k) : DefM P w K mg base k C m qual st ps wf :=
  let ⟨f, fd, a, b, c, d⟩ := h; ⟨f, fd, a, b, c, d.mono l⟩
theorem DefM.no {P : Program} {w : World} {K : PySem.W.Frag} {mg : Str → Option Value} {base : Heap} {k : Nat} {C : Addr} {m qual : Str} {st : Stmt} {ps : List Str} (h : AtM K C m qual st) : DefM P w K mg base k C m qual st ps wfNo := by
  obtain ⟨f, fd, a, b, c⟩ := h
  exact ⟨f, fd, a, b, c, fun vs H Q E ⟨_, _, _, _, _, _, _, z, _⟩ => z.elim, fun A fr s H ar us vs Q E _ _ _ _ _ ⟨_, _, _, _, _, _, _, z, _⟩ => z.elim⟩
theorem defM_of {P : Program} {w0 : World} {K : PySem.W.Frag} {mg : Str → Option Value} {base : Heap} {C : Addr} {m qual : Str} {st : Stmt} {N ps : List Str} {k : Nat} {w : WS} {wf : WF} (h : AtM K C m qual st) (S : FnScope N ps (defScope st))
    (hb : ∀ (f : Addr) (cdv : Value) (A : Around) (outer : List Env) (s : Shared) (H : Hp) (E : XK), A.guards = some [] → Room k (A.deeper (PyProof.Rows.envOfC qual (defScope st) s.heap.objs.size f cdv)) →
      PSs (cxOf CX0 P w0 K mg base N qual (defScope st) f cdv A outer s H E).nox (defBody st) (tDS K w))
    (hw : ∀ ds μ Q, ds.length = ps.length → wf ds μ Q → w { nx := fun _ μ' => Q .none μ', rt := Q } (ds.map some ++ List.replicate (N.length - ps.length) none) μ) : DefM P w0 K mg base (k + 1) C m qual st ps wf := by
  obtain ⟨f, fd, a, b, F⟩ := h
  exact ⟨f, fd, a, b, F, fn_dat F S rfl (hb f) hw⟩
/-- o.m(e, ..), o an instance of C -/
def wMeth (C : Addr) (m : Str) (n : Nat) (wf : WF) (wo : WE) (wa : WA) : WE := fun ρ μ P => wo ρ μ fun x μ1 => match x with
  | .obj a => (match μ1 a with | some (.ins C' fs) => C' = C ∧ fs.lookup m = none | _ => False) ∧ wa ρ μ1 fun ds μ2 => (DV.obj a :: ds).length = n ∧ wf (.obj a :: ds) μ2 P
  | _ => False
section
variable {X : Cx} {k j n : Nat} {C : Addr} {st : Stmt} {ps : List Str} {wf : WF} {m qual : Str} {apos pos : Pos} {o e : Expr} {es : List Expr} {wo : WE} {wa : WA} {pl : Sem Bool}
theorem insOf {K : PySem.W.Frag} {R : Hp} {μ : Mh} {H : Hp} {b C : Addr} {m : Str} (o : Ok K R μ H) (h : match μ b with | some (.ins C' fs) => C' = C ∧ fs.lookup m = none | _ => False) : ∃ dx gs, H b = some (.ins C dx gs) ∧ gs.lookup m = none := by
  split at h
  · rename_i C' fs em
    obtain ⟨rfl, hl⟩ := h
    obtain ⟨dx, gs, hH, hk, hr⟩ := o.ob b _ em
    exact ⟨dx, gs, hH, fields_none hk hl⟩
  · exact h.elim
theorem d_meth (D : DefM X.prog X.w X.K X.mg X.base k C m qual st ps wf) (hgd : X.A.guards = some []) (hr : Room j X.A) (hk : k ≤ j) (ho : PE X o (tD X.K wo))
    (hb : ∀ (kV doc pm : Value) (an : Option Addr) (cdv ct : Value) (us : List Value), us.length = ps.length → bindArgs (PySem.W.fnOf m qual (defArgs st) (defBody st) (defScope st) .none kV doc pm an cdv ct) ⟨us, []⟩ = pure (ps.zip us))
    (ha : PA X (e :: es) (tDA X.K wa)) (hst : starEach (e :: es) X.env = (false, eval e X.env) :: starEach es X.env := by rfl) (hpl : (backTo pos (starEach es X.env)).any (·.1) = false := by rfl)
    (ht : eval (.Call (.Attribute o m apos) (e :: es) [] pos) X.env = (do
      let ov ← eval o X.env
      standAt apos.atName
      let (f, first) ← holding [ov] (getMethod ov m pl)
      callWith pos f first (backTo pos (starEach (e :: es) X.env)) (backToKw pos (keywordEach [] X.env))) := by rfl) (hn : ps.length = n := by rfl) :
    PE X (.Call (.Attribute o m apos) (e :: es) [] pos) (tD X.K (wMeth C m n wf wo wa)) := by
  subst hn
  obtain ⟨f, fd, c, hm, F, G⟩ := D
  refine ⟨fun pins s σ H Q I ⟨R, ρ, μ, P, a, w, kk⟩ => ?_⟩
  have h1 : tD X.K wo σ H (fun x H1 => ∃ b dx gs, x = V.ref b ∧ H1 b = some (.ins C dx gs) ∧ gs.lookup m = none ∧ tDA X.K wa σ H1 fun vs H2 => spD X.K ps.length wf (.ref b :: vs) H2 Q E0) := ⟨R, ρ, μ, _, a, w, fun x μ1 v H1 p1 o1 s1 i1 => by
    cases i1 with
    | obj b =>
      obtain ⟨p2, p3⟩ := p1
      obtain ⟨dx, gs, e1, e2⟩ := insOf o1 p2
      exact ⟨b, dx, gs, rfl, e1, e2, R, ρ, μ1, _, a.step o1 s1, p3, fun ds μ2 vs H2 p4 o2 s2 i2 => ⟨R, .obj b :: ds, μ2, P, o2, .cons (.obj b) i2, p4.1, p4.2, kk.step (s1.trans s2)⟩⟩
    | _ => exact (show False from p1).elim⟩
  refine PySem.W.methodCall_KW (pl := pl) (thn (ho.run pins s σ H _ I h1) fun u s1 ⟨x, H1, I1, rx, b, dx, fs, ex, ea, l, q⟩ => ?_) ht
  subst ex
  obtain rfl : u = Value.ref b := rx
  refine getmeth_ok I1 ea c hm l ?_
  refine PySem.W.callWith_K (first := [.ref b]) (h₀ := X.base) I.ok.mod.kin hm.kp (thn (ha.run pos pins s1 σ H1 _ I1 q) fun us s2 ⟨vs, H2, I2, r, q2⟩ => ⟨I2.kIn, ?_⟩) hst hpl
  have rr : Vals (V.ref b :: vs) (Value.ref b :: us) := .cons rfl r
  have hbb := F.binds hb s2 (.ref b :: us) I2.kIn (by rw [List.append_nil, ← rr.length]; exact G.len _ _ _ _ q2)
  rw [List.append_nil] at hbb
  exact runG (ar := ⟨.ref b :: us, []⟩) G hgd (hr.mono hk) I2 hbb rr q2
theorem d_meth0 (D : DefM X.prog X.w X.K X.mg X.base k C m qual st ps wf) (hgd : X.A.guards = some []) (hr : Room j X.A) (hk : k ≤ j) (ho : PE X o (tD X.K wo))
    (hb : ∀ (kV doc pm : Value) (an : Option Addr) (cdv ct : Value) (us : List Value), us.length = ps.length → bindArgs (PySem.W.fnOf m qual (defArgs st) (defBody st) (defScope st) .none kV doc pm an cdv ct) ⟨us, []⟩ = pure (ps.zip us))
    (ht : eval (.Call (.Attribute o m apos) [] [] pos) X.env = (do
      let ov ← eval o X.env
      standAt apos.atName
      let (f, first) ← holding [ov] (getMethod ov m pl)
      callWith pos f first (backTo pos (starEach [] X.env)) (backToKw pos (keywordEach [] X.env))) := by rfl) (hn : ps.length = n := by rfl) :
    PE X (.Call (.Attribute o m apos) [] [] pos) (tD X.K (wMeth C m n wf wo wNil)) := by
  subst hn
  obtain ⟨f, fd, c, hm, F, G⟩ := D
  refine ⟨fun pins s σ H Q I ⟨R, ρ, μ, P, a, w, kk⟩ => ?_⟩
  have h1 : tD X.K wo σ H (fun x H1 => ∃ b dx gs, x = V.ref b ∧ H1 b = some (.ins C dx gs) ∧ gs.lookup m = none ∧ spD X.K ps.length wf [.ref b] H1 Q E0) := ⟨R, ρ, μ, _, a, w, fun x μ1 v H1 p1 o1 s1 i1 => by
    cases i1 with
    | obj b =>
      obtain ⟨p2, p3⟩ := p1
      obtain ⟨dx, gs, e1, e2⟩ := insOf o1 p2
      exact ⟨b, dx, gs, rfl, e1, e2, R, [.obj b], μ1, P, o1, .cons (.obj b) .nil, p3.1, p3.2, kk.step s1⟩
    | _ => exact (show False from p1).elim⟩
  refine PySem.W.methodCall_KW (pl := pl) (thn (ho.run pins s σ H _ I h1) fun u s1 ⟨x, H1, I1, rx, b, dx, fs, ex, ea, l, q⟩ => ?_) ht
  subst ex
  obtain rfl : u = Value.ref b := rx
  refine getmeth_ok I1 ea c hm l ?_
  have rr : Vals [V.ref b] [Value.ref b] := .cons rfl .nil
  have hbb := F.binds hb s1 [.ref b] I1.kIn (by rw [List.append_nil, ← rr.length]; exact G.len _ _ _ _ q)
  rw [List.append_nil] at hbb
  exact PySem.W.callWith_K0 (first := [.ref b]) I1.kIn hm.kp (runG (ar := ⟨[.ref b], []⟩) G hgd (hr.mono hk) I1 hbb rr q)
end
end Dz

set_option Elab.async false
set_option linter.all false
set_option maxRecDepth 100000
set_option maxHeartbeats 4000000
/-! DzK3: C(..), an instance made. -/
namespace Dz
open PySem PySem.Spec L2 PyProof.Rows StX

theorem guards_make {A : Around} (h : A.guards = some []) (C : Addr) (us : List Value) (kw : List (Str × Value)) : (A.under (.builtin "type.__call__" ⟨.ref C :: us, kw⟩)).guards = some [] := by
  first
    | exact h
    | (unfold Around.under; rw [h]; rfl)
    | (simp [Around.under, h]; done)
/-- the class C makes its instances by the def st -/
def DefK (P : Program) (w : World) (K : PySem.W.Frag) (mg : Str → Option Value) (base : Heap) (k : Nat) (x : Str) (C : Addr) (qual : Str) (st : Stmt) (ps : List Str) (wf : WF) : Prop :=
  ∃ f fd, Mk K C f ∧ mg x = some (.ref C) ∧ Fun K "__init__" qual st f fd ∧ FnG P w K mg base k f fd ps (spD K ps.length wf)
def AtK (K : PySem.W.Frag) (mg : Str → Option Value) (x : Str) (C : Addr) (qual : Str) (st : Stmt) : Prop := ∃ f fd, Mk K C f ∧ mg x = some (.ref C) ∧ Fun K "__init__" qual st f fd
theorem DefK.mono {P : Program} {w : World} {K : PySem.W.Frag} {mg : Str → Option Value} {base : Heap} {j k : Nat} {x : Str} {C : Addr} {qual : Str} {st : Stmt} {ps : List Str} {wf : WF} (h : DefK P w K mg base j x C qual st ps wf) (l : j ≤ k) : DefK P w K mg base k x C qual st ps wf :=
  let ⟨f, fd, a, b, c, d⟩ := h; ⟨f, fd, a, b, c, d.mono l⟩
theorem defK_of {P : Program} {w0 : World} {K : PySem.W.Frag} {mg : Str → Option Value} {base : Heap} {x : Str} {C : Addr} {qual : Str} {st : Stmt} {N ps : List Str} {k : Nat} {w : WS} {wf : WF} (h : AtK K mg x C qual st) (S : FnScope N ps (defScope st))
    (hb : ∀ (f : Addr) (cdv : Value) (A : Around) (outer : List Env) (s : Shared) (H : Hp) (E : XK), A.guards = some [] → Room k (A.deeper (PyProof.Rows.envOfC qual (defScope st) s.heap.objs.size f cdv)) →
      PSs (cxOf CX0 P w0 K mg base N qual (defScope st) f cdv A outer s H E).nox (defBody st) (tDS K w))
    (hw : ∀ ds μ Q, ds.length = ps.length → wf ds μ Q → w { nx := fun _ μ' => Q .none μ', rt := Q } (ds.map some ++ List.replicate (N.length - ps.length) none) μ) : DefK P w0 K mg base (k + 1) x C qual st ps wf := by
  obtain ⟨f, fd, a, b, F⟩ := h
  exact ⟨f, fd, a, b, F, fn_dat F S rfl (hb f) hw⟩
/-- C(..) -/
def wMake (C : Addr) (n : Nat) (wf : WF) (wa : WA) : WE := fun ρ μ P => wa ρ μ fun ds μ1 => ∀ p, μ1 p = none → (DV.obj p :: ds).length = n ∧ wf (.obj p :: ds) (updM μ1 p (.ins C [])) fun r μ2 => r = .none ∧ P (.obj p) μ2
section
variable {X : Cx} {k j n : Nat} {C : Addr} {st : Stmt} {ps : List Str} {wf : WF} {x qual : Str} {p pos : Pos} {e : Expr} {es : List Expr} {wa : WA}
theorem runGmake {pins : List (Addr × Obj)} {σ : L2.St} {H : Hp} {s : Shared} {Q : VK} {us : List Value} {vs : List V} {f : Addr} {fd : FuncData} {sp : Sp} (M : Mk X.K C f) (F : FnG X.prog X.w X.K X.mg X.base k f fd ps sp) (hgd : X.A.guards = some []) (hr : Room (k + 1) X.A) (hb : Binds X.K fd ps [])
    (I : Inv X pins σ H s) (r : Vals vs us)
    (h : ∀ x dx, H x = none → H dx = none → dx ≠ x → sp (.ref x :: vs) (upd (upd H dx (.own x)) x (.ins C dx [])) (fun v H2 => v = .non ∧ Q (.ref x) H2) E0) :
    wpAny (model X.prog X.w) X.A (call (.ref C) us) (EP X pins σ Q) X.xe s := by
  have hq := h (s.heap.objs.size + 1) s.heap.objs.size (I.hok.fresh (Nat.le_succ _)) (I.hok.fresh (Nat.le_refl _)) (Nat.ne_of_lt (Nat.lt_succ_self _))
  have I2 := Inv.made (C := C) I
  have r2 : Vals (V.ref (s.heap.objs.size + 1) :: vs) (Value.ref (s.heap.objs.size + 1) :: us) := .cons rfl r
  have hl : (Value.ref (s.heap.objs.size + 1) :: us).length = ps.length := by
    have e := r2.length
    rw [F.len _ _ _ _ hq] at e
    exact e.symm
  have hbb := hb _ (Value.ref (s.heap.objs.size + 1) :: us) I2.kIn (by rw [List.append_nil]; exact hl)
  rw [List.append_nil] at hbb
  refine wpAny_call (make_map (f := f) I.kIn M.makes M.init (beq_iff_eq.mp M.fn) (codeAny_mono (F.run _ X.stack _ _ ⟨Value.ref (s.heap.objs.size + 1) :: us, []⟩ (Value.ref (s.heap.objs.size + 1) :: us) _ _ E0 (guards_make hgd C us []) (hr.make C us [])
    (I2.env0.make C us []) hbb r2 hq) fun r s' hq' => ?_))
  match r, hq' with
  | .ok (.ret u), hq' =>
    obtain ⟨v, H', I3, rv, ev, q3⟩ := I2.after hq'
    subst ev
    exact ⟨rv, ⟨V.ref (s.heap.objs.size + 1), H', I3, rfl, q3⟩⟩
/-- the new instance over data -/
theorem make_imp {K : PySem.W.Frag} {R : Hp} {μ : Mh} {H : Hp} {P : DV → Mh → Prop} {Q : VK} {vs : List V} {ds : List DV} (o : Ok K R μ H) (i : Iss K (hid R μ H) vs ds) (kk : Nxt K R μ H P Q)
    (h : ∀ p, μ p = none → (DV.obj p :: ds).length = ps.length ∧ wf (.obj p :: ds) (updM μ p (.ins C [])) fun r μ2 => r = .none ∧ P (.obj p) μ2) (x dx : Addr) (nx : H x = none) (nd : H dx = none) (ne : dx ≠ x) :
    spD K ps.length wf (.ref x :: vs) (upd (upd H dx (.own x)) x (.ins C dx [])) (fun v H2 => v = .non ∧ Q (.ref x) H2) E0 := by
  have o1 := o.new (o := .own x) nd
  have s1 := o.sameNew (o := .own x) nd
  have nx1 : upd H dx (.own x) x = none := by rw [upd_ne (Ne.symm ne)]; exact nx
  obtain ⟨o2, s2⟩ := o1.newM (o := .ins C dx []) (m := .ins C []) nx1 ⟨dx, [], upd_same, rfl, .nil⟩ (by intro z; cases z)
  obtain ⟨h1, h2⟩ := h x (o.freeM nx)
  refine ⟨R, .obj x :: ds, _, _, o2, .cons (.obj x) (i.mono (s1.trans s2)), h1, h2, fun d μ' v H' ⟨hd, hp⟩ o' s' i' => ?_⟩
  subst hd
  cases i'
  exact ⟨rfl, kk _ _ _ _ hp o' ((s1.trans s2).trans s') (.obj x)⟩
theorem d_make (D : DefK X.prog X.w X.K X.mg X.base k x C qual st ps wf) (hgd : X.A.guards = some []) (hr : Room j X.A) (hk : k + 1 ≤ j) (hg : Gl X x)
    (hb : ∀ (kV doc pm : Value) (an : Option Addr) (cdv ct : Value) (us : List Value), us.length = ps.length → bindArgs (PySem.W.fnOf "__init__" qual (defArgs st) (defBody st) (defScope st) .none kV doc pm an cdv ct) ⟨us, []⟩ = pure (ps.zip us))
    (ha : PA X (e :: es) (tDA X.K wa)) (hdb : (x == ("__debug__" : Str)) = false := by decide) (he : starEach (e :: es) X.env = (false, eval e X.env) :: starEach es X.env := by rfl) (hpl : (backTo pos (starEach es X.env)).any (·.1) = false := by rfl) (hn : ps.length = n := by rfl) :
    PE X (.Call (.Name x p) (e :: es) [] pos) (tD X.K (wMake C n wf wa)) := by
  subst hn
  obtain ⟨f, fd, M, hm, F, G⟩ := D
  refine ⟨fun pins s σ H Q I ⟨R, ρ, μ, P, a, w, kk⟩ => ?_⟩
  have h1 : tDA X.K wa σ H (fun vs H1 => ∀ x dx, H1 x = none → H1 dx = none → dx ≠ x → spD X.K ps.length wf (.ref x :: vs) (upd (upd H1 dx (.own x)) x (.ins C dx [])) (fun v H2 => v = .non ∧ Q (.ref x) H2) E0) := ⟨R, ρ, μ, _, a, w, fun ds μ1 vs H1 p1 o1 s1 i1 => make_imp o1 i1 (kk.step s1) p1⟩
  refine wpAny_Call_Name_kw (ld_glob I hg hm ?_ hdb)
  refine PySem.W.callWith_K (h₀ := X.base) I.ok.mod.kin M.kp (thn (ha.run pos pins s σ H _ I h1) fun us s1 ⟨vs, H1, I1, r, q⟩ => ⟨I1.kIn, ?_⟩) he hpl
  exact runGmake M G hgd (hr.mono hk) (F.binds hb) I1 r q
theorem d_make0 (D : DefK X.prog X.w X.K X.mg X.base k x C qual st ps wf) (hgd : X.A.guards = some []) (hr : Room j X.A) (hk : k + 1 ≤ j) (hg : Gl X x)
    (hb : ∀ (kV doc pm : Value) (an : Option Addr) (cdv ct : Value) (us : List Value), us.length = ps.length → bindArgs (PySem.W.fnOf "__init__" qual (defArgs st) (defBody st) (defScope st) .none kV doc pm an cdv ct) ⟨us, []⟩ = pure (ps.zip us))
    (hdb : (x == ("__debug__" : Str)) = false := by decide) (hn : ps.length = n := by rfl) : PE X (.Call (.Name x p) [] [] pos) (tD X.K (wMake C n wf wNil)) := by
  subst hn
  obtain ⟨f, fd, M, hm, F, G⟩ := D
  refine ⟨fun pins s σ H Q I ⟨R, ρ, μ, P, a, w, kk⟩ => ?_⟩
  refine wpAny_Call_Name_kw (ld_glob I hg hm ?_ hdb)
  exact PySem.W.callWith_K0 I.kIn M.kp (runGmake (us := []) M G hgd (hr.mono hk) (F.binds hb) I .nil (make_imp a.ok .nil kk w))
end
end Dz

set_option Elab.async false
set_option linter.all false
set_option maxRecDepth 100000
set_option maxHeartbeats 4000000
/-! DzK5: operators that an own class defines (+, in, ==), isinstance of an own class, C(*xs), f-strings. -/
namespace Dz
open PySem PySem.Spec L2 PyProof.Rows StX

/-- x is an instance of C -/
def insAt (C : Addr) (μ : Mh) (x : DV) (P : Prop) : Prop := match x with
  | .obj a => match μ a with
    | some (.ins C' _) => C' = C ∧ P
    | _ => False
  | _ => False
theorem insAt_of {K : PySem.W.Frag} {R : Hp} {μ : Mh} {H : Hp} {C : Addr} {v : V} {x : DV} {P : Prop} (o : Ok K R μ H) (i : Is K (hid R μ H) v x) (h : insAt C μ x P) : ∃ a dx gs, v = .ref a ∧ H a = some (.ins C dx gs) ∧ P := by
  cases i with
  | obj b =>
    have h2 : (match μ b with | some (.ins C' _) => C' = C ∧ P | _ => False) := h
    split at h2
    · rename_i C' fs em
      obtain ⟨rfl, hp⟩ := h2
      obtain ⟨dx, gs, hH, _⟩ := o.ob b _ em
      exact ⟨b, dx, gs, rfl, hH, hp⟩
    · exact h2.elim
  | _ => exact (show False from h).elim
/-- x op y, both instances of C -/
def wOpO (C : Addr) (wf : WF) : W2 := fun x y μ P => insAt C μ x (insAt C μ y (wf [x, y] μ P))
/-- y in x, x an instance of C -/
def wInO (C : Addr) (wf : WF) (neg : Bool) : W2 := fun y x μ P => insAt C μ x (wf [x, y] μ fun r μ1 => match r with | .bool b => P (.bool (Bool.xor neg b)) μ1 | _ => False)
def rOpO (K : PySem.W.Frag) (C : Addr) (wf : WF) : R2 := fun x y H Q => ∃ a dx fs b dy gs, x = .ref a ∧ y = .ref b ∧ H a = some (.ins C dx fs) ∧ H b = some (.ins C dy gs) ∧ spD K 2 wf [.ref a, .ref b] H Q E0
def rInO (K : PySem.W.Frag) (C : Addr) (wf : WF) (neg : Bool) : R2 := fun y x H Q => ∃ a dx fs, x = .ref a ∧ H a = some (.ins C dx fs) ∧ spD K 2 wf [.ref a, y] H (fun r H1 => ∃ b, r = .bl b ∧ Q (.bl (Bool.xor neg b)) H1) E0
theorem rOpO_rd {K : PySem.W.Frag} {C : Addr} {wf : WF} : R2D K (rOpO K C wf) (wOpO C wf) := by
  intro R μ H x y dx dy P Q ok ix iy w k
  obtain ⟨a, d1, g1, rfl, h1, w1⟩ := insAt_of ok ix w
  obtain ⟨b, d2, g2, rfl, h2, w2⟩ := insAt_of ok iy w1
  exact ⟨a, d1, g1, b, d2, g2, rfl, rfl, h1, h2, R, [dx, dy], μ, P, ok, .cons ix (.cons iy .nil), rfl, w2, k⟩
theorem rInO_rd {K : PySem.W.Frag} {C : Addr} {wf : WF} {neg : Bool} : R2D K (rInO K C wf neg) (wInO C wf neg) := by
  intro R μ H y x dy dx P Q ok iy ix w k
  obtain ⟨a, d1, g1, rfl, h1, w1⟩ := insAt_of ok ix w
  refine ⟨a, d1, g1, rfl, h1, R, [dx, dy], μ, _, ok, .cons ix (.cons iy .nil), rfl, w1, ?_⟩
  intro d μ' v H' hp o' s' i'
  cases i' with
  | bool b => exact ⟨b, rfl, k _ _ _ _ hp o' s' (.bool _)⟩
  | _ => exact (show False from hp).elim
section
variable {X : Cx} {k j : Nat} {C : Addr} {st : Stmt} {ps : List Str} {wf : WF} {m qual : Str} {pos : Pos} {ea eb : Expr} {wa wb : WE}
/-- what binding asks of a def's parameters -/
def BindsD (m qual : Str) (st : Stmt) (ps : List Str) : Prop := ∀ (kV doc pm : Value) (an : Option Addr) (cdv ct : Value) (us : List Value), us.length = ps.length → bindArgs (PySem.W.fnOf m qual (defArgs st) (defBody st) (defScope st) .none kV doc pm an cdv ct) ⟨us, []⟩ = pure (ps.zip us)
theorem op_own {op : Operator} (D : DefM X.prog X.w X.K X.mg X.base k C m qual st ps wf) (hgd : X.A.guards = some []) (hr : Room j X.A) (hk : k ≤ j) (hsf : PySem.W.selfFirst X.K C = true) (hb : BindsD m qual st ps) (hn : ps.length = 2) (hm : PySem.dunder op.info.2 = m) : OpR X (binaryOp op) (rOpO X.K C wf) := by
  obtain ⟨f, fd, c, hM, F, G⟩ := D
  intro pins s σ H x y v u Q I rx ry ⟨a, dx, fs, b, dy, gs, ex, ey, ha, hb', q⟩
  subst ex ey
  cases rx
  cases ry
  obtain ⟨mA, J, _⟩ := ins_get I.hok ha
  obtain ⟨mB, J', _⟩ := ins_get I.hok hb'
  obtain ⟨od, J, _⟩ := J.look
  obtain ⟨od', J', _⟩ := J'.look
  obtain ⟨mm, hF⟩ := I.fr
  refine PySem.W.binop_K hF I.ok.mod.kin J J'.type hsf (hm ▸ hM.at_) hM.fn ?_
  have rr : Vals [V.ref a, V.ref b] [Value.ref a, Value.ref b] := .cons rfl (.cons rfl .nil)
  have hbb := F.binds hb s [.ref a, .ref b] I.kIn (by rw [List.append_nil]; exact hn.symm)
  rw [List.append_nil] at hbb
  rw [← hn] at q
  exact thn (runG (ar := ⟨[.ref a, .ref b], []⟩) G hgd (hr.mono hk) I hbb rr q) fun v s' ⟨z, H', I', rz, q'⟩ => SlX.cmpback rz ⟨z, H', I', rz, q'⟩
theorem op_ownEq (D : DefM X.prog X.w X.K X.mg X.base k C "__eq__" qual st ps wf) (hgd : X.A.guards = some []) (hr : Room j X.A) (hk : k ≤ j) (hb : BindsD "__eq__" qual st ps) (hn : ps.length = 2) : OpR X (compareOp .Eq) (rOpO X.K C wf) := by
  obtain ⟨f, fd, c, hM, F, G⟩ := D
  intro pins s σ H x y v u Q I rx ry ⟨a, dx, fs, b, dy, gs, ex, ey, ha, hb', q⟩
  subst ex ey
  cases rx
  cases ry
  obtain ⟨mA, J, _⟩ := ins_get I.hok ha
  obtain ⟨mB, J', _⟩ := ins_get I.hok hb'
  obtain ⟨od, J, _⟩ := J.look
  obtain ⟨od', J', _⟩ := J'.look
  obtain ⟨mm, hF⟩ := I.fr
  show wpAny (model X.prog X.w) X.A (richCompare .Eq (.ref a) (.ref b)) (EP X pins σ Q) X.xe s
  refine PySem.W.cmp_K (op := .Eq) (tb := .ref C) hr.units0 hF I.ok.mod.kin J J'.type (by simp [PySem.W.notFirst]) hM.at_ hM.fn ?_
  have rr : Vals [V.ref a, V.ref b] [Value.ref a, Value.ref b] := .cons rfl (.cons rfl .nil)
  have hbb := F.binds hb s [.ref a, .ref b] I.kIn (by rw [List.append_nil]; exact hn.symm)
  rw [List.append_nil] at hbb
  rw [← hn] at q
  exact thn (runG (ar := ⟨[.ref a, .ref b], []⟩) G hgd (hr.mono hk) I hbb rr q) fun v s' ⟨z, H', I', rz, q'⟩ => SlX.cmpback rz ⟨z, H', I', rz, q'⟩
theorem in_core {pins : List (Addr × Obj)} {s : Shared} {σ : L2.St} {H : Hp} {y : V} {v : Value} {a : Addr} {Q : VK} {g : Bool → Bool}
    {f : Addr} {fd : FuncData} (F : Fun X.K "__contains__" qual st f fd) (G : FnG X.prog X.w X.K X.mg X.base k f fd ps (spD X.K ps.length wf)) (hgd : X.A.guards = some []) (hr : Room j X.A) (hk : k ≤ j) (hb : BindsD "__contains__" qual st ps) (hn : ps.length = 2)
    (I : Inv X pins σ H s) (ry : RelV y v) (q : spD X.K 2 wf [.ref a, y] H (fun r H1 => ∃ b, r = .bl b ∧ Q (.bl (g b)) H1) E0) :
    wpAny (model X.prog X.w) X.A (call (.ref f) [.ref a, v]) (fun r s' => wpAny (model X.prog X.w) X.A (truthy r) (fun b s' => EP X pins σ Q (.bool (g b)) s') X.xe s') X.xe s := by
  have rr : Vals [V.ref a, y] [Value.ref a, v] := .cons rfl (.cons ry .nil)
  have hbb := F.binds hb s [.ref a, v] I.kIn (by rw [List.append_nil]; exact hn.symm)
  rw [List.append_nil] at hbb
  rw [← hn] at q
  refine thn (runG (ar := ⟨[.ref a, v], []⟩) G hgd (hr.mono hk) I hbb rr q) fun w s' ⟨z, H', I', rz, b, ez, q'⟩ => ?_
  subst ez
  cases rz
  exact wpAny_truthy_bool ⟨.bl (g b), H', I', rfl, q'⟩
theorem op_ownIn (D : DefM X.prog X.w X.K X.mg X.base k C "__contains__" qual st ps wf) (hgd : X.A.guards = some []) (hr : Room j X.A) (hk : k ≤ j) (hb : BindsD "__contains__" qual st ps) (hn : ps.length = 2) : OpR X (compareOp .In) (rInO X.K C wf false) := by
  obtain ⟨f, fd, c, hM, F, G⟩ := D
  intro pins s σ H y x v u Q I ry rx ⟨a, dx, fs, ex, ha, q⟩
  subst ex
  cases rx
  obtain ⟨mA, J, _⟩ := ins_get I.hok ha
  obtain ⟨od, J, _⟩ := J.look
  obtain ⟨mm, hF⟩ := I.fr
  exact PySem.W.in_K hF I.ok.mod.kin J hM.at_ hM.fn (in_core (g := fun b => b) F G hgd hr hk hb hn I ry (by
    have e : (fun (r : V) (H1 : Hp) => ∃ b, r = V.bl b ∧ Q (.bl (Bool.xor false b)) H1) = fun r H1 => ∃ b, r = V.bl b ∧ Q (.bl b) H1 := by
      funext r H1
      simp
    rwa [e] at q))
theorem op_ownNotIn (D : DefM X.prog X.w X.K X.mg X.base k C "__contains__" qual st ps wf) (hgd : X.A.guards = some []) (hr : Room j X.A) (hk : k ≤ j) (hb : BindsD "__contains__" qual st ps) (hn : ps.length = 2) : OpR X (compareOp .NotIn) (rInO X.K C wf true) := by
  obtain ⟨f, fd, c, hM, F, G⟩ := D
  intro pins s σ H y x v u Q I ry rx ⟨a, dx, fs, ex, ha, q⟩
  subst ex
  cases rx
  obtain ⟨mA, J, _⟩ := ins_get I.hok ha
  obtain ⟨od, J, _⟩ := J.look
  obtain ⟨mm, hF⟩ := I.fr
  exact PySem.W.notIn_K hF I.ok.mod.kin J hM.at_ hM.fn (in_core (g := fun b => !b) F G hgd hr hk hb hn I ry (by
    have e : (fun (r : V) (H1 : Hp) => ∃ b, r = V.bl b ∧ Q (.bl (Bool.xor true b)) H1) = fun r H1 => ∃ b, r = V.bl b ∧ Q (.bl (!b)) H1 := by
      funext r H1
      simp
    rwa [e] at q))
theorem d_addO (D : DefM X.prog X.w X.K X.mg X.base k C "__add__" qual st ps wf) (hgd : X.A.guards = some []) (hr : Room j X.A) (hk : k ≤ j) (hsf : PySem.W.selfFirst X.K C = true) (ha : PE X ea (tD X.K wa)) (hb : PE X eb (tD X.K wb)) (hbd : BindsD "__add__" qual st ps) (hn : ps.length = 2 := by rfl) :
    PE X (.BinOp ea .Add eb pos) (tD X.K (wBin (wOpO C wf) wa wb)) := d_op (op_own D hgd hr hk hsf hbd hn (by decide +kernel)) rOpO_rd ha hb
theorem c_eqO (D : DefM X.prog X.w X.K X.mg X.base k C "__eq__" qual st ps wf) (hgd : X.A.guards = some []) (hr : Room j X.A) (hk : k ≤ j) (ha : PE X ea (tD X.K wa)) (hb : PE X eb (tD X.K wb)) (hbd : BindsD "__eq__" qual st ps) (hn : ps.length = 2 := by rfl) :
    PE X (.Compare ea [.Eq] [eb] pos) (tD X.K (wBin (wOpO C wf) wa wb)) := d_cmp (op_ownEq D hgd hr hk hbd hn) rOpO_rd ha hb (nomark _)
theorem t_eqO (D : DefM X.prog X.w X.K X.mg X.base k C "__eq__" qual st ps wf) (hgd : X.A.guards = some []) (hr : Room j X.A) (hk : k ≤ j) (ha : PE X ea (tD X.K wa)) (hb : PE X eb (tD X.K wb)) (hbd : BindsD "__eq__" qual st ps) (hn : ps.length = 2 := by rfl) :
    PT X (.Compare ea [.Eq] [eb] pos) (tDT X.K (wTest (wBin (wOpO C wf) wa wb))) := dt_cmp (op_ownEq D hgd hr hk hbd hn) rOpO_rd ha hb (nomark _)
theorem c_inO (D : DefM X.prog X.w X.K X.mg X.base k C "__contains__" qual st ps wf) (hgd : X.A.guards = some []) (hr : Room j X.A) (hk : k ≤ j) (ha : PE X ea (tD X.K wa)) (hb : PE X eb (tD X.K wb)) (hbd : BindsD "__contains__" qual st ps) (hm : behindInMarks .In eb = false) (hn : ps.length = 2 := by rfl) :
    PE X (.Compare ea [.In] [eb] pos) (tD X.K (wBin (wInO C wf false) wa wb)) := d_cmp (op_ownIn D hgd hr hk hbd hn) rInO_rd ha hb hm
theorem c_notinO (D : DefM X.prog X.w X.K X.mg X.base k C "__contains__" qual st ps wf) (hgd : X.A.guards = some []) (hr : Room j X.A) (hk : k ≤ j) (ha : PE X ea (tD X.K wa)) (hb : PE X eb (tD X.K wb)) (hbd : BindsD "__contains__" qual st ps) (hm : behindInMarks .NotIn eb = false) (hn : ps.length = 2 := by rfl) :
    PE X (.Compare ea [.NotIn] [eb] pos) (tD X.K (wBin (wInO C wf true) wa wb)) := d_cmp (op_ownNotIn D hgd hr hk hbd hn) rInO_rd ha hb hm
end

/-! ### isinstance(x, C), x an instance of C -/
structure IsiC (K : PySem.W.Frag) (C : Addr) : Prop where
  ca : PySem.W.findIn K (.ref C) "__class__" = some (some (.builtin "object.__class__"))
  cn : PySem.W.specialIn K (.builtin "object.__class__") "__get__" = some (some (.builtin "getset_descriptor.__get__"))
  ct : PySem.W.takesIn K (.builtin "object.__class__") = some true
  cm : PySem.W.mroIn K C (.type "object") = some true
def wIsC (C : Addr) (w : WE) : WE := fun ρ μ P => w ρ μ fun d μ1 => insAt C μ1 d (P (.bool true) μ1)
theorem d_isC {X : Cx} {C : Addr} {x : Str} {p p2 pos : Pos} {e : Expr} {w : WE} (c : Cls X.K C) (z : IsiC X.K C) (hg : Gl X "isinstance") (hm : X.mg "isinstance" = none) (hg2 : Gl X x) (hm2 : X.mg x = some (.ref C)) (ha : PE X e (tD X.K w))
    (hs : starEach [e, .Name x p2] X.env = (false, eval e X.env) :: starEach [.Name x p2] X.env := by rfl) (hs2 : starEach [.Name x p2] X.env = [(false, eval (.Name x p2) X.env)] := by rfl) (hdb : (x == ("__debug__" : Str)) = false := by decide) :
    PE X (.Call (.Name "isinstance" p) [e, .Name x p2] [] pos) (tD X.K (wIsC C w)) :=
  PE.imp (pe_callB call_isi hg hm (by decide +kernel) (pa_cons ha (pa_cons (pe_glob (v := .ref C) hg2 hm2 rfl hdb) pa_nil hs2) hs) (by decide) (by decide) hs (by rw [hs2]; rfl)) fun σ H Q ⟨R, ρ, μ, P, a, w, k⟩ =>
    ⟨R, ρ, μ, _, a, w, fun d μ1 v H1 p1 o1 s1 i1 => by
      obtain ⟨b, dx, gs, rfl, hH, p2⟩ := insAt_of o1 i1 p1
      exact ⟨.ref b, .ref C, _, _, true, rfl, .own C, .base (.ins hH c z.ca z.cn z.ct z.cm), by unfold PySem.W.kitOne; simp, k _ μ1 _ H1 p2 o1 s1 (.bool _)⟩⟩
end Dz

set_option Elab.async false
set_option linter.all false
set_option maxRecDepth 100000
set_option maxHeartbeats 4000000
/-! DzK6: instances made by an __init__ with a star parameter; f-strings. -/
namespace Dz
open PySem PySem.Spec L2 PyProof.Rows StX

/-- the class C makes its instances by the def st, which takes any number of arguments -/
def DefKS (P : Program) (w : World) (K : PySem.W.Frag) (mg : Str → Option Value) (base : Heap) (k : Nat) (x : Str) (C : Addr) (qual : Str) (st : Stmt) (wf : WF) : Prop :=
  ∃ f fd, Mk K C f ∧ mg x = some (.ref C) ∧ Fun K "__init__" qual st f fd ∧ FnSG P w K mg base k f wf
theorem DefKS.mono {P : Program} {w : World} {K : PySem.W.Frag} {mg : Str → Option Value} {base : Heap} {j k : Nat} {x : Str} {C : Addr} {qual : Str} {st : Stmt} {wf : WF} (h : DefKS P w K mg base j x C qual st wf) (l : j ≤ k) : DefKS P w K mg base k x C qual st wf :=
  let ⟨f, fd, a, b, c, d⟩ := h; ⟨f, fd, a, b, c, d.mono l⟩
theorem defKS_of {P : Program} {w0 : World} {K : PySem.W.Frag} {mg : Str → Option Value} {base : Heap} {x : Str} {C : Addr} {qual : Str} {st : Stmt} {N ps : List Str} {pv : Str} {k : Nat} {w : WS} {wf : WF} (h : AtK K mg x C qual st) (S : FnScope N (ps ++ [pv]) (defScope st))
    (hbi : ∀ (kV doc pm : Value) (an : Option Addr) (cdv ct : Value) (us rest : List Value), us.length = ps.length → bindArgs (PySem.W.fnOf "__init__" qual (defArgs st) (defBody st) (defScope st) .none kV doc pm an cdv ct) ⟨us ++ rest, []⟩ = (newTuple rest >>= fun t => pure (ps.zip us ++ [(pv, t)])))
    (hb : ∀ (f : Addr) (cdv : Value) (A : Around) (outer : List Env) (s : Shared) (H : Hp) (E : XK), A.guards = some [] → Room k (A.deeper (PyProof.Rows.envOfC qual (defScope st) s.heap.objs.size f cdv)) →
      PSs (cxOf CX0 P w0 K mg base N qual (defScope st) f cdv A outer s H E).nox (defBody st) (tDS K w))
    (hmin : ∀ ds μ Q, wf ds μ Q → ps.length ≤ ds.length ∧ ds.length ≤ 1000)
    (hw : ∀ ds rs μ Q, ds.length = ps.length → wf (ds ++ rs) μ Q → w { nx := fun _ μ' => Q .none μ', rt := Q } ((ds ++ [DV.tup rs]).map some ++ List.replicate (N.length - (ps.length + 1)) none) μ) : DefKS P w0 K mg base (k + 1) x C qual st wf := by
  obtain ⟨f, fd, a, b, F⟩ := h
  exact ⟨f, fd, a, b, F, fnsg_of F S hbi (hb f) hw hmin⟩
/-- C(..) -/
def wMakeS (C : Addr) (wf : WF) (wa : WA) : WE := fun ρ μ P => wa ρ μ fun ds μ1 => ∀ p, μ1 p = none → wf (.obj p :: ds) (updM μ1 p (.ins C [])) fun r μ2 => r = .none ∧ P (.obj p) μ2
section
variable {X : Cx} {k j : Nat} {C : Addr} {st : Stmt} {wf : WF} {x qual : Str} {p pos : Pos} {e : Expr} {es : List Expr} {wa : WA} {w : WE}
def spS (K : PySem.W.Frag) (wf : WF) (vs : List V) (H : Hp) (Q : VK) : Prop := ∃ R ds μ P', Ok K R μ H ∧ Iss K (hid R μ H) vs ds ∧ wf ds μ P' ∧ Nxt K R μ H P' Q
theorem runGmakeS {pins : List (Addr × Obj)} {σ : L2.St} {H : Hp} {s : Shared} {Q : VK} {us : List Value} {vs : List V} {f : Addr} (M : Mk X.K C f) (G : FnSG X.prog X.w X.K X.mg X.base k f wf) (hgd : X.A.guards = some []) (hr : Room (k + 1) X.A)
    (I : Inv X pins σ H s) (r : Vals vs us)
    (h : ∀ x dx, H x = none → H dx = none → dx ≠ x → spS X.K wf (.ref x :: vs) (upd (upd H dx (.own x)) x (.ins C dx [])) (fun v H2 => v = .non ∧ Q (.ref x) H2)) :
    wpAny (model X.prog X.w) X.A (call (.ref C) us) (EP X pins σ Q) X.xe s := by
  have hq := h (s.heap.objs.size + 1) s.heap.objs.size (I.hok.fresh (Nat.le_succ _)) (I.hok.fresh (Nat.le_refl _)) (Nat.ne_of_lt (Nat.lt_succ_self _))
  have I2 := Inv.made (C := C) I
  have r2 : Vals (V.ref (s.heap.objs.size + 1) :: vs) (Value.ref (s.heap.objs.size + 1) :: us) := .cons rfl r
  refine wpAny_call (make_map (f := f) I.kIn M.makes M.init (beq_iff_eq.mp M.fn) (codeAny_mono (G _ X.stack _ _ (Value.ref (s.heap.objs.size + 1) :: us) _ _ (fun _ _ _ => False) (guards_make hgd C us []) (hr.make C us [])
    (I2.env0.make C us []) r2 hq) fun r s' hq' => ?_))
  match r, hq' with
  | .ok (.ret u), hq' =>
    obtain ⟨v, H', I3, rv, ev, q3⟩ := I2.after hq'
    subst ev
    exact ⟨rv, ⟨V.ref (s.heap.objs.size + 1), H', I3, rfl, q3⟩⟩
/-- the new instance over data -/
theorem makeS_imp {K : PySem.W.Frag} {R : Hp} {μ : Mh} {H : Hp} {P : DV → Mh → Prop} {Q : VK} {vs : List V} {ds : List DV} (o : Ok K R μ H) (i : Iss K (hid R μ H) vs ds) (kk : Nxt K R μ H P Q)
    (h : ∀ p, μ p = none → wf (.obj p :: ds) (updM μ p (.ins C [])) fun r μ2 => r = .none ∧ P (.obj p) μ2) (x dx : Addr) (nx : H x = none) (nd : H dx = none) (ne : dx ≠ x) :
    spS K wf (.ref x :: vs) (upd (upd H dx (.own x)) x (.ins C dx [])) (fun v H2 => v = .non ∧ Q (.ref x) H2) := by
  have o1 := o.new (o := .own x) nd
  have s1 := o.sameNew (o := .own x) nd
  have nx1 : upd H dx (.own x) x = none := by rw [upd_ne (Ne.symm ne)]; exact nx
  obtain ⟨o2, s2⟩ := o1.newM (o := .ins C dx []) (m := .ins C []) nx1 ⟨dx, [], upd_same, rfl, .nil⟩ (by intro z; cases z)
  refine ⟨R, .obj x :: ds, _, _, o2, .cons (.obj x) (i.mono (s1.trans s2)), h x (o.freeM nx), fun d μ' v H' ⟨hd, hp⟩ o' s' i' => ?_⟩
  subst hd
  cases i'
  exact ⟨rfl, kk _ _ _ _ hp o' ((s1.trans s2).trans s') (.obj x)⟩
theorem d_makeS (D : DefKS X.prog X.w X.K X.mg X.base k x C qual st wf) (hgd : X.A.guards = some []) (hr : Room j X.A) (hk : k + 1 ≤ j) (hg : Gl X x)
    (ha : PA X (e :: es) (tDA X.K wa)) (hdb : (x == ("__debug__" : Str)) = false := by decide) (he : starEach (e :: es) X.env = (false, eval e X.env) :: starEach es X.env := by rfl) (hpl : (backTo pos (starEach es X.env)).any (·.1) = false := by rfl) :
    PE X (.Call (.Name x p) (e :: es) [] pos) (tD X.K (wMakeS C wf wa)) := by
  obtain ⟨f, fd, M, hm, F, G⟩ := D
  refine ⟨fun pins s σ H Q I ⟨R, ρ, μ, P, a, w, kk⟩ => ?_⟩
  have h1 : tDA X.K wa σ H (fun vs H1 => ∀ x dx, H1 x = none → H1 dx = none → dx ≠ x → spS X.K wf (.ref x :: vs) (upd (upd H1 dx (.own x)) x (.ins C dx [])) (fun v H2 => v = .non ∧ Q (.ref x) H2)) := ⟨R, ρ, μ, _, a, w, fun ds μ1 vs H1 p1 o1 s1 i1 => makeS_imp o1 i1 (kk.step s1) p1⟩
  refine wpAny_Call_Name_kw (ld_glob I hg hm ?_ hdb)
  refine PySem.W.callWith_K (h₀ := X.base) I.ok.mod.kin M.kp (thn (ha.run pos pins s σ H _ I h1) fun us s1 ⟨vs, H1, I1, r, q⟩ => ⟨I1.kIn, ?_⟩) he hpl
  exact runGmakeS M G hgd (hr.mono hk) I1 r q
theorem d_makeS0 (D : DefKS X.prog X.w X.K X.mg X.base k x C qual st wf) (hgd : X.A.guards = some []) (hr : Room j X.A) (hk : k + 1 ≤ j) (hg : Gl X x) (hdb : (x == ("__debug__" : Str)) = false := by decide) :
    PE X (.Call (.Name x p) [] [] pos) (tD X.K (wMakeS C wf wNil)) := by
  obtain ⟨f, fd, M, hm, F, G⟩ := D
  refine ⟨fun pins s σ H Q I ⟨R, ρ, μ, P, a, w, kk⟩ => ?_⟩
  refine wpAny_Call_Name_kw (ld_glob I hg hm ?_ hdb)
  exact PySem.W.callWith_K0 I.kIn M.kp (runGmakeS (us := []) M G hgd (hr.mono hk) I .nil (makeS_imp a.ok .nil kk w))
/-- C(*xs) -/
def wSpread (w : WE) : WA := fun ρ μ P => w ρ μ fun d μ1 => match d with
  | .tup ds => P ds μ1
  | .lst ds => P ds μ1
  | _ => False
theorem d_makeS1 {p2 : Pos} (D : DefKS X.prog X.w X.K X.mg X.base k x C qual st wf) (hgd : X.A.guards = some []) (hr : Room j X.A) (hk : k + 1 ≤ j) (hg : Gl X x) (ha : PE X e (tD X.K w))
    (hdb : (x == ("__debug__" : Str)) = false := by decide) (he : starEach [.Starred e p2] X.env = [(true, eval e X.env)] := by rfl) :
    PE X (.Call (.Name x p) [.Starred e p2] [] pos) (tD X.K (wMakeS C wf (wSpread w))) := by
  obtain ⟨f, fd, M, hm, F, G⟩ := D
  refine ⟨fun pins s σ H Q I ⟨R, ρ, μ, P, a, w1, kk⟩ => ?_⟩
  have h1 : tD X.K w σ H (fun v H1 => ∃ t vs, v = V.ref t ∧ (SqT X.K H1 t vs ∨ SqL X.K H1 t vs) ∧ ∀ x dx, H1 x = none → H1 dx = none → dx ≠ x → spS X.K wf (.ref x :: vs) (upd (upd H1 dx (.own x)) x (.ins C dx [])) (fun v H2 => v = .non ∧ Q (.ref x) H2)) :=
    ⟨R, ρ, μ, _, a, w1, fun d μ1 v H1 p1 o1 s1 i1 => by
      cases i1 with
      | tup hx rx => exact ⟨_, _, rfl, .inl (Same.seqT hid_le hx.t), makeS_imp o1 rx (kk.step s1) p1⟩
      | lst hx rx => exact ⟨_, _, rfl, .inr (SqL.of (hid_le _ _ hx)), makeS_imp o1 rx (kk.step s1) p1⟩
      | _ => exact (show False from p1).elim⟩
  refine wpAny_Call_Name_kw (ld_glob I hg hm ?_ hdb)
  refine PySem.W.callWith_S (h₀ := X.base) I.ok.mod.kin M.kp (thn (ha.run pins s σ H _ I h1) fun u s1 ⟨v, H1, I1, r, t, vs, ev, ht, q⟩ => ?_) he
  subst ev
  obtain rfl : u = Value.ref t := r
  refine StX.star_any I1 ht fun us s5 I5 rv => ⟨I5.kIn, ?_⟩
  exact runGmakeS M G hgd (hr.mono hk) I5 rv q
end

/-! ### f-strings -/
def wFmt (w : WE) : WE := fun ρ μ P => w ρ μ fun d μ1 => match d with
  | .str y => y.length ≤ sizeLine ∧ P (.str y) μ1
  | .int i => i.natAbs.log2 < 1920 ∧ P (.str (toString i)) μ1
  | _ => False
def wJs : List WE → Str → Rho → Mh → (Str → Mh → Prop) → Prop
  | [], acc, _, μ, P => P acc μ
  | w :: ws, acc, ρ, μ, P => w ρ μ fun d μ1 => match d with
    | .str y => (acc ++ y).length ≤ sizeLine ∧ wJs ws (acc ++ y) ρ μ1 P
    | _ => False
def wFstr (ws : List WE) : WE := fun ρ μ P => wJs ws Str.empty ρ μ fun s μ1 => P (.str s) μ1
section
variable {X : Cx} {e v1 v2 : Expr} {es rest : List Expr} {w : WE} {ws : List WE} {pos : Pos}
theorem d_fmt (he : PE X e (tD X.K w)) : PE X (.FormattedValue e (-1) none pos) (tD X.K (wFmt w)) :=
  PE.imp (pe_fmt he) fun σ H Q ⟨R, ρ, μ, P, a, w, k⟩ => ⟨R, ρ, μ, _, a, w, fun d μ1 v H1 p1 o1 s1 i1 => by
    cases i1 with
    | str y => exact .inl ⟨y, rfl, p1.1, k _ _ _ _ p1.2 o1 s1 (.str _)⟩
    | int i => exact .inr ⟨i, rfl, p1.1, k _ _ _ _ p1.2 o1 s1 (.str _)⟩
    | _ => exact (show False from p1).elim⟩
theorem js_imp {K : PySem.W.Frag} : ∀ (ws : List WE) (acc : Str) (σ : L2.St) (H : Hp) (R : Hp) (ρ : Rho) (μ : Mh) (P : Str → Mh → Prop) (Q : Str → Hp → Prop), At K R σ ρ μ H → wJs ws acc ρ μ P →
    (∀ s μ' H', P s μ' → Ok K R μ' H' → Same (hid R μ H) (hid R μ' H') → Q s H') → tJs (ws.map (tD K)) acc σ H Q
  | [], acc, σ, H, R, ρ, μ, P, Q, a, w, k => k acc μ H w a.ok (Same.refl _)
  | w :: ws, acc, σ, H, R, ρ, μ, P, Q, a, h, k => ⟨R, ρ, μ, _, a, h, fun d μ1 v H1 p1 o1 s1 i1 => by
    cases i1 with
    | str y => exact ⟨y, rfl, p1.1, js_imp ws _ σ H1 R ρ μ1 P Q (a.step o1 s1) p1.2 fun s μ' H' hp o' s' => k s μ' H' hp o' (s1.trans s')⟩
    | _ => exact (show False from p1).elim⟩
theorem pjs_nil : PJ X [] (([] : List WE).map (tD X.K)) := .nil
theorem pjs_cons (h : PE X e (tD X.K w)) (r : PJ X es (ws.map (tD X.K))) : PJ X (e :: es) ((w :: ws).map (tD X.K)) := .cons h r
theorem d_fstr (h : PJ X (v1 :: v2 :: rest) (ws.map (tD X.K))) : PE X (.JoinedStr (v1 :: v2 :: rest) pos) (tD X.K (wFstr ws)) :=
  PE.imp (pe_joined h) fun σ H Q ⟨R, ρ, μ, P, a, w, k⟩ => js_imp ws Str.empty σ H R ρ μ _ _ a w fun s μ' H' hp o' s' => k _ _ _ _ hp o' s' (.str _)
end
end Dz

set_option Elab.async false
set_option linter.all false
set_option maxRecDepth 100000
set_option maxHeartbeats 4000000
/-! DzK7: text.index(sign). -/
namespace Dz
open PySem PySem.Spec L2 PyProof.Rows StX
/-- a.index(b), a text in which b is found -/
def wIndexS (wo we : WE) : WE := fun ρ μ P => wo ρ μ fun x μ1 => match x with
  | .str a => we ρ μ1 fun y μ2 => match y with
    | .str b => ∃ i rest, Builtin.Str.occurrences a b 0 a.length 1 = i :: rest ∧ P (.int (i : Nat)) μ2
    | _ => False
  | _ => False
section
variable {X : Cx} {oe e : Expr} {apos pos : Pos} {wo w : WE}
theorem d_indexS (ho : PE X oe (tD X.K wo)) (he : PE X e (tD X.K w)) (hs : starEach [e] X.env = [(false, eval e X.env)] := by rfl) (hbase : attributeBase oe "index" X.env (eval oe X.env) = eval oe X.env := by rfl)
    (hfew : ((backTo pos (starEach [e] X.env)).all (fun x => !x.1) && (backToKw pos (keywordEach [] X.env)).all (fun x => x.1.isSome) && decide (([e] : List Expr).length + ([] : List Keyword).length + (if ([] : List Keyword).isEmpty then 0 else 1) < 30)) = true := by rfl) (hline : (apos.endLine == pos.line) = true := by rfl) :
    PE X (.Call (.Attribute oe "index" apos) [e] [] pos) (tD X.K (wIndexS wo w)) :=
  PE.imp (pe_bm PySem.F.plainAttrs_str PySem.F.slot_str_index PySem.F.type_str_index mt_sindex ho (pa_cons he pa_nil hs) hbase hfew hline hs) fun σ H Q ⟨R, ρ, μ, P, a, w, k⟩ => ⟨R, ρ, μ, _, a, w, fun x μ1 v H1 p1 o1 s1 i1 => by
    cases i1 with
    | str z =>
      refine ⟨rfl, R, ρ, μ1, _, a.step o1 s1, p1, fun y μ2 u H2 p2 o2 s2 i2 => ?_⟩
      cases i2 with
      | str b =>
        obtain ⟨i, rest, h1, h2⟩ := p2
        exact ⟨z, b, i, rest, rfl, rfl, h1, (k.step (s1.trans s2)).val o2 h2 (.int _)⟩
      | _ => exact (show False from p2).elim
    | _ => exact (show False from p1).elim⟩
end
end Dz

set_option Elab.async false
set_option linter.all false
set_option maxRecDepth 100000
set_option maxHeartbeats 1000000
/-! DzK8: classes as the top has made them. -/
namespace Dz
open PySem PySem.Spec L2 PyProof.Rows

theorem cls_of {K : PySem.W.Frag} {C : Addr} (a : PySem.W.plainGet K C Str.empty = true) (b : PySem.W.hasDictIn K C = true) (c : PySem.W.plainOver K C = true) (d : PySem.W.findIn K (.ref C) "__setattr__" = some (some (.builtin "object.__setattr__"))) : Cls K C := ⟨a, b, c, d⟩
theorem isiC_of {K : PySem.W.Frag} {C : Addr} (a : PySem.W.findIn K (.ref C) "__class__" = some (some (.builtin "object.__class__"))) (b : PySem.W.specialIn K (.builtin "object.__class__") "__get__" = some (some (.builtin "getset_descriptor.__get__"))) (c : PySem.W.takesIn K (.builtin "object.__class__") = some true) (d : PySem.W.mroIn K C (.type "object") = some true) : IsiC K C := ⟨a, b, c, d⟩
theorem noAttr_of {K : PySem.W.Frag} {C : Addr} {f : Str} (a : PySem.W.findIn K (.ref C) f = some none) : NoAttr K C f := a
theorem atM_of {K : PySem.W.Frag} {C : Addr} {m qual : Str} {st : Stmt} {f : Addr} {oc kV dc pm cd ct : Value} {od an : Option Addr} {sl : Array (Option Value)} (cl : Cls K C) (a : PySem.W.findIn K (.ref C) m = some (some (.ref f))) (i : PySem.W.isFn K (.ref f) = true)
    (l : K.lookup f = some ⟨oc, od, .func (PySem.W.fnOf m qual (defArgs st) (defBody st) (defScope st) .none kV dc pm an cd ct), sl⟩) (c : PySem.W.codeIn K cd qual = true) (k : PySem.W.keepIn K (.ref f) = true) : AtM K C m qual st :=
  ⟨f, _, cl, ⟨a, i, k⟩, fun_mk l c k⟩
theorem atK_of {K : PySem.W.Frag} {mg : Str → Option Value} {x : Str} {C : Addr} {qual : Str} {st : Stmt} {f : Addr} {oc kV dc pm cd ct : Value} {od an : Option Addr} {sl : Array (Option Value)} (hm : mg x = some (.ref C)) (mk : PySem.W.makesIn K C = true) (kc : PySem.W.keepIn K (.ref C) = true) (a : PySem.W.findIn K (.ref C) "__init__" = some (some (.ref f))) (i : PySem.W.isFn K (.ref f) = true)
    (l : K.lookup f = some ⟨oc, od, .func (PySem.W.fnOf "__init__" qual (defArgs st) (defBody st) (defScope st) .none kV dc pm an cd ct), sl⟩) (c : PySem.W.codeIn K cd qual = true) (k : PySem.W.keepIn K (.ref f) = true) : AtK K mg x C qual st :=
  ⟨f, _, ⟨mk, a, i, kc⟩, hm, fun_mk l c k⟩
end Dz

set_option Elab.async false
set_option linter.all false
set_option maxRecDepth 100000
set_option maxHeartbeats 1000000
/-! Qz1: data with places. -/
namespace Qz
open PySem L2 Dz

theorem sl {n : Nat} (h : n ≤ 1000000) : n ≤ sizeLine := by rw [sizeLine_eq]; omega
/-- the part at a place -/
def atP : DV → List Nat → Option DV
  | d, [] => some d
  | .tup ds, i :: r => match ds[i]? with | some e => atP e r | none => none
  | _, _ :: _ => none
/-- another part there -/
def repl : DV → List Nat → DV → DV
  | _, [], x => x
  | .tup ds, i :: r, x => match ds[i]? with | some e => .tup (ds.set i (repl e r x)) | none => .tup ds
  | d, _ :: _, _ => d
theorem atP_cons {d y : DV} {i : Nat} {r : List Nat} (h : atP d (i :: r) = some y) : ∃ ds e, d = .tup ds ∧ ds[i]? = some e ∧ atP e r = some y := by
  cases d with
  | tup ds =>
    have h' : (match ds[i]? with | some e => atP e r | none => none) = some y := h
    cases e : ds[i]? with
    | none => rw [e] at h'; cases h'
    | some z => rw [e] at h'; exact ⟨ds, z, rfl, e, h'⟩
  | _ => cases h
theorem repl_cons {ds : List DV} {e x : DV} {i : Nat} {r : List Nat} (h : ds[i]? = some e) : repl (.tup ds) (i :: r) x = .tup (ds.set i (repl e r x)) := by
  show (match ds[i]? with | some e => DV.tup (ds.set i (repl e r x)) | none => .tup ds) = _
  rw [h]
theorem lt_of_get {ds : List DV} {e : DV} {i : Nat} (h : ds[i]? = some e) : i < ds.length := (List.getElem?_eq_some_iff.mp h).1
theorem repl_at : ∀ (r : List Nat) (d x : DV), (∃ y, atP d r = some y) → atP (repl d r x) r = some x
  | [], _, x, _ => rfl
  | i :: r, d, x, ⟨y, h⟩ => by
    obtain ⟨ds, e, rfl, h1, h2⟩ := atP_cons h
    rw [repl_cons h1]
    show (match (ds.set i (repl e r x))[i]? with | some e => atP e r | none => none) = _
    rw [List.getElem?_set_self (lt_of_get h1)]
    exact repl_at r e x ⟨y, h2⟩
theorem repl_repl : ∀ (r : List Nat) (d x y : DV), (∃ z, atP d r = some z) → repl (repl d r x) r y = repl d r y
  | [], _, _, _, _ => rfl
  | i :: r, d, x, y, ⟨z, h⟩ => by
    obtain ⟨ds, e, rfl, h1, h2⟩ := atP_cons h
    rw [repl_cons h1, repl_cons (x := y) h1, repl_cons (e := repl e r x) (List.getElem?_set_self (lt_of_get h1)), List.set_set, repl_repl r e x y ⟨z, h2⟩]
theorem repl_same : ∀ (r : List Nat) (d x : DV), atP d r = some x → repl d r x = d
  | [], d, x, h => (Option.some.inj h).symm
  | i :: r, d, x, h => by
    obtain ⟨ds, e, rfl, h1, h2⟩ := atP_cons h
    rw [repl_cons h1, repl_same r e x h2]
    congr 1
    obtain ⟨hi, he⟩ := List.getElem?_eq_some_iff.mp h1
    rw [← he, List.set_getElem_self]
theorem sizs_get {N p : Nat} : ∀ {ds : List DV} {i : Nat} {e : DV}, Sizs N p ds → ds[i]? = some e → Siz N p e
  | [], i, e, _, h => by simp at h
  | d :: ds, 0, e, s, h => by
    have : d = e := by simpa using h
    subst this
    refine ⟨(Bool.and_eq_true_iff.mp s.no).1, (Bool.and_eq_true_iff.mp s.sh).1, (Bool.and_eq_true_iff.mp s.lv).1, ?_, ?_, (Bool.and_eq_true_iff.mp s.pl).1⟩
    · have : (toPy d).bulk + 1 + PyData.bulkAll (toPys ds) ≤ N := s.bk
      omega
    · have : max (toPy d).depth (PyData.depthAll (toPys ds)) ≤ p := s.dp
      omega
  | d :: ds, i + 1, e, s, h => by
    refine sizs_get (ds := ds) (i := i) ⟨(Bool.and_eq_true_iff.mp s.no).2, (Bool.and_eq_true_iff.mp s.sh).2, (Bool.and_eq_true_iff.mp s.lv).2, ?_, ?_, (Bool.and_eq_true_iff.mp s.pl).2⟩ (by simpa using h)
    · have : (toPy d).bulk + 1 + PyData.bulkAll (toPys ds) ≤ N := s.bk
      omega
    · have : max (toPy d).depth (PyData.depthAll (toPys ds)) ≤ p := s.dp
      omega
theorem sizs_set {M q : Nat} {x : DV} : ∀ {N p : Nat} {ds : List DV} {i : Nat} {e : DV}, Sizs N p ds → ds[i]? = some e → Siz ((toPy e).bulk + M) q x → Sizs (N + M) (max p q) (ds.set i x)
  | N, p, [], i, e, _, h, _ => by simp at h
  | N, p, d :: ds, 0, e, s, h, hx => by
    have : d = e := by simpa using h
    subst this
    have hb : (toPy d).bulk + 1 + PyData.bulkAll (toPys ds) ≤ N := s.bk
    have hd : max (toPy d).depth (PyData.depthAll (toPys ds)) ≤ p := s.dp
    have r : Sizs (PyData.bulkAll (toPys ds)) p ds := ⟨(Bool.and_eq_true_iff.mp s.no).2, (Bool.and_eq_true_iff.mp s.sh).2, (Bool.and_eq_true_iff.mp s.lv).2, Nat.le_refl _, by omega, (Bool.and_eq_true_iff.mp s.pl).2⟩
    exact (Sizs.cons (hx.le (Nat.le_refl _) (Nat.le_max_right p q)) (r.le (Nat.le_refl _) (Nat.le_max_left p q))).le (by omega) (Nat.le_refl _)
  | N, p, d :: ds, i + 1, e, s, h, hx => by
    have hb : (toPy d).bulk + 1 + PyData.bulkAll (toPys ds) ≤ N := s.bk
    have hd : max (toPy d).depth (PyData.depthAll (toPys ds)) ≤ p := s.dp
    have r : Sizs (PyData.bulkAll (toPys ds)) p ds := ⟨(Bool.and_eq_true_iff.mp s.no).2, (Bool.and_eq_true_iff.mp s.sh).2, (Bool.and_eq_true_iff.mp s.lv).2, Nat.le_refl _, by omega, (Bool.and_eq_true_iff.mp s.pl).2⟩
    have h1 : Siz (toPy d).bulk p d := ⟨(Bool.and_eq_true_iff.mp s.no).1, (Bool.and_eq_true_iff.mp s.sh).1, (Bool.and_eq_true_iff.mp s.lv).1, Nat.le_refl _, by omega, (Bool.and_eq_true_iff.mp s.pl).1⟩
    have r2 := sizs_set (M := M) (q := q) r (show ds[i]? = some e by simpa using h) hx
    exact (Sizs.cons (h1.le (Nat.le_refl _) (Nat.le_max_left p q)) r2).le (by omega) (Nat.le_refl _)
theorem siz_tupI {N p : Nat} {ds : List DV} (h : Siz N p (.tup ds)) : ∃ p', p = p' + 1 ∧ Sizs N p' ds := by
  have hd : PyData.depthAll (toPys ds) + 1 ≤ p := h.dp
  exact ⟨p - 1, by omega, ⟨h.no, h.sh, h.lv, h.bk, by omega, h.pl⟩⟩
theorem repl_siz {M q : Nat} {x : DV} (hx : Siz M q x) : ∀ (r : List Nat) {N p : Nat} (d : DV), Siz N p d → (∃ y, atP d r = some y) → Siz (N + M) (p + q) (repl d r x)
  | [], N, p, d, _, _ => hx.le (by omega) (by omega)
  | i :: r, N, p, d, h, ⟨y, hy⟩ => by
    obtain ⟨ds, e, rfl, h1, h2⟩ := atP_cons hy
    rw [repl_cons h1]
    obtain ⟨p', rfl, hs⟩ := siz_tupI h
    have he := sizs_get hs h1
    have he' : Siz (toPy e).bulk p' e := ⟨he.no, he.sh, he.lv, Nat.le_refl _, he.dp, he.pl⟩
    have ih := repl_siz hx r e he' ⟨y, h2⟩
    exact (Siz.tup (sizs_set hs h1 ih)).le (Nat.le_refl _) (by omega)

/-! ### slices -/
theorem cut_to {ds : List DV} (i : Nat) : cutD ds none (some (i : Int)) = ds.take i := by
  unfold cutD
  have e0 : HT.sIx ds.length 0 none = 0 := rfl
  have e1 : HT.sIx ds.length ds.length (some (i : Int)) = min i ds.length := HT.sIx_nat _ _ _
  rw [e0, e1, List.drop_zero, Nat.sub_zero]
  rw [List.take_eq_take_iff]
  omega
theorem cut_from {ds : List DV} (i : Nat) : cutD ds (some (i : Int)) none = ds.drop i := by
  unfold cutD
  have e0 : HT.sIx ds.length 0 (some (i : Int)) = min i ds.length := HT.sIx_nat _ _ _
  have e1 : HT.sIx ds.length ds.length none = ds.length := rfl
  rw [e0, e1]
  by_cases h : i ≤ ds.length
  · rw [Nat.min_eq_left h, List.take_of_length_le (by rw [List.length_drop]; exact Nat.le_refl _)]
  · have h' : ds.length ≤ i := by omega
    rw [Nat.min_eq_right h', List.drop_of_length_le (Nat.le_refl _), List.drop_of_length_le h', List.take_nil]
theorem atI_of {α : Type} {xs : List α} {i : Nat} {x : α} (h : xs[i]? = some x) : atI xs (i : Int) = some x := by
  have hi := (List.getElem?_eq_some_iff.mp h).1
  unfold atI ixN
  rw [if_pos (by omega), if_pos (by omega)]
  exact h
theorem sizs_len {N p : Nat} : ∀ {ds : List DV}, Sizs N p ds → ds.length ≤ N
  | [], _ => Nat.zero_le _
  | d :: ds, s => by
    have hb : (toPy d).bulk + 1 + PyData.bulkAll (toPys ds) ≤ N := s.bk
    have hd : max (toPy d).depth (PyData.depthAll (toPys ds)) ≤ p := s.dp
    have r : Sizs (PyData.bulkAll (toPys ds)) p ds := ⟨(Bool.and_eq_true_iff.mp s.no).2, (Bool.and_eq_true_iff.mp s.sh).2, (Bool.and_eq_true_iff.mp s.lv).2, Nat.le_refl _, by omega, (Bool.and_eq_true_iff.mp s.pl).2⟩
    have := sizs_len r
    rw [List.length_cons]
    omega
theorem shaped_intsT (ns : List Int) : shapedD (.tup (ns.map .int)) = true := by
  have h1 := canLay_ints ns
  have h2 := depth_ints ns
  have h3 := noObjs_ints ns
  show (noObjs (ns.map .int) && (PyData.canLayAll0 (toPys (ns.map .int)) && decide (PyData.depthAll (toPys (ns.map .int)) + 1 ≤ 64))) = true
  rw [h1, h2, h3]
  rfl
def pathL (r : List Nat) : List DV := r.map fun i => .int (i : Nat)
abbrev pathD (r : List Nat) : DV := .tup (pathL r)
theorem shaped_path (r : List Nat) : shapedD (pathD r) = true := by
  have := shaped_intsT (r.map fun i : Nat => (i : Int))
  rw [List.map_map] at this
  exact this
abbrev Thg (d : DV) : Prop := Siz 120000 60 d
theorem thg_in {ds : List DV} {e : DV} {i : Nat} (h : Thg (.tup ds)) (h1 : ds[i]? = some e) : Thg e ∧ ds.length ≤ 120000 := by
  obtain ⟨p', e', hs⟩ := siz_tupI h
  exact ⟨(sizs_get hs h1).le (Nat.le_refl _) (by omega), sizs_len hs⟩

theorem noDcts_mem : ∀ {ds : List DV}, noDcts ds = true → ∀ d ∈ ds, noDct d = true
  | [], _, d, h => by cases h
  | e :: ds, h, d, hd => by
    have h' : (noDct e && noDcts ds) = true := h
    rw [Bool.and_eq_true] at h'
    rcases List.mem_cons.mp hd with rfl | hd
    · exact h'.1
    · exact noDcts_mem h'.2 d hd
theorem noDcts_of : ∀ {ds : List DV}, (∀ d ∈ ds, noDct d = true) → noDcts ds = true
  | [], _ => rfl
  | e :: ds, h => by
    show (noDct e && noDcts ds) = true
    rw [h e List.mem_cons_self, noDcts_of fun d hd => h d (List.mem_cons_of_mem _ hd)]
    rfl
theorem nd_at : ∀ (r : List Nat) {d y : DV}, noDct d = true → atP d r = some y → noDct y = true
  | [], d, y, h, e => by rw [← Option.some.inj e]; exact h
  | i :: r, d, y, h, e => by
    obtain ⟨ds, z, rfl, h1, h2⟩ := atP_cons e
    exact nd_at r (noDcts_mem (show noDcts ds = true from h) z (List.mem_of_getElem? h1)) h2
theorem siz_at {N p : Nat} : ∀ (r : List Nat) {d y : DV}, Siz N p d → atP d r = some y → Siz N p y
  | [], d, y, h, e => by rw [← Option.some.inj e]; exact h
  | i :: r, d, y, h, e => by
    obtain ⟨ds, z, rfl, h1, h2⟩ := atP_cons e
    obtain ⟨p', rfl, hs⟩ := siz_tupI h
    exact (siz_at r (sizs_get hs h1) h2).le (Nat.le_refl _) (by omega)
theorem atP_append : ∀ (r s : List Nat) (d e : DV), atP d r = some e → atP d (r ++ s) = atP e s
  | [], s, d, e, h => by rw [← Option.some.inj h]; rfl
  | i :: r, s, d, e, h => by
    obtain ⟨ds, z, rfl, h1, h2⟩ := atP_cons h
    show (match ds[i]? with | some e => atP e (r ++ s) | none => none) = _
    rw [h1]
    exact atP_append r s z e h2
theorem pathL_append (r s : List Nat) : pathL r ++ pathL s = pathL (r ++ s) := by unfold pathL; rw [List.map_append]
theorem siz_path (r : List Nat) (h : ∀ i ∈ r, i < 1000) : Siz r.length 1 (pathD r) := by
  have hs := Sizs.all (N := 0) (p := 0) (ds := pathL r) (fun d hd => by
    unfold pathL at hd
    rw [List.mem_map] at hd
    obtain ⟨i, hi, rfl⟩ := hd
    have := h i hi
    exact Siz.int (Nat.lt_of_lt_of_le (by simpa using this) (by decide)))
  refine (Siz.tup hs).le ?_ (Nat.le_refl _)
  unfold pathL
  rw [List.length_map]
  omega
theorem nd_path (r : List Nat) : noDct (pathD r) = true := noDcts_of fun d hd => by
  unfold pathL at hd
  rw [List.mem_map] at hd
  obtain ⟨i, hi, rfl⟩ := hd
  rfl
theorem app_o {ρ : Rho} {μ : Mh} {i : Nat} {p : Addr} {zs : List DV} {t : DV} {we : WE} {E : DEnds} (hv : ρ[i]? = some (some (.obj p))) (h : μ p = some (.lst zs)) (hw : ∀ P : DV → Mh → Prop, P t μ → we ρ μ P) (l : zs.length < sizeLine) (k : E.nx ρ (updM μ p (.lst (zs ++ [t])))) : wDrop (wApp (wVar i) we) E ρ μ := by
  show (match ρ[i]? with | some (some d) => isLstM d μ ∧ we ρ μ fun y μ2 => _ | _ => False)
  rw [hv]
  refine ⟨?_, hw _ ?_⟩
  · show (match μ p with | some (.lst _) => True | _ => False)
    rw [h]
    trivial
  · show (match μ p with | some (.lst ds) => _ | _ => False)
    rw [h]
    exact ⟨l, k⟩
theorem ext_o {ρ : Rho} {μ : Mh} {i : Nat} {p : Addr} {zs ys : List DV} {we : WE} {E : DEnds} (hv : ρ[i]? = some (some (.obj p))) (h : μ p = some (.lst zs)) (hw : ∀ P : DV → Mh → Prop, P (.lst ys) μ → we ρ μ P) (l : zs.length + ys.length ≤ sizeLine) (k : E.nx ρ (updM μ p (.lst (zs ++ ys)))) : wDrop (wExt (wVar i) we) E ρ μ := by
  show (match ρ[i]? with | some (some d) => isLstM d μ ∧ we ρ μ fun y μ2 => _ | _ => False)
  rw [hv]
  refine ⟨?_, hw _ ?_⟩
  · show (match μ p with | some (.lst _) => True | _ => False)
    rw [h]
    trivial
  · show (match μ p with | some (.lst ds) => _ | _ => False)
    rw [h]
    exact ⟨l, k⟩
theorem frz_o {ρ : Rho} {μ : Mh} {i : Nat} {p : Addr} {zs : List DV} {P : DV → Mh → Prop} (hv : ρ[i]? = some (some (.obj p))) (h : μ p = some (.lst zs)) (k : P (.lst zs) (delM μ p)) : wFrz (wVar i) ρ μ P := by
  show (match ρ[i]? with | some (some d) => _ | _ => False)
  rw [hv]
  show (match μ p with | some (.lst ds) => P (.lst ds) (delM μ p) | some (.dct ds) => P (.dct ds) (delM μ p) | _ => False)
  rw [h]
  exact k
theorem neL_empty {μ : Mh} {p : Addr} {zs : List DV} {P : DV → Mh → Prop} (h : μ p = some (.lst zs)) (hs : shapedD (.lst zs) = true) (k : P (.bool (!zs.isEmpty)) μ) : wNeL (.obj p) (.lst []) μ P := by
  refine neL_o h hs rfl ?_
  cases zs with
  | nil => exact k
  | cons z zs => exact k
theorem noObjs_mem : ∀ {ds : List DV}, (∀ d ∈ ds, noObj d = true) → noObjs ds = true
  | [], _ => rfl
  | d :: ds, h => by
    show (noObj d && noObjs ds) = true
    rw [h d List.mem_cons_self, noObjs_mem fun e he => h e (List.mem_cons_of_mem _ he)]
    rfl
theorem sizs_any {p : Nat} : ∀ {ds : List DV}, (∀ d ∈ ds, ∃ N, Siz N p d) → ∃ N, Sizs N p ds
  | [], _ => ⟨0, Sizs.nil.le (Nat.le_refl _) (Nat.zero_le _)⟩
  | d :: ds, h => by
    obtain ⟨N, hN⟩ := h d List.mem_cons_self
    obtain ⟨M, hM⟩ := sizs_any fun e he => h e (List.mem_cons_of_mem _ he)
    exact ⟨_, Sizs.cons hN hM⟩
theorem shaped_all {p : Nat} {ds : List DV} (h : ∀ d ∈ ds, (∃ N, Siz N p d) ∧ noDct d = true) (hp : p ≤ 60) : shapedD (.lst ds) = true := by
  obtain ⟨N, hN⟩ := sizs_any fun d hd => (h d hd).1
  exact (Siz.lst hN).shaped (by omega) (noDcts_of fun d hd => (h d hd).2)
theorem ixK_o {f : List (Str × DV)} {z : Str} {d : DV} {wb : WE} {ρ : Rho} {μ : Mh} {P : DV → Mh → Prop} (hw : ∀ P : DV → Mh → Prop, P (.str z) μ → wb ρ μ P) (h : lookD f z = some d) (k : P d μ) : wIxK f wb ρ μ P := by
  refine hw _ ?_
  show atW (lookD f z) _
  rw [h]
  exact k
theorem atI_zero {x : DV} {xs : List DV} : atI (x :: xs) 0 = some x := atI_of (i := 0) rfl
theorem snoc_of {α : Type} (l : List α) : l = [] ∨ ∃ init x, l = init ++ [x] := by
  rcases List.eq_nil_or_concat l with h | ⟨init, x, h⟩
  · exact .inl h
  · exact .inr ⟨init, x, by simpa using h⟩
theorem in_tup {x : Str} {ds : List DV} (b : Bool) {μ : Mh} {P : DV → Mh → Prop} (h1 : ds.all flatD = true) (h2 : inF (.str x) ds = b) (h3 : P (.bool b) μ) : wIn (.str x) (.tup ds) μ P :=
  .inl ⟨rfl, h1, by rw [h2]; exact h3⟩
theorem eq_str {x y : Str} (b : Bool) {μ : Mh} {P : DV → Mh → Prop} (h : decide (x = y) = b) (h3 : P (.bool b) μ) : wEqL (.str x) (.str y) μ P := by
  show P (.bool (decide (x = y))) μ
  rw [h]
  exact h3
theorem in_lst {x : Str} {ds : List DV} (b : Bool) {μ : Mh} {P : DV → Mh → Prop} (h1 : ds.all flatD = true) (h2 : inF (.str x) ds = b) (h3 : P (.bool b) μ) : wIn (.str x) (.lst ds) μ P :=
  .inl ⟨rfl, h1, by rw [h2]; exact h3⟩
theorem inF_strs (x : Str) (l : List Str) : inF (.str x) (l.map .str) = true ↔ x ∈ l := by
  unfold inF
  rw [List.any_eq_true]
  constructor
  · rintro ⟨y, hy, he⟩
    rw [List.mem_map] at hy
    obtain ⟨z, hz, rfl⟩ := hy
    have : z = x := eq_of_beq (show (z == x) = true from he)
    rw [← this]
    exact hz
  · intro h
    exact ⟨.str x, List.mem_map.mpr ⟨x, h, rfl⟩, beq_self_eq_true x⟩
theorem flat_strs (l : List Str) : (l.map DV.str).all flatD = true := by
  rw [List.all_eq_true]
  intro x hx
  rw [List.mem_map] at hx
  obtain ⟨y, _, rfl⟩ := hx
  rfl
theorem comp_inv {g : WG} {t : WT} {e : WE} {ρ : Rho} {J : List DV → List DV → Mh → Prop} : ∀ (xs acc : List DV) (μ : Mh) (P : List DV → Mh → Prop),
    (∀ (x : DV) (rest acc : List DV) (μ : Mh) (P : List DV → Mh → Prop), J acc (x :: rest) μ → acc.length < sizeLine → (∀ y μ', J (acc ++ [y]) rest μ' → P (acc ++ [y]) μ') → (∀ μ', J acc rest μ' → P acc μ') →
      g x ρ fun ρ1 => t ρ1 μ fun b μ1 => match b with
        | true => e ρ1 μ1 fun y μ2 => acc.length < sizeLine ∧ P (acc ++ [y]) μ2
        | false => P acc μ1) →
    acc.length + xs.length ≤ sizeLine → J acc xs μ → (∀ zs μ', J zs [] μ' → P zs μ') → compW g t e ρ xs acc μ P
  | [], acc, μ, P, _, _, hi, q => q acc μ hi
  | x :: xs, acc, μ, P, hx, hl, hi, q => by
    rw [List.length_cons] at hl
    refine hx x xs acc μ (fun ac μ' => compW g t e ρ xs ac μ' P) hi (by omega) (fun y μ' j => ?_) (fun μ' j => ?_)
    · exact comp_inv xs (acc ++ [y]) μ' P hx (by simp; omega) j q
    · exact comp_inv xs acc μ' P hx (by omega) j q
abbrev Dk (μ : Mh) (a c : Addr) (m : Nat) : Prop := HasDeck "total" μ a c m
abbrev drawW : WF := wfDraw "total"
abbrev pickW : WF := wfPick "total"
theorem draw_c {a c : Addr} {m : Nat} {many : Int} {μ : Mh} {Q : DV → Mh → Prop} (h0 : 0 < many) (h1 : many < 2 ^ 64) (h : Dk μ a c (m + 1)) (q : ∀ r μ', 0 ≤ r → r < many → Dk μ' a c m → OnlyDeck μ μ' a c → Q (.int r) μ') : drawW [.obj a, .int many] μ Q :=
  ⟨a, c, m, many, rfl, h0, h1, h, q⟩
theorem pick_c {a c : Addr} {m : Nat} {y : DV} {μ : Mh} {Q : DV → Mh → Prop} (l0 : 0 < (itemsD y).length) (l1 : (itemsD y).length ≤ 1000000) (h : Dk μ a c (m + 1)) (q : ∀ x μ', x ∈ itemsD y → Dk μ' a c m → OnlyDeck μ μ' a c → Q x μ') : pickW [.obj a, y] μ Q :=
  ⟨a, c, m, y, rfl, l0, sl l1, h, q⟩
def IsNm (d : DV) : Prop := ∃ x, d = .str x ∧ plainS x = true ∧ x.length ≤ 8
theorem IsNm.siz {d : DV} (h : IsNm d) : Siz 8 0 d := by
  obtain ⟨x, rfl, h1, h2⟩ := h
  exact (Siz.str h1).le h2 (Nat.le_refl _)
theorem nd3 {w : Str} {a b : DV} (h : noDct a = true) (h' : noDct b = true) : noDct (.tup [.str w, a, b]) = true := by
  show (true && (noDct a && (noDct b && true))) = true
  rw [h, h']
  rfl
theorem nd2 {w : Str} {a : DV} (h : noDct a = true) : noDct (.tup [.str w, a]) = true := by
  show (true && (noDct a && true)) = true
  rw [h]
  rfl
theorem nd22 {a b : DV} (h : noDct a = true) (h' : noDct b = true) : noDct (.tup [a, b]) = true := by
  show (noDct a && (noDct b && true)) = true
  rw [h, h']
  rfl
theorem wordS {x : Str} {n : Nat} (h : plainS x = true) (h2 : x.length = n) (p : Nat) : Siz n p (.str x) := (Siz.str h).le (Nat.le_of_eq h2) (Nat.zero_le _)
theorem nilS {p : Nat} : Sizs 0 p [] := Sizs.nil.le (Nat.le_refl 0) (Nat.zero_le _)
theorem mem_dl {α : Type} {x : α} {l : List α} (h : x ∈ l.dropLast) : x ∈ l := (List.dropLast_sublist l).mem h
theorem last_of {pl : List DV} (h : 0 < pl.length) : ∃ y, pl[pl.length - 1]? = some y ∧ y ∈ pl := by
  have hi : pl.length - 1 < pl.length := by omega
  exact ⟨pl[pl.length - 1], List.getElem?_eq_getElem hi, List.getElem_mem hi⟩
theorem dropLast_snoc {α : Type} {l : List α} {y : α} (h : l[l.length - 1]? = some y) : l.dropLast ++ [y] = l := by
  rcases List.eq_nil_or_concat l with rfl | ⟨init, x, e⟩
  · cases h
  · have e : l = init ++ [x] := by simpa using e
    subst e
    rw [List.length_append, List.length_singleton, Nat.add_sub_cancel, List.getElem?_append_right (Nat.le_refl _), Nat.sub_self] at h
    have : x = y := by simpa using h
    rw [this, List.dropLast_concat]
theorem nodup_of_map {α β : Type} {f : α → β} {l : List α} (h : (l.map f).Nodup) : l.Nodup := by
  unfold List.Nodup at h ⊢
  rw [List.pairwise_map] at h
  exact h.imp fun h e => h (by rw [e])
theorem getElem?_inj' {α : Type} {l : List α} (h : l.Nodup) {i j : Nat} {x : α} (hi : l[i]? = some x) (hj : l[j]? = some x) : i = j := by
  obtain ⟨h1, h2⟩ := List.getElem?_eq_some_iff.mp hi
  obtain ⟨h3, h4⟩ := List.getElem?_eq_some_iff.mp hj
  have pw := List.pairwise_iff_getElem.mp (show l.Pairwise (· ≠ ·) from h)
  rcases Nat.lt_trichotomy i j with hlt | rfl | hlt
  · exact absurd (h2.trans h4.symm) (pw i j h1 h3 hlt)
  · rfl
  · exact absurd (h4.trans h2.symm) (pw j i h3 h1 hlt)
abbrev leS (a b : Str) : Prop := PySem.Spec.ltCps b.cps.toList a.cps.toList = false
theorem leS_iff {a b : Str} : leS a b ↔ a.cps.toList ≤ b.cps.toList := by
  unfold leS
  rw [PyProof.Rows.ltCps_eq, decide_eq_false_iff_not, List.not_lt]
theorem leS_trans {a b c : Str} (h : leS a b) (h' : leS b c) : leS a c := leS_iff.mpr (List.le_trans (leS_iff.mp h) (leS_iff.mp h'))
theorem leS_anti {a b : Str} (h : leS a b) (h' : leS b a) : a = b := by
  have := List.le_antisymm (leS_iff.mp h) (leS_iff.mp h')
  exact PySem.W.str_of_cps this
theorem rising_pair : ∀ {p : Str} {l : List Str}, PyProof.Rows.risingS p l = true → (p :: l).Pairwise leS
  | p, [], _ => List.pairwise_singleton _ _
  | p, x :: r, h => by
    have h' : (!PySem.Spec.ltCps x.cps.toList p.cps.toList && PyProof.Rows.risingS x r) = true := h
    rw [Bool.and_eq_true, Bool.not_eq_true'] at h'
    have ih := rising_pair h'.2
    refine List.pairwise_cons.mpr ⟨fun y hy => ?_, ih⟩
    rcases List.mem_cons.mp hy with rfl | hy
    · exact h'.1
    · exact leS_trans h'.1 (List.rel_of_pairwise_cons ih hy)
theorem sorted_pair : ∀ {l : List Str}, PyProof.Rows.sortedS l = true → l.Pairwise leS
  | [], _ => .nil
  | _ :: _, h => rising_pair h
theorem rising_unique {xs ys : List Str} (h1 : xs.Nodup) (h2 : ys.Nodup) (p1 : xs.Pairwise leS) (p2 : ys.Pairwise leS) (h : ∀ k, k ∈ xs ↔ k ∈ ys) : xs = ys := by
  have pm : xs.Perm ys := (List.perm_ext_iff_of_nodup h1 h2).mpr h
  exact pm.eq_of_pairwise (fun a b _ _ h h' => leS_anti h h') p1 p2
theorem leD_str {a b : Str} : leD (.str a) (.str b) = true ↔ leS a b := by
  unfold leD
  rw [show toPy (.str b) = .str b from rfl, show toPy (.str a) = .str a from rfl, PySem.W.dataLt_str, Bool.not_eq_true']
  unfold leS
  rw [PyProof.Rows.ltCps_eq]
def unS (d : DV) : Str := match d with | .str s => s | _ => ⟨#[]⟩
theorem unS_map (l : List Str) : (l.map DV.str).map unS = l := by
  rw [List.map_map]
  exact List.map_id l
theorem sort_strs {l : List Str} {μ : Mh} {P : DV → Mh → Prop} (hl : l.length ≤ 1000) (k : ∀ es : List Str, es.Perm l → es.Pairwise leS → P (.lst (es.map .str)) μ) : sortW (l.map .str) μ P := by
  have no : ∀ l : List Str, noObjs (l.map DV.str) = true := fun l => noObjs_mem fun d hd => by
    rw [List.mem_map] at hd
    obtain ⟨x, _, rfl⟩ := hd
    rfl
  refine ⟨no l, ?_, ?_, fun d hd => ?_, by rw [List.length_map]; exact sl (by omega), fun es pm pw => ?_⟩
  · unfold allAlike
    rw [List.all_eq_true]
    intro x hx
    rw [List.all_eq_true]
    intro y hy
    rw [List.mem_map] at hx hy
    obtain ⟨s, _, rfl⟩ := hx
    obtain ⟨t, _, rfl⟩ := hy
    rfl
  · unfold sortable
    rw [Bool.or_eq_true]
    right
    rw [List.all_eq_true]
    intro x hx
    rw [List.mem_map] at hx
    obtain ⟨s, _, rfl⟩ := hx
    rfl
  · rw [List.mem_map] at hd
    obtain ⟨s, _, rfl⟩ := hd
    exact Nat.zero_le _
  · have hst : ∀ z ∈ es, ∃ s, z = DV.str s := fun z hz => by
      have := pm.mem_iff.mp hz
      rw [List.mem_map] at this
      obtain ⟨s, _, rfl⟩ := this
      exact ⟨s, rfl⟩
    have hes : ∃ zs : List Str, es = zs.map .str := by
      clear pm pw
      induction es with
      | nil => exact ⟨[], rfl⟩
      | cons z es ih =>
        obtain ⟨s, rfl⟩ := hst z List.mem_cons_self
        obtain ⟨zs, rfl⟩ := ih fun y hy => hst y (List.mem_cons_of_mem _ hy)
        exact ⟨s :: zs, rfl⟩
    obtain ⟨zs, rfl⟩ := hes
    refine k zs ?_ ?_
    · have e := pm.map unS
      rw [unS_map, unS_map] at e
      exact e
    · rw [List.pairwise_map] at pw
      exact pw.imp fun h => leD_str.mp h
theorem cut_nd {ds : List DV} {lo hi : Option Int} (h : ds.Nodup) : (cutD ds lo hi).Nodup := by
  unfold cutD
  exact h.sublist ((List.take_sublist _ _).trans (List.drop_sublist _ _))
end Qz

set_option Elab.async false
set_option linter.all false
set_option maxRecDepth 100000
/-! K11w: what the defs of the text do, over plain data (printed by gen.py). -/
namespace K11
open PySem L2 Dz

def w_is_name : WS :=
  (wSeq (wIfS (wOrT (wNotT (wTest (wIsi tyStr (wVar 0)))) (wNotT (wTest (wChain wLe wLe (wC (.int 1)) (wB wLen (wCons (wVar 0) wNil)) (wC (.int 8)))))) (wRet (wC (.bool false))) wNext)
    (wRet (wB wAll (wCons (wLc (sStr (wVar 0)) (wgName 1) wYes (wBin wIn (wVar 1) (wC (.str "abcdefghijklmnopqrstuvwxyz"))) [1]) wNil))))

def w_is_value (f_is_name : WF) : WS :=
  (wSeq (wIfS (wTest (wBin wIsN (wVar 0) (wC .none))) (wRet (wC (.bool true))) wNext)
    (wSeq (wIfS (wOrT (wTest (wIsi tyBool (wVar 0))) (wNotT (wTest (wIsi tyInt (wVar 0))))) (wRet (wCall 1 f_is_name (wCons (wVar 0) wNil))) wNext)
    (wRet (wChain wLe wLe (wUn wNeg (wC (.int 1000000000000))) (wVar 0) (wC (.int 1000000000000))))))

def w_is_number (f_is_value : WF) : WS :=
  (wRet (wAndV (wCall 1 f_is_value (wCons (wVar 0) wNil)) (wIsi tyInt (wVar 0))))

def w_numbers_text : WS :=
  (wSeq (wIfS (wTest (wBin wEqL (wVar 0) (wLst wNil))) (wRet (wC (.str "0 numbers"))) wNext)
    (wRet (wFstr [(wFmt (wB wLen (wCons (wVar 0) wNil))), (wC (.str " numbers from ")), (wFmt (wB wMinL (wCons (wVar 0) wNil))), (wC (.str " to ")), (wFmt (wB wMaxL (wCons (wVar 0) wNil)))])))

def w_Facts_init (C_Facts : Addr) (f_is_number : WF) (f_numbers_text : WF) : WS :=
  (wSeq (wAsg (wLc (sTup (wVar 1)) (wgName 3) (wTest (wCall 1 f_is_number (wCons (wVar 3) wNil))) (wVar 3) [3]) (wgName 2))
    (wSeq (wPutF C_Facts "facts_of" (wVar 0) (wVar 1))
    (wSeq (wPutF C_Facts "nothings" (wVar 0) (wB wLen (wCons (wLc (sTup (wVar 1)) (wgName 3) (wTest (wBin wIsN (wVar 3) (wC .none))) (wVar 3) [3]) wNil)))
    (wSeq (wPutF C_Facts "numbers" (wVar 0) (wB wLen (wCons (wVar 2) wNil)))
    (wSeq (wPutF C_Facts "words" (wVar 0) (wBin wSub (wBin wSub (wB wLen (wCons (wVar 1) wNil)) (wFld C_Facts "nothings" (wVar 0))) (wFld C_Facts "numbers" (wVar 0))))
    (wSeq (wPutF C_Facts "least" (wVar 0) (wIf (wTest (wBin wNeL (wVar 2) (wLst wNil))) (wB wMinL (wCons (wVar 2) wNil)) (wC .none)))
    (wSeq (wPutF C_Facts "greatest" (wVar 0) (wIf (wTest (wBin wNeL (wVar 2) (wLst wNil))) (wB wMaxL (wCons (wVar 2) wNil)) (wC .none)))
    (wPutF C_Facts "text" (wVar 0) (wFstr [(wFmt (wFld C_Facts "nothings" (wVar 0))), (wC (.str " nothing, ")), (wFmt (wCall 1 f_numbers_text (wCons (wVar 2) wNil))), (wC (.str ", ")), (wFmt (wFld C_Facts "words" (wVar 0))), (wC (.str " words"))])))))))))

def w_Facts_add (C_Facts : Addr) (f_Facts_init : WF) : WS :=
  (wSeq (wAsg (wBin wAdd (wFld C_Facts "facts_of" (wVar 0)) (wFld C_Facts "facts_of" (wVar 1))) (wgName 2))
    (wRet (wMakeS C_Facts f_Facts_init (wSpread (wVar 2)))))

def w_Facts_contains (C_Facts : Addr) : WS :=
  (wSeq (wIfS (wTest (wBin wIsN (wVar 1) (wC .none))) (wRet (wBin wGt (wFld C_Facts "nothings" (wVar 0)) (wC (.int 0)))) wNext)
    (wSeq (wIfS (wTest (wIsi tyStr (wVar 1))) (wRet (wBin wGt (wFld C_Facts "words" (wVar 0)) (wC (.int 0)))) wNext)
    (wRet (wAndV (wBin wGt (wFld C_Facts "numbers" (wVar 0)) (wC (.int 0))) (wChain wLe wLe (wFld C_Facts "least" (wVar 0)) (wVar 1) (wFld C_Facts "greatest" (wVar 0)))))))

def w_Facts_eq (C_Facts : Addr) (f_five_of : WF) : WS :=
  (wRet (wAndV (wIsC C_Facts (wVar 1)) (wBin wEqL (wCall 1 f_five_of (wCons (wVar 0) wNil)) (wCall 1 f_five_of (wCons (wVar 1) wNil)))))

def w_five_of (C_Facts : Addr) : WS :=
  (wRet (wTup (wCons (wFld C_Facts "nothings" (wVar 0)) (wCons (wFld C_Facts "numbers" (wVar 0)) (wCons (wFld C_Facts "words" (wVar 0)) (wCons (wFld C_Facts "least" (wVar 0)) (wCons (wFld C_Facts "greatest" (wVar 0)) wNil)))))))

def w_law_deck : WS :=
  (wSeq (wAsg (wB wList (wCons (wSl (wVar 0) wNoPart (wPart (wC (.int 63)))) wNil)) (wgName 1))
    (wSeq (wAsg (wC (.int 52711)) (wgName 2))
    (wSeq (wFor (sLst (wVar 1)) (wgName 3) (wAsg (wBin wMod (wBin wAdd (wBin wAdd (wBin wMul (wVar 2) (wC (.int 48271))) (wBin wMod (wVar 3) (wC (.int 2147483563)))) (wC (.int 37))) (wC (.int 2147483629))) (wgName 2)))
    (wRet (wDctM [((.inr "cells"), (wRevM (wVar 1))), ((.inr "mixed"), (wVar 2)), ((.inr "draws"), (wC (.int 0)))])))))

def w_law_draw : WS :=
  (wSeq (wDPut (wVar 0) (wC (.str "draws")) (wBin wAdd (wBin wDGet (wVar 0) (wC (.str "draws"))) (wC (.int 1))))
    (wSeq (wAsg (wC (.int 0)) (wgName 2))
    (wSeq (wIfS (wTest (wBin wNeL (wBin wDGet (wVar 0) (wC (.str "cells"))) (wLst wNil))) (wSeq (wAsg (wUn wPop (wBin wDGet (wVar 0) (wC (.str "cells")))) (wgName 2))
    (wIfS (wTest (wBin wGe (wVar 2) (wBin wPow (wC (.int 10)) (wC (.int 18))))) (wSeq (wDrop (wApp (wBin wDGet (wVar 0) (wC (.str "cells"))) (wBin wDiv (wVar 2) (wVar 1))))
    (wRet (wBin wMod (wVar 2) (wVar 1)))) wNext)) wNext)
    (wSeq (wAsg (wBin wDGet (wVar 0) (wC (.str "draws"))) (wgName 3))
    (wSeq (wAsg (wBin wAdd (wBin wAdd (wBin wDGet (wVar 0) (wC (.str "mixed"))) (wBin wMod (wVar 2) (wC (.int 2147483587)))) (wBin wMul (wBin wMul (wC (.int 69621)) (wVar 3)) (wVar 3))) (wgName 4))
    (wSeq (wAsg (wBin wMod (wBin wMul (wVar 4) (wC (.int 40692))) (wC (.int 2147483563))) (wgName 4))
    (wSeq (wAsg (wBin wMod (wBin wAdd (wBin wAdd (wBin wMul (wVar 4) (wVar 4)) (wBin wMul (wC (.int 52774)) (wVar 4))) (wVar 3)) (wC (.int 2147483629))) (wgName 4))
    (wRet (wBin wMod (wBin wDiv (wBin wMod (wBin wMul (wVar 4) (wBin wAdd (wBin wDiv (wVar 4) (wC (.int 7))) (wC (.int 39373)))) (wC (.int 2147483587))) (wC (.int 64))) (wVar 1))))))))))

def w_law_pick (f_law_draw : WF) : WS :=
  (wRet (wBin wIx (wVar 1) (wCall 2 f_law_draw (wCons (wVar 0) (wCons (wB wLen (wCons (wVar 1) wNil)) wNil)))))

def w_law_names (f_law_draw : WF) (f_law_pick : WF) : WS :=
  (wSeq (wAsg (wTup (wCons (wC (.str "abcdefghijklmnopqrstuvwxyz")) (wCons (wCall 2 f_law_draw (wCons (wVar 0) (wCons (wC (.int 3)) wNil))) wNil))) (wgTup 2 (wgCons (wgName 2) (wgCons (wgName 3) wgNil))))
    (wSeq (wAsg (wTup (wCons (wJoin (wC (.str "")) (wLc (sRng1 (wC (.int 8))) (wgName 6) wYes (wCall 2 f_law_pick (wCons (wVar 0) (wCons (wVar 2) wNil))) [6])) (wCons (wCall 2 f_law_draw (wCons (wVar 0) (wCons (wC (.int 12)) wNil))) wNil))) (wgTup 2 (wgCons (wgName 4) (wgCons (wgName 5) wgNil))))
    (wSeq (wAsg (wLst (wCons (wC (.str "table")) (wCons (wC (.str "row")) (wCons (wC (.str "next")) (wCons (wC (.str "key")) (wCons (wC (.str "index")) (wCons (wC (.str "nothing")) (wCons (wC (.str "number")) (wCons (wC (.str "word")) (wCons (wC (.str "from")) (wCons (wC (.str "tell")) (wCons (wC (.str "no")) (wCons (wC (.str "within")) wNil))))))))))))) (wgName 7))
    (wSeq (wIfS (wAndT (wTest (wBin wEqL (wVar 3) (wC (.int 1)))) (wTest (wBin wLtA (wVar 1) (wC (.int 9))))) (wRet (wLc (sRng1 (wVar 1)) (wgName 6) wYes (wSl (wVar 4) wNoPart (wPart (wBin wAdd (wVar 6) (wC (.int 1))))) [6])) wNext)
    (wSeq (wIfS (wTest (wBin wEqL (wVar 3) (wC (.int 2)))) (wRet (wLc (sRng1 (wVar 1)) (wgName 6) wYes (wBin wIx (wVar 7) (wBin wMod (wBin wAdd (wVar 5) (wVar 6)) (wC (.int 12)))) [6])) wNext)
    (wSeq (wAsg (wCall 2 f_law_draw (wCons (wVar 0) (wCons (wC (.int 8)) wNil))) (wgName 8))
    (wSeq (wAsg (wIndexS (wVar 2) (wBin wIx (wVar 4) (wVar 8))) (wgName 9))
    (wRet (wLc (sRng1 (wVar 1)) (wgName 6) wYes (wBin wAdd (wBin wAdd (wSl (wVar 4) wNoPart (wPart (wVar 8))) (wBin wIx (wVar 2) (wBin wMod (wBin wAdd (wVar 9) (wVar 6)) (wC (.int 26))))) (wSl (wVar 4) (wPart (wBin wAdd (wVar 8) (wC (.int 1)))) wNoPart)) [6])))))))))

def w_law_facts (C_Facts : Addr) (f_Facts_add : WF) (f_law_facts : WF) (f_Facts_init : WF) : WS :=
  (wSeq (wIfS (wTest (wBin wGt (wB wLen (wCons (wVar 0) wNil)) (wC (.int 3)))) (wRet (wBin (wOpO C_Facts f_Facts_add) (wCall 1 f_law_facts (wCons (wSl (wVar 0) wNoPart (wPart (wC (.int 2)))) wNil)) (wCall 1 f_law_facts (wCons (wSl (wVar 0) (wPart (wC (.int 2))) wNoPart) wNil)))) wNext)
    (wSeq (wIfS (wTest (wBin wEqL (wB wLen (wCons (wVar 0) wNil)) (wC (.int 0)))) (wRet (wMakeS C_Facts f_Facts_init wNil)) wNext)
    (wSeq (wIfS (wTest (wBin wEqL (wB wLen (wCons (wVar 0) wNil)) (wC (.int 1)))) (wRet (wMakeS C_Facts f_Facts_init (wCons (wBin wIx (wVar 0) (wC (.int 0))) wNil))) wNext)
    (wSeq (wIfS (wTest (wBin wEqL (wB wLen (wCons (wVar 0) wNil)) (wC (.int 2)))) (wRet (wMakeS C_Facts f_Facts_init (wCons (wBin wIx (wVar 0) (wC (.int 0))) (wCons (wBin wIx (wVar 0) (wC (.int 1))) wNil)))) wNext)
    (wRet (wMakeS C_Facts f_Facts_init (wCons (wBin wIx (wVar 0) (wC (.int 0))) (wCons (wBin wIx (wVar 0) (wC (.int 1))) (wCons (wBin wIx (wVar 0) (wC (.int 2))) wNil)))))))))

def w_law_due : WS :=
  (wSeq (wAsg (wLc (sLst (wVar 0)) (wgName 2) (wTest (wIsi tyInt (wVar 2))) (wVar 2) [2]) (wgName 1))
    (wSeq (wAsg (wLc (sLst (wVar 0)) (wgName 2) (wTest (wIsi tyStr (wVar 2))) (wVar 2) [2]) (wgName 3))
    (wSeq (wAsg (wIf (wTest (wBin wNeL (wVar 1) (wLst wNil))) (wTup (wCons (wB wMinL (wCons (wVar 1) wNil)) (wCons (wB wMaxL (wCons (wVar 1) wNil)) wNil))) (wTup (wCons (wC .none) (wCons (wC .none) wNil)))) (wgName 4))
    (wRet (wBin wAdd (wTup (wCons (wBin wSub (wBin wSub (wB wLen (wCons (wVar 0) wNil)) (wB wLen (wCons (wVar 1) wNil))) (wB wLen (wCons (wVar 3) wNil))) (wCons (wB wLen (wCons (wVar 1) wNil)) (wCons (wB wLen (wCons (wVar 3) wNil)) wNil)))) (wVar 4))))))

def w_law_text : WS :=
  (wSeq (wAsg (wC (.str "0 numbers")) (wgName 1))
    (wSeq (wIfS (wTest (wBin wGt (wBin wIx (wVar 0) (wC (.int 1))) (wC (.int 0)))) (wAsg (wBin wAdd (wBin wAdd (wBin wAdd (wBin wAdd (wB wStrI (wCons (wBin wIx (wVar 0) (wC (.int 1))) wNil)) (wC (.str " numbers from "))) (wB wStrI (wCons (wBin wIx (wVar 0) (wC (.int 3))) wNil))) (wC (.str " to "))) (wB wStrI (wCons (wBin wIx (wVar 0) (wC (.int 4))) wNil))) (wgName 1)) wNext)
    (wRet (wBin wAdd (wBin wAdd (wBin wAdd (wBin wAdd (wBin wAdd (wB wStrI (wCons (wBin wIx (wVar 0) (wC (.int 0))) wNil)) (wC (.str " nothing, "))) (wVar 1)) (wC (.str ", "))) (wB wStrI (wCons (wBin wIx (wVar 0) (wC (.int 2))) wNil))) (wC (.str " words"))))))

def w_law_told (C_Facts : Addr) : WS :=
  (wRet (wB wRepr (wCons (wTup (wCons (wFld C_Facts "nothings" (wVar 0)) (wCons (wFld C_Facts "numbers" (wVar 0)) (wCons (wFld C_Facts "words" (wVar 0)) (wCons (wFld C_Facts "least" (wVar 0)) (wCons (wFld C_Facts "greatest" (wVar 0)) wNil)))))) wNil)))

def w_law_probes (f_law_draw : WF) : WS :=
  (wSeq (wAsg (wLstM (wCons (wC (.int 0)) (wCons (wC (.int 1)) (wCons (wBin wPow (wC (.int 10)) (wC (.int 12))) (wCons (wBin wSub (wC (.int 0)) (wBin wPow (wC (.int 10)) (wC (.int 12)))) (wCons (wBin wSub (wCall 2 f_law_draw (wCons (wVar 0) (wCons (wC (.int 200)) wNil))) (wC (.int 100))) wNil)))))) (wgName 3))
    (wSeq (wFor (sTup (wSl (wVar 1) (wPart (wC (.int 3))) wNoPart)) (wgName 4) (wIfS (wTest (wBin wNotN (wVar 4) (wC .none))) (wDrop (wExt (wVar 3) (wLst (wCons (wB wMax2 (wCons (wBin wSub (wC (.int 0)) (wBin wPow (wC (.int 10)) (wC (.int 12)))) (wCons (wBin wSub (wVar 4) (wC (.int 1))) wNil))) (wCons (wVar 4) (wCons (wB wMin2 (wCons (wBin wPow (wC (.int 10)) (wC (.int 12))) (wCons (wBin wAdd (wVar 4) (wC (.int 1))) wNil))) wNil)))))) wNext))
    (wSeq (wIfS (wTest (wBin wGt (wBin wIx (wVar 1) (wC (.int 1))) (wC (.int 0)))) (wDrop (wApp (wVar 3) (wBin wDiv (wBin wAdd (wBin wIx (wVar 1) (wC (.int 3))) (wBin wIx (wVar 1) (wC (.int 4)))) (wC (.int 2))))) wNext)
    (wFrzV 3 (wRet (wBin wAdd (wBin wAdd (wLst (wCons (wC .none) wNil)) (wVar 2)) (wVar 3)))))))

def w_law_is_in : WS :=
  (wSeq (wIfS (wTest (wBin wIsN (wVar 1) (wC .none))) (wRet (wBin wGt (wBin wIx (wVar 0) (wC (.int 0))) (wC (.int 0)))) wNext)
    (wSeq (wIfS (wTest (wIsi tyStr (wVar 1))) (wRet (wBin wGt (wBin wIx (wVar 0) (wC (.int 2))) (wC (.int 0)))) wNext)
    (wRet (wAndV (wBin wGt (wBin wIx (wVar 0) (wC (.int 1))) (wC (.int 0))) (wChain wLe wLe (wBin wIx (wVar 0) (wC (.int 3))) (wVar 1) (wBin wIx (wVar 0) (wC (.int 4))))))))

def w_law_asked_right (C_Facts : Addr) (f_law_probes : WF) (f_law_is_in : WF) (f_Facts_contains : WF) (f_law_told : WF) (f_law_text : WF) : WS :=
  (wSeq (wFor (sLst (wCall 3 f_law_probes (wCons (wVar 0) (wCons (wVar 2) (wCons (wVar 3) wNil))))) (wgName 4) (wSeq (wAsg (wCall 2 f_law_is_in (wCons (wVar 2) (wCons (wVar 4) wNil))) (wgName 5))
    (wIfS (wOrT (wTest (wBin wNeL (wBin (wInO C_Facts f_Facts_contains false) (wVar 4) (wVar 1)) (wVar 5))) (wTest (wBin wEqL (wBin (wInO C_Facts f_Facts_contains true) (wVar 4) (wVar 1)) (wVar 5)))) (wRet (wC (.bool false))) wNext)))
    (wRet (wAndV (wBin wEqL (wCall 1 f_law_told (wCons (wVar 1) wNil)) (wB wRepr (wCons (wVar 2) wNil))) (wBin wEqL (wFld C_Facts "text" (wVar 1)) (wCall 1 f_law_text (wCons (wVar 2) wNil))))))

def w_law_sums_right (C_Facts : Addr) (f_law_facts : WF) (f_law_told : WF) (f_Facts_add : WF) (f_law_due : WF) (f_law_asked_right : WF) (f_Facts_eq : WF) (f_Facts_init : WF) : WS :=
  (wSeq (wAsg (wLc (sLst (wVar 1)) (wgName 6) wYes (wCall 1 f_law_facts (wCons (wVar 6) wNil)) [6]) (wgLst 3 (wgCons (wgName 3) (wgCons (wgName 4) (wgCons (wgName 5) wgNil)))))
    (wSeq (wAsg (wLc (sTup (wTup (wCons (wVar 3) (wCons (wVar 4) (wCons (wVar 5) wNil))))) (wgName 8) wYes (wCall 1 f_law_told (wCons (wVar 8) wNil)) [8]) (wgName 7))
    (wSeq (wPar 9 10 (wCons (wBin (wOpO C_Facts f_Facts_add) (wVar 3) (wVar 4)) (wCons (wCall 1 f_law_due (wCons (wBin wAdd (wBin wIx (wVar 1) (wC (.int 0))) (wBin wIx (wVar 1) (wC (.int 1)))) wNil)) wNil)))
    (wSeq (wIfS (wOrT (wNotT (wTest (wCall 4 f_law_asked_right (wCons (wVar 0) (wCons (wVar 9) (wCons (wVar 10) (wCons (wVar 2) wNil))))))) (wNotT (wTest (wBin (wOpO C_Facts f_Facts_eq) (wBin (wOpO C_Facts f_Facts_add) (wVar 4) (wVar 3)) (wVar 9))))) (wRet (wC (.bool false))) wNext)
    (wSeq (wAsg (wBin (wOpO C_Facts f_Facts_add) (wVar 3) (wBin (wOpO C_Facts f_Facts_add) (wVar 4) (wVar 5))) (wgName 11))
    (wSeq (wAsg (wCall 1 f_law_due (wCons (wBin wAdd (wBin wAdd (wBin wIx (wVar 1) (wC (.int 0))) (wBin wIx (wVar 1) (wC (.int 1)))) (wBin wIx (wVar 1) (wC (.int 2)))) wNil)) (wgName 10))
    (wSeq (wIfS (wOrT (wNotT (wTest (wCall 4 f_law_asked_right (wCons (wVar 0) (wCons (wVar 11) (wCons (wVar 10) (wCons (wVar 2) wNil))))))) (wNotT (wTest (wBin (wOpO C_Facts f_Facts_eq) (wBin (wOpO C_Facts f_Facts_add) (wVar 9) (wVar 5)) (wVar 11))))) (wRet (wC (.bool false))) wNext)
    (wSeq (wIfS (wOrT (wNotT (wTest (wBin (wOpO C_Facts f_Facts_eq) (wBin (wOpO C_Facts f_Facts_add) (wVar 3) (wMakeS C_Facts f_Facts_init wNil)) (wVar 3)))) (wNotT (wTest (wBin (wOpO C_Facts f_Facts_eq) (wBin (wOpO C_Facts f_Facts_add) (wMakeS C_Facts f_Facts_init wNil) (wVar 3)) (wVar 3))))) (wRet (wC (.bool false))) wNext)
    (wSeq (wIfS (wTest (wBin wNeL (wFld C_Facts "text" (wBin (wOpO C_Facts f_Facts_add) (wVar 11) (wVar 3))) (wFld C_Facts "text" (wBin (wOpO C_Facts f_Facts_add) (wVar 3) (wVar 11))))) (wRet (wC (.bool false))) wNext)
    (wRet (wBin wEqL (wVar 7) (wLc (sTup (wTup (wCons (wVar 3) (wCons (wVar 4) (wCons (wVar 5) wNil))))) (wgName 8) wYes (wCall 1 f_law_told (wCons (wVar 8) wNil)) [8]))))))))))))

def w_law_main (f_law_deck : WF) (f_law_names : WF) (f_law_facts : WF) (f_law_draw : WF) (f_law_sums_right : WF) (f_law_asked_right : WF) (f_law_pick : WF) (f_law_due : WF) : WS :=
  (wSeq (wAsg (wCall 1 f_law_deck (wCons (wVar 0) wNil)) (wgName 1))
    (wSeq (wAsg (wCall 2 f_law_names (wCons (wVar 1) (wCons (wC (.int 3)) wNil))) (wgName 2))
    (wSeq (wFor (sRng1 (wC (.int 6))) (wgName 3) (wSeq (wAsg (wLst (wCons (wC .none) (wCons (wC (.int 0)) (wCons (wC (.int 1)) (wCons (wBin wSub (wC (.int 0)) (wC (.int 1))) (wCons (wBin wPow (wC (.int 10)) (wC (.int 12))) (wCons (wBin wSub (wC (.int 0)) (wBin wPow (wC (.int 10)) (wC (.int 12)))) wNil))))))) (wgName 4))
    (wSeq (wAsg (wBin wAdd (wBin wAdd (wVar 4) (wLst (wCons (wBin wSub (wCall 2 f_law_draw (wCons (wVar 1) (wCons (wC (.int 100)) wNil))) (wC (.int 50))) (wCons (wCall 2 f_law_draw (wCons (wVar 1) (wCons (wC (.int 1000)) wNil))) wNil)))) (wVar 2)) (wgName 4))
    (wSeq (wAsg (wBin wIx (wLst (wCons (wVar 4) (wCons (wVar 4) (wCons (wBin wAdd (wLst (wCons (wC .none) wNil)) (wVar 2)) (wCons (wSl (wVar 4) (wPart (wC (.int 1))) (wPart (wC (.int 8)))) wNil))))) (wCall 2 f_law_draw (wCons (wVar 1) (wCons (wC (.int 4)) wNil)))) (wgName 4))
    (wSeq (wAsg (wLc (sRng1 (wC (.int 3))) (wgName 7) wYes (wLc (sRng1 (wCall 2 f_law_draw (wCons (wVar 1) (wCons (wC (.int 7)) wNil)))) (wgName 8) wYes (wCall 2 f_law_pick (wCons (wVar 1) (wCons (wVar 4) wNil))) [8]) [7]) (wgName 5))
    (wSeq (wIfS (wNotT (wTest (wCall 3 f_law_sums_right (wCons (wVar 1) (wCons (wVar 5) (wCons (wVar 2) wNil)))))) (wRet (wC (.bool false))) wNext)
    (wSeq (wAsg (wCall 1 f_law_facts (wCons (wBin wIx (wVar 5) (wC (.int 0))) wNil)) (wgName 6))
    (wIfS (wNotT (wTest (wCall 4 f_law_asked_right (wCons (wVar 1) (wCons (wVar 6) (wCons (wCall 1 f_law_due (wCons (wBin wIx (wVar 5) (wC (.int 0))) wNil)) (wCons (wVar 2) wNil))))))) (wRet (wC (.bool false))) wNext))))))))
    (wRet (wC (.bool true))))))

end K11

set_option Elab.async false
set_option linter.all false
set_option maxRecDepth 100000
set_option maxHeartbeats 1000000
/-! K11p: values and their facts; readings that only give a value. -/
namespace K11
open PySem L2 Dz

theorem sl {n : Nat} (h : n ≤ 1000000) : n ≤ sizeLine := by rw [sizeLine_eq]; omega
theorem deep_refl {d : DV} (h : shapedD d = true) : deepEq d d = true := SeqAt.eqv_refl _ (SeqAt.canLay_of_shaped (Bool.and_eq_true_iff.mp h).2)

/-! ### values -/
inductive Vl where
  | non
  | int (i : Int)
  | str (s : Str)
def Vl.d : Vl → DV
  | .non => .none
  | .int i => .int i
  | .str s => .str s
def Vl.Ok : Vl → Prop
  | .non => True
  | .int i => -1000000000000 ≤ i ∧ i ≤ 1000000000000
  | .str s => s.length ≤ 1000
def Vl.isI : Vl → Bool
  | .int _ => true
  | _ => false
def isIB : DV → Bool
  | .int _ => true
  | _ => false
def isNB : DV → Bool
  | .none => true
  | _ => false
def isSB : DV → Bool
  | .str _ => true
  | _ => false
def intsOf : List Vl → List Int
  | [] => []
  | .int i :: r => i :: intsOf r
  | _ :: r => intsOf r
def cN : List Vl → Nat
  | [] => 0
  | .non :: r => cN r + 1
  | _ :: r => cN r
def cS : List Vl → Nat
  | [] => 0
  | .str _ :: r => cS r + 1
  | _ :: r => cS r
theorem cnt : ∀ vs : List Vl, cN vs + (intsOf vs).length + cS vs = vs.length
  | [] => rfl
  | v :: r => by
    have ih := cnt r
    cases v <;> simp only [cN, cS, intsOf, List.length_cons] <;> omega
theorem ints_app : ∀ xs ys : List Vl, intsOf (xs ++ ys) = intsOf xs ++ intsOf ys
  | [], _ => rfl
  | x :: xs, ys => by
    have ih := ints_app xs ys
    cases x <;> simp only [List.cons_append, intsOf, ih]
theorem cN_app : ∀ xs ys : List Vl, cN (xs ++ ys) = cN xs + cN ys
  | [], ys => (Nat.zero_add _).symm
  | x :: xs, ys => by
    have ih := cN_app xs ys
    cases x <;> simp only [List.cons_append, cN, ih] <;> omega
theorem cS_app : ∀ xs ys : List Vl, cS (xs ++ ys) = cS xs + cS ys
  | [], ys => (Nat.zero_add _).symm
  | x :: xs, ys => by
    have ih := cS_app xs ys
    cases x <;> simp only [List.cons_append, cS, ih] <;> omega
theorem ints_in : ∀ {vs : List Vl}, (∀ v ∈ vs, v.Ok) → ∀ i ∈ intsOf vs, -1000000000000 ≤ i ∧ i ≤ 1000000000000
  | [], _, i, h => by cases h
  | v :: r, ok, i, h => by
    have ih := ints_in (vs := r) (fun v hv => ok v (List.mem_cons_of_mem _ hv)) i
    cases v with
    | int j =>
      rcases List.mem_cons.mp h with h | h
      · rw [h]; exact ok (.int j) List.mem_cons_self
      · exact ih h
    | non => exact ih h
    | str s => exact ih h
theorem flt_int : ∀ vs : List Vl, ((vs.map Vl.d).filter isIB).map id = (intsOf vs).map .int
  | [] => rfl
  | v :: r => by
    have ih := flt_int r
    rw [List.map_id] at ih ⊢
    cases v with
    | int j => show DV.int j :: _ = DV.int j :: _; rw [← ih]; try rfl
    | non => exact ih
    | str s => exact ih
theorem flt_non : ∀ vs : List Vl, (((vs.map Vl.d).filter isNB).map id).length = cN vs
  | [] => rfl
  | v :: r => by
    have ih := flt_non r
    rw [List.map_id] at ih ⊢
    cases v with
    | non => show _ + 1 = _ + 1; rw [← ih]; try rfl
    | int j => exact ih
    | str s => exact ih
theorem flt_str : ∀ vs : List Vl, (((vs.map Vl.d).filter isSB).map id).length = cS vs
  | [] => rfl
  | v :: r => by
    have ih := flt_str r
    rw [List.map_id] at ih ⊢
    cases v with
    | str s => show _ + 1 = _ + 1; rw [← ih]; try rfl
    | int j => exact ih
    | non => exact ih

/-! ### the least and the greatest -/
def lo : List Int → Int
  | [] => 0
  | x :: xs => xs.foldr min x
def hi : List Int → Int
  | [] => 0
  | x :: xs => xs.foldr max x
theorem lo_mem : ∀ (x : Int) (xs : List Int), lo (x :: xs) ∈ x :: xs
  | x, [] => List.mem_cons_self
  | x, y :: ys => by
    have ih := lo_mem x ys
    show min y (ys.foldr min x) ∈ _
    have ih : ys.foldr min x ∈ x :: ys := ih
    rcases Int.le_total y (ys.foldr min x) with h | h
    · rw [Int.min_eq_left h]; simp
    · rw [Int.min_eq_right h]
      rcases List.mem_cons.mp ih with ih | ih
      · rw [ih]; simp
      · exact List.mem_cons_of_mem _ (List.mem_cons_of_mem _ ih)
theorem lo_le : ∀ (x : Int) (xs : List Int), ∀ y ∈ x :: xs, lo (x :: xs) ≤ y
  | x, [], y, h => by rw [List.mem_singleton] at h; rw [h]; exact Int.le_refl _
  | x, z :: zs, y, h => by
    have ih := lo_le x zs
    show min z (zs.foldr min x) ≤ y
    have ih : ∀ y ∈ x :: zs, zs.foldr min x ≤ y := ih
    rcases List.mem_cons.mp h with h | h
    · exact Int.le_trans (Int.min_le_right _ _) (ih y (by rw [h]; exact List.mem_cons_self))
    · rcases List.mem_cons.mp h with h | h
      · rw [h]; exact Int.min_le_left _ _
      · exact Int.le_trans (Int.min_le_right _ _) (ih y (List.mem_cons_of_mem _ h))
theorem hi_mem : ∀ (x : Int) (xs : List Int), hi (x :: xs) ∈ x :: xs
  | x, [] => List.mem_cons_self
  | x, y :: ys => by
    have ih := hi_mem x ys
    show max y (ys.foldr max x) ∈ _
    have ih : ys.foldr max x ∈ x :: ys := ih
    rcases Int.le_total y (ys.foldr max x) with h | h
    · rw [Int.max_eq_right h]
      rcases List.mem_cons.mp ih with ih | ih
      · rw [ih]; simp
      · exact List.mem_cons_of_mem _ (List.mem_cons_of_mem _ ih)
    · rw [Int.max_eq_left h]; simp
theorem le_hi : ∀ (x : Int) (xs : List Int), ∀ y ∈ x :: xs, y ≤ hi (x :: xs)
  | x, [], y, h => by rw [List.mem_singleton] at h; rw [h]; exact Int.le_refl _
  | x, z :: zs, y, h => by
    have ih := le_hi x zs
    show y ≤ max z (zs.foldr max x)
    have ih : ∀ y ∈ x :: zs, y ≤ zs.foldr max x := ih
    rcases List.mem_cons.mp h with h | h
    · exact Int.le_trans (ih y (by rw [h]; exact List.mem_cons_self)) (Int.le_max_right _ _)
    · rcases List.mem_cons.mp h with h | h
      · rw [h]; exact Int.le_max_left _ _
      · exact Int.le_trans (ih y (List.mem_cons_of_mem _ h)) (Int.le_max_right _ _)
theorem lo_uniq {x m : Int} {xs : List Int} (hm : m ∈ x :: xs) (h : ∀ y ∈ x :: xs, m ≤ y) : m = lo (x :: xs) := Int.le_antisymm (h _ (lo_mem x xs)) (lo_le x xs m hm)
theorem hi_uniq {x m : Int} {xs : List Int} (hm : m ∈ x :: xs) (h : ∀ y ∈ x :: xs, y ≤ m) : m = hi (x :: xs) := Int.le_antisymm (le_hi x xs m hm) (h _ (hi_mem x xs))
theorem lo_ext {a b : List Int} (h : ∀ y, y ∈ a ↔ y ∈ b) : lo a = lo b := by
  cases a with
  | nil => cases b with
    | nil => rfl
    | cons y ys => exact absurd ((h y).mpr List.mem_cons_self) List.not_mem_nil
  | cons x xs => cases b with
    | nil => exact absurd ((h x).mp List.mem_cons_self) List.not_mem_nil
    | cons y ys => exact lo_uniq ((h _).mp (lo_mem x xs)) fun z hz => lo_le x xs z ((h z).mpr hz)
theorem hi_ext {a b : List Int} (h : ∀ y, y ∈ a ↔ y ∈ b) : hi a = hi b := by
  cases a with
  | nil => cases b with
    | nil => rfl
    | cons y ys => exact absurd ((h y).mpr List.mem_cons_self) List.not_mem_nil
  | cons x xs => cases b with
    | nil => exact absurd ((h x).mp List.mem_cons_self) List.not_mem_nil
    | cons y ys => exact hi_uniq ((h _).mp (hi_mem x xs)) fun z hz => le_hi x xs z ((h z).mpr hz)
def loD : List Int → DV
  | [] => .none
  | x :: xs => .int (lo (x :: xs))
def hiD : List Int → DV
  | [] => .none
  | x :: xs => .int (hi (x :: xs))

/-! ### texts -/
def toS (i : Int) : Str := toString i
theorem toS_len {i : Int} (h : i.natAbs < 10 ^ 60) : (toS i).length ≤ 64 := by
  show (Str.ofString (toString i)).length ≤ 64
  have e := int_text_length_le10 (k := 60) (by decide) h
  rw [ofString_length]
  omega
def middle : List Int → Str
  | [] => "0 numbers"
  | x :: xs => (((toS (((x :: xs).length : Nat) : Int) ++ " numbers from ") ++ toS (lo (x :: xs))) ++ " to ") ++ toS (hi (x :: xs))
def textF (vs : List Vl) : Str := ((((toS (cN vs : Nat) ++ " nothing, ") ++ middle (intsOf vs)) ++ ", ") ++ toS (cS vs : Nat)) ++ " words"
theorem empty_app (x : Str) : Str.empty ++ x = x := by
  show (⟨#[] ++ x.cps⟩ : Str) = x
  cases x with
  | mk c => simp

/-! ### the five facts -/
def fiveD (vs : List Vl) : List DV := [.int (cN vs : Nat), .int ((intsOf vs).length : Nat), .int (cS vs : Nat), loD (intsOf vs), hiD (intsOf vs)]
def fieldsF (vs : List Vl) : List (Str × DV) := [("facts_of", .tup (vs.map Vl.d)), ("nothings", .int (cN vs : Nat)), ("numbers", .int ((intsOf vs).length : Nat)), ("words", .int (cS vs : Nat)), ("least", loD (intsOf vs)), ("greatest", hiD (intsOf vs)), ("text", .str (textF vs))]
theorem five_comm (us vs : List Vl) : fiveD (us ++ vs) = fiveD (vs ++ us) := by
  have hm : ∀ y, y ∈ intsOf us ++ intsOf vs ↔ y ∈ intsOf vs ++ intsOf us := fun y => by simp only [List.mem_append]; exact Or.comm
  have el := lo_ext hm
  have eh := hi_ext hm
  have en : (intsOf us ++ intsOf vs).length = (intsOf vs ++ intsOf us).length := by simp only [List.length_append]; omega
  unfold fiveD
  rw [ints_app, ints_app, cN_app, cN_app, cS_app, cS_app, Nat.add_comm (cN us), Nat.add_comm (cS us), en]
  have e1 : loD (intsOf us ++ intsOf vs) = loD (intsOf vs ++ intsOf us) := by
    generalize intsOf us ++ intsOf vs = a at *
    generalize intsOf vs ++ intsOf us = b at *
    cases a with
    | nil => cases b with
      | nil => rfl
      | cons y ys => cases en
    | cons x xs => cases b with
      | nil => cases en
      | cons y ys => exact congrArg DV.int el
  have e2 : hiD (intsOf us ++ intsOf vs) = hiD (intsOf vs ++ intsOf us) := by
    generalize intsOf us ++ intsOf vs = a at *
    generalize intsOf vs ++ intsOf us = b at *
    cases a with
    | nil => cases b with
      | nil => rfl
      | cons y ys => cases en
    | cons x xs => cases b with
      | nil => cases en
      | cons y ys => exact congrArg DV.int eh
  rw [e1, e2]
theorem text_comm (us vs : List Vl) : textF (us ++ vs) = textF (vs ++ us) := by
  have hm : ∀ y, y ∈ intsOf us ++ intsOf vs ↔ y ∈ intsOf vs ++ intsOf us := fun y => by simp only [List.mem_append]; exact Or.comm
  have el := lo_ext hm
  have eh := hi_ext hm
  have en : (intsOf us ++ intsOf vs).length = (intsOf vs ++ intsOf us).length := by simp only [List.length_append]; omega
  unfold textF
  rw [ints_app, ints_app, cN_app, cN_app, cS_app, cS_app, Nat.add_comm (cN us), Nat.add_comm (cS us)]
  have e1 : middle (intsOf us ++ intsOf vs) = middle (intsOf vs ++ intsOf us) := by
    generalize intsOf us ++ intsOf vs = a at *
    generalize intsOf vs ++ intsOf us = b at *
    cases a with
    | nil => cases b with
      | nil => rfl
      | cons y ys => cases en
    | cons x xs => cases b with
      | nil => cases en
      | cons y ys =>
        show (((toS (((x :: xs).length : Nat) : Int) ++ " numbers from ") ++ toS (lo (x :: xs))) ++ " to ") ++ toS (hi (x :: xs)) = (((toS (((y :: ys).length : Nat) : Int) ++ " numbers from ") ++ toS (lo (y :: ys))) ++ " to ") ++ toS (hi (y :: ys))
        rw [el, eh, en]
  rw [e1]
/-- whether a value may be one of the values -/
def inV (vs : List Vl) : Vl → Bool
  | .non => decide ((0 : Int) < ((cN vs : Nat) : Int))
  | .str _ => decide ((0 : Int) < ((cS vs : Nat) : Int))
  | .int i => decide ((0 : Int) < (((intsOf vs).length : Nat) : Int)) && (decide (lo (intsOf vs) ≤ i) && decide (i ≤ hi (intsOf vs)))

/-! ### readings that only give a value -/
def PEv (w : WE) (ρ : Rho) (μ : Mh) (y : DV) : Prop := ∀ P : DV → Mh → Prop, P y μ → w ρ μ P
def PTv (w : WT) (ρ : Rho) (μ : Mh) (b : Bool) : Prop := ∀ P : Bool → Mh → Prop, P b μ → w ρ μ P
def PAv (w : WA) (ρ : Rho) (μ : Mh) (ys : List DV) : Prop := ∀ P : List DV → Mh → Prop, P ys μ → w ρ μ P
section
variable {ρ : Rho} {μ : Mh} {x y z u : DV} {wa wb wc : WE} {wr : WA} {t : WT} {b : Bool} {i : Nat} {E : DEnds} {rest : WS} {C a : Addr} {f : Str} {fs : List (Str × DV)} {ys : List DV}
theorem pe_var (h : ρ[i]? = some (some y)) : PEv (wVar i) ρ μ y := fun P q => by
  unfold wVar
  simp only [h]
  exact q
theorem pe_c : PEv (wC y) ρ μ y := fun P q => q
theorem pe_bin {w2 : W2} (ha : PEv wa ρ μ x) (hb : PEv wb ρ μ y) (h : ∀ P, P z μ → w2 x y μ P) : PEv (wBin w2 wa wb) ρ μ z := fun P q => ha _ (hb _ (h P q))
theorem pa_nil : PAv wNil ρ μ [] := fun P q => q
theorem pa_cons (ha : PEv wa ρ μ x) (hr : PAv wr ρ μ ys) : PAv (wCons wa wr) ρ μ (x :: ys) := fun P q => ha _ (hr _ q)
theorem pe_b {wf : WB} (ha : PAv wr ρ μ ys) (h : ∀ P, P z μ → wf ys μ P) : PEv (wB wf wr) ρ μ z := fun P q => ha _ (h P q)
theorem pe_call {wf : WF} {n : Nat} (ha : PAv wr ρ μ ys) (hn : ys.length = n) (h : ∀ P, P z μ → wf ys μ P) : PEv (wCall n wf wr) ρ μ z := fun P q => ha _ ⟨hn, h P q⟩
theorem pe_tup (ha : PAv wr ρ μ ys) (hn : ys.length ≤ sizeLine) : PEv (wTup wr) ρ μ (.tup ys) := fun P q => ha _ ⟨hn, q⟩
theorem pe_lst (ha : PAv wr ρ μ ys) (hn : ys.length ≤ sizeLine) : PEv (wLst wr) ρ μ (.lst ys) := fun P q => ha _ ⟨hn, q⟩
theorem pt_test (h : PEv wa ρ μ (.bool b)) : PTv (wTest wa) ρ μ b := fun P q => h _ q
theorem pe_if (h : PTv t ρ μ b) (ha : b = true → PEv wa ρ μ x) (hb : b = false → PEv wb ρ μ x) : PEv (wIf t wa wb) ρ μ x := fun P q => h _ (by
  cases b with
  | true => exact ha rfl P q
  | false => exact hb rfl P q)
theorem pe_and {b c : Bool} (ha : PEv wa ρ μ (.bool b)) (hb : b = true → PEv wb ρ μ (.bool c)) : PEv (wAndV wa wb) ρ μ (.bool (b && c)) := fun P q => ha _ (by
  cases b with
  | true => exact hb rfl P q
  | false => exact q)
theorem pe_fld (h1 : PEv wa ρ μ (.obj a)) (h : μ a = some (.ins C fs)) (l : fs.lookup f = some y) : PEv (wFld C f wa) ρ μ y := fun P q => by
  unfold wFld
  refine h1 _ ?_
  simp only [h, l]
  exact ⟨trivial, q⟩
theorem pt_not (h : PTv t ρ μ b) : PTv (wNotT t) ρ μ (!b) := fun P q => h _ q
theorem pt_or {t2 : WT} {c : Bool} (h : PTv t ρ μ b) (k : b = false → PTv t2 ρ μ c) : PTv (wOrT t t2) ρ μ (b || c) := fun P q => h _ (by
  cases b with
  | true => exact q
  | false => exact k rfl P q)
theorem pe_chain {w2 w2' : W2} {b c : Bool} (ha : PEv wa ρ μ x) (hb : PEv wb ρ μ y) (h1 : ∀ P, P (.bool b) μ → w2 x y μ P) (hc : b = true → PEv wc ρ μ z) (h2 : b = true → ∀ P, P (.bool c) μ → w2' y z μ P) : PEv (wChain w2 w2' wa wb wc) ρ μ (.bool (b && c)) := fun P q => ha _ (hb _ (h1 _ (by
  cases b with
  | true => exact hc rfl _ (h2 rfl P q)
  | false => exact q)))
theorem pe_isi {g : Ty → Bool} {ty : Ty} (h : PEv wa ρ μ x) (ht : tyD x μ = some ty) : PEv (wIsi g wa) ρ μ (.bool (g ty)) := fun P q => by
  unfold wIsi
  refine h _ ?_
  rw [ht]
  exact q
theorem ret_v (h : PEv wa ρ μ y) (k : E.rt y μ) : wRet wa E ρ μ := h _ k
theorem seq_asg (h : PEv wa ρ μ y) (k : rest E (ρ.set i (some y)) μ) : wSeq (wAsg wa (wgName i)) rest E ρ μ := h _ k
theorem put_last (h1 : ρ[i]? = some (some (.obj a))) (h : μ a = some (.ins C fs)) (l : fs.length < 1000) (hw : PEv wa ρ μ y) (k : E.nx ρ (updM μ a (.ins C (putFD f y fs)))) : wPutF C f (wVar i) wa E ρ μ := by
  unfold wPutF
  refine hw _ ?_
  unfold wVar
  simp only [h1, h]
  exact ⟨trivial, l, k⟩
theorem seq_put (h1 : ρ[i]? = some (some (.obj a))) (h : μ a = some (.ins C fs)) (l : fs.length < 1000) (hw : PEv wa ρ μ y) (k : rest E ρ (updM μ a (.ins C (putFD f y fs)))) : wSeq (wPutF C f (wVar i) wa) rest E ρ μ := put_last (E := { E with nx := rest E }) h1 h l hw k
theorem seq_if {su : WS} (h : PTv t ρ μ b) (ka : b = true → su { E with nx := rest E } ρ μ) (kb : b = false → rest E ρ μ) : wSeq (wIfS t su wNext) rest E ρ μ := h _ (by
  cases b with
  | true => exact ka rfl
  | false => exact kb rfl)
theorem pe_fmtI {n : Int} (h : PEv wa ρ μ (.int n)) (l : n.natAbs.log2 < 1920) : PEv (wFmt wa) ρ μ (.str (toS n)) := fun P q => h _ ⟨l, q⟩
theorem pe_fmtS {s : Str} (h : PEv wa ρ μ (.str s)) (l : s.length ≤ sizeLine) : PEv (wFmt wa) ρ μ (.str s) := fun P q => h _ ⟨l, q⟩
def PJv (ws : List WE) (acc : Str) (ρ : Rho) (μ : Mh) (s : Str) : Prop := ∀ P : Str → Mh → Prop, P s μ → wJs ws acc ρ μ P
theorem pj_nil {acc : Str} : PJv [] acc ρ μ acc := fun P q => q
theorem pj_cons {acc s r : Str} {ws : List WE} (h : PEv wa ρ μ (.str s)) (l : (acc ++ s).length ≤ sizeLine) (k : PJv ws (acc ++ s) ρ μ r) : PJv (wa :: ws) acc ρ μ r := fun P q => h _ ⟨l, k P q⟩
theorem pe_fstr {s : Str} {ws : List WE} (h : PJv ws Str.empty ρ μ s) : PEv (wFstr ws) ρ μ (.str s) := fun P q => h _ q
end
theorem log_small {i : Int} (h : i.natAbs < 10 ^ 60) : i.natAbs.log2 < 1920 := by
  by_cases z : i.natAbs = 0
  · rw [z]; decide
  · exact (Nat.log2_lt z).mpr (Nat.lt_of_lt_of_le (Nat.lt_trans h (show 10 ^ 60 < 2 ^ 240 by decide)) (Nat.pow_le_pow_right (by decide) (by decide)))
theorem wMin_v {x : Int} {xs : List Int} (μ : Mh) (P : DV → Mh → Prop) (q : P (.int (lo (x :: xs))) μ) : wMinL [.lst ((x :: xs).map .int)] μ P := ⟨x :: xs, rfl, Nat.succ_pos _, fun m hm h => by rw [lo_uniq hm h]; exact q⟩
theorem wMax_v {x : Int} {xs : List Int} (μ : Mh) (P : DV → Mh → Prop) (q : P (.int (hi (x :: xs))) μ) : wMaxL [.lst ((x :: xs).map .int)] μ P := ⟨x :: xs, rfl, Nat.succ_pos _, fun m hm h => by rw [hi_uniq hm h]; exact q⟩
theorem ne_nilL (ns : List Int) (μ : Mh) (P : DV → Mh → Prop) (q : P (.bool (!ns.isEmpty)) μ) : wNeL (.lst (ns.map .int)) (.lst []) μ P := by
  have hs := shaped_ints ns
  refine ⟨hs, shaped_ints [], ?_⟩
  cases ns with
  | nil => exact q
  | cons x xs => exact q
theorem eq_nilL (ns : List Int) (μ : Mh) (P : DV → Mh → Prop) (q : P (.bool ns.isEmpty) μ) : wEqL (.lst (ns.map .int)) (.lst []) μ P := by
  have hs := shaped_ints ns
  refine ⟨hs, shaped_ints [], ?_⟩
  cases ns with
  | nil => exact q
  | cons x xs => exact q
end K11

set_option Elab.async false
set_option linter.all false
set_option maxRecDepth 100000
set_option maxHeartbeats 1000000
/-! K11q: the program's defs. -/
namespace K11
open PySem L2 Dz

/-- what was there stays -/
def Kept (μ μ' : Mh) : Prop := ∀ b o, μ b = some o → μ' b = some o
theorem Kept.refl {μ : Mh} : Kept μ μ := fun _ _ h => h
theorem Kept.trans {μ μ' μ'' : Mh} (h : Kept μ μ') (h' : Kept μ' μ'') : Kept μ μ'' := fun b o e => h' b o (h b o e)
/-- x holds the facts of vs -/
def IsF (C : Addr) (μ : Mh) (x : DV) (vs : List Vl) : Prop := ∃ p, x = .obj p ∧ μ p = some (.ins C (fieldsF vs)) ∧ (∀ v ∈ vs, v.Ok) ∧ vs.length ≤ 60
theorem IsF.kept {C : Addr} {μ μ' : Mh} {x : DV} {vs : List Vl} (h : IsF C μ x vs) (k : Kept μ μ') : IsF C μ' x vs := let ⟨p, e, m, o, l⟩ := h; ⟨p, e, k _ _ m, o, l⟩

def wfName : WF := fun ds μ Q => ∃ x : Str, ds = [.str x] ∧ x.length ≤ 1000 ∧ ∀ b, Q (.bool b) μ
def wfVal : WF := fun ds μ Q => ∃ v : Vl, ds = [v.d] ∧ v.Ok ∧ match v with
  | .str _ => ∀ b, Q (.bool b) μ
  | _ => Q (.bool true) μ
def wfNum : WF := fun ds μ Q => ∃ v : Vl, ds = [v.d] ∧ v.Ok ∧ Q (.bool v.isI) μ
def wfNt : WF := fun ds μ Q => ∃ ns : List Int, ds = [.lst (ns.map .int)] ∧ (∀ i ∈ ns, -1000000000000 ≤ i ∧ i ≤ 1000000000000) ∧ ns.length ≤ 60 ∧ Q (.str (middle ns)) μ
def wfInit (C : Addr) : WF := fun ds μ Q => ∃ p vs, ds = .obj p :: vs.map Vl.d ∧ (∀ v ∈ vs, v.Ok) ∧ vs.length ≤ 60 ∧ μ p = some (.ins C []) ∧ ∀ μ' : Mh, μ' p = some (.ins C (fieldsF vs)) → (∀ b, b ≠ p → μ' b = μ b) → Q .none μ'
def wfFive (C : Addr) : WF := fun ds μ Q => ∃ x vs, ds = [x] ∧ IsF C μ x vs ∧ Q (.tup (fiveD vs)) μ
def wfIn (C : Addr) : WF := fun ds μ Q => ∃ x vs v, ds = [x, Vl.d v] ∧ IsF C μ x vs ∧ Q (.bool (inV vs v)) μ
def wfEq (C : Addr) : WF := fun ds μ Q => ∃ x y vs us, ds = [x, y] ∧ IsF C μ x vs ∧ IsF C μ y us ∧ fiveD vs = fiveD us ∧ Q (.bool true) μ
def wfAdd (C : Addr) : WF := fun ds μ Q => ∃ x y vs us, ds = [x, y] ∧ IsF C μ x vs ∧ IsF C μ y us ∧ vs.length + us.length ≤ 60 ∧ ∀ z μ', Kept μ μ' → IsF C μ' z (vs ++ us) → Q z μ'

theorem signs_len {x : Str} : (signs x).length = x.length := by
  unfold signs
  rw [List.length_map, Array.length_toList]
  rfl
theorem p_is_name (ds : List DV) (μ : Mh) (Q : DV → Mh → Prop) (hl : ds.length = 1) (h : wfName ds μ Q) :
    w_is_name { nx := fun _ μ' => Q .none μ', rt := Q } (ds.map some ++ List.replicate 1 none) μ := by
  obtain ⟨x, rfl, hx, q⟩ := h
  have hx' : x.length ≤ sizeLine := sl (by omega)
  unfold w_is_name
  refine seq_if (pt_or (pt_not (pt_test (pe_isi (ty := .str) (pe_var rfl) rfl))) fun _ => pt_not (pt_test (pe_chain (b := decide ((1 : Int) ≤ (x.length : Nat))) (c := decide (((x.length : Nat) : Int) ≤ 8)) pe_c (pe_b (pa_cons (pe_var rfl) pa_nil) fun P q => ⟨hx', q⟩) (fun P q => q) (fun _ => pe_c) fun _ P q => q))) (fun _ => ?_) fun _ => ?_
  · exact ret_v pe_c (q false)
  · refine ret_v (y := .bool ((x.cps.toList.map fun c => decide (c ∈ (Str.ofString "abcdefghijklmnopqrstuvwxyz").cps.toList)).all id)) (pe_b (pa_cons (x := .lst ((x.cps.toList.map fun c => decide (c ∈ (Str.ofString "abcdefghijklmnopqrstuvwxyz").cps.toList)).map .bool)) (fun P q => ?_) pa_nil) fun P q => ⟨_, rfl, q⟩) (q _)
    refine comp_pure (fun _ => true) (fun z => match z with | .str ⟨#[c]⟩ => .bool (decide (c ∈ (Str.ofString "abcdefghijklmnopqrstuvwxyz").cps.toList)) | _ => .bool false) (signs x) [] _ (fun z hz acc P ha hP => ?_) (by rw [signs_len]; simpa using hx') ?_
    · unfold signs at hz
      rw [List.mem_map] at hz
      obtain ⟨c, _, rfl⟩ := hz
      exact .inl ⟨c, rfl, ha, hP⟩
    · rw [List.filter_eq_self.mpr fun _ _ => rfl]
      unfold signs
      rw [List.nil_append, List.map_map]
      rw [List.map_map] at q
      exact q
theorem p_is_value (ds : List DV) (μ : Mh) (Q : DV → Mh → Prop) (hl : ds.length = 1) (h : wfVal ds μ Q) :
    w_is_value wfName { nx := fun _ μ' => Q .none μ', rt := Q } (ds.map some ++ List.replicate 0 none) μ := by
  obtain ⟨v, rfl, ok, q⟩ := h
  cases v with
  | non => exact q
  | str s => exact ⟨rfl, s, rfl, ok, q⟩
  | int i =>
    unfold w_is_value
    refine seq_if (b := false) (pt_test fun P q => q) (fun h => by cases h) fun _ => ?_
    refine seq_if (b := false) (pt_or (b := false) (c := false) (pt_test (pe_isi (g := tyBool) (x := .int i) (ty := .int) (pe_var rfl) rfl)) fun _ => pt_not (b := true) (pt_test (pe_isi (g := tyInt) (x := .int i) (ty := .int) (pe_var rfl) rfl))) (fun h => by cases h) fun _ => ?_
    refine ret_v (pe_chain (b := decide (-1000000000000 ≤ i)) (c := decide (i ≤ 1000000000000)) (fun P q => q) (pe_var rfl) (fun P q => q) (fun _ => pe_c) fun _ P q => q) ?_
    rw [decide_eq_true ok.1, decide_eq_true ok.2]
    exact q
theorem p_is_number (ds : List DV) (μ : Mh) (Q : DV → Mh → Prop) (hl : ds.length = 1) (h : wfNum ds μ Q) :
    w_is_number wfVal { nx := fun _ μ' => Q .none μ', rt := Q } (ds.map some ++ List.replicate 0 none) μ := by
  obtain ⟨v, rfl, ok, q⟩ := h
  cases v with
  | non => exact ⟨rfl, .non, rfl, ok, q⟩
  | int i => exact ⟨rfl, .int i, rfl, ok, q⟩
  | str s => exact ⟨rfl, .str s, rfl, ok, fun b => by cases b <;> exact q⟩
theorem nat_small {n : Nat} (h : n ≤ 1000) : ((n : Int)).natAbs < 10 ^ 60 := by
  have : ((n : Int)).natAbs = n := Int.natAbs_natCast n
  rw [this]
  exact Nat.lt_of_le_of_lt h (by decide)
theorem int_small {i : Int} (h : -1000000000000 ≤ i ∧ i ≤ 1000000000000) : i.natAbs < 10 ^ 60 := by
  have : i.natAbs ≤ 1000000000000 := by omega
  exact Nat.lt_of_le_of_lt this (by decide)
theorem str_len {x y : Str} {a b c : Nat} (hx : x.length ≤ a) (hy : y.length ≤ b) (h : a + b ≤ c) : (x ++ y).length ≤ c := by
  rw [Str.length_append]
  omega
theorem lit_len {s : String} {n : Nat} (h : s.length ≤ n) : (Str.ofString s).length ≤ n := by rw [ofString_length]; exact h
theorem mid_len {ns : List Int} (h : ∀ i ∈ ns, -1000000000000 ≤ i ∧ i ≤ 1000000000000) (hl : ns.length ≤ 60) : (middle ns).length ≤ 300 := by
  cases ns with
  | nil => exact lit_len (by decide)
  | cons x xs =>
    exact str_len (a := 230) (b := 64) (str_len (a := 164) (b := 10) (str_len (a := 100) (b := 64) (str_len (a := 64) (b := 20) (toS_len (nat_small (by omega))) (lit_len (by decide)) (by decide)) (toS_len (int_small (h _ (lo_mem x xs)))) (by decide)) (lit_len (by decide)) (by decide)) (toS_len (int_small (h _ (hi_mem x xs)))) (by decide)
theorem p_numbers_text (ds : List DV) (μ : Mh) (Q : DV → Mh → Prop) (hl : ds.length = 1) (h : wfNt ds μ Q) :
    w_numbers_text { nx := fun _ μ' => Q .none μ', rt := Q } (ds.map some ++ List.replicate 0 none) μ := by
  obtain ⟨ns, rfl, ok, hl, q⟩ := h
  unfold w_numbers_text
  refine seq_if (pt_test (pe_bin (pe_var rfl) (pe_lst pa_nil (Nat.zero_le _)) (eq_nilL ns μ))) (fun h => ?_) fun h => ?_
  · cases ns with
    | nil => exact ret_v pe_c q
    | cons x xs => cases h
  · cases ns with
    | nil => cases h
    | cons x xs =>
      have b1 := toS_len (nat_small (n := (x :: xs).length) (by omega))
      have b2 := toS_len (int_small (ok _ (lo_mem x xs)))
      have b3 := toS_len (int_small (ok _ (hi_mem x xs)))
      have z0 : (Str.empty ++ toS (((x :: xs).length : Nat) : Int)) = toS (((x :: xs).length : Nat) : Int) := empty_app _
      refine ret_v (y := .str (middle (x :: xs))) (pe_fstr (pj_cons (pe_fmtI (n := (((x :: xs).length : Nat) : Int)) (pe_b (wf := wLen) (ys := [.lst ((x :: xs).map .int)]) (pa_cons (pe_var rfl) pa_nil) fun P q => by rw [← List.length_map (f := DV.int)] at q; exact q) (log_small (nat_small (by omega)))) ?_ ?_)) q
      · rw [z0]; exact sl (by omega)
      rw [z0]
      have c1 := str_len b1 (lit_len (s := " numbers from ") (n := 20) (by decide)) (Nat.le_refl _)
      refine pj_cons pe_c (sl (Nat.le_trans c1 (by decide))) ?_
      have c2 := str_len c1 b2 (Nat.le_refl _)
      refine pj_cons (pe_fmtI (pe_b (pa_cons (pe_var rfl) pa_nil) (wMin_v μ)) (log_small (int_small (ok _ (lo_mem x xs))))) (sl (Nat.le_trans c2 (by decide))) ?_
      have c3 := str_len c2 (lit_len (s := " to ") (n := 10) (by decide)) (Nat.le_refl _)
      refine pj_cons pe_c (sl (Nat.le_trans c3 (by decide))) ?_
      have c4 := str_len c3 b3 (Nat.le_refl _)
      exact pj_cons (pe_fmtI (pe_b (pa_cons (pe_var rfl) pa_nil) (wMax_v μ)) (log_small (int_small (ok _ (hi_mem x xs))))) (sl (Nat.le_trans c4 (by decide))) pj_nil
end K11

set_option Elab.async false
set_option linter.all false
set_option maxRecDepth 100000
set_option maxHeartbeats 1000000
/-! K11r: the class Facts. -/
namespace K11
open PySem L2 Dz

section
variable {C : Addr}
theorem updM_ne' {μ : Mh} {a b : Addr} {o : MO} (h : b ≠ a) : updM μ a o b = μ b := if_neg h
/-- a comprehension over values that keeps some as they are -/
theorem lc_keep {t : WT} {ρ : Rho} {μ : Mh} {i : Nat} {ws : WI} (vs : List Vl) (bb : DV → Bool) (hl : vs.length ≤ 1000) (hw : ∀ P : List DV → Mh → Prop, P (vs.map Vl.d) μ → ws ρ μ P) (hi : i < ρ.length)
    (ht : ∀ v ∈ vs, PTv t ((wipeD ρ [i]).set i (some (Vl.d v))) μ (bb (Vl.d v))) : PEv (wLc ws (wgName i) t (wVar i) [i]) ρ μ (.lst (((vs.map Vl.d).filter bb).map id)) := fun P q => by
  refine hw _ ?_
  refine comp_pure bb id (vs.map Vl.d) [] _ (fun x hx acc P ha hP => ?_) (by rw [List.length_map]; exact sl (by simpa using Nat.le_trans hl (by decide))) (by rw [List.nil_append]; exact q)
  obtain ⟨v, hv, rfl⟩ := List.mem_map.mp hx
  refine ht v hv _ ?_
  cases hb : bb (Vl.d v) with
  | true =>
    rw [hb, if_pos rfl] at hP
    refine pe_var ?_ _ ⟨ha, hP⟩
    rw [List.getElem?_set_self]
    · rfl
    · show i < ((wipeD ρ []).set i none).length
      rw [List.length_set]
      exact hi
  | false =>
    rw [hb, if_neg Bool.false_ne_true] at hP
    exact hP
theorem flt_len (vs : List Vl) (bb : DV → Bool) : (((vs.map Vl.d).filter bb).map id).length ≤ vs.length := by
  rw [List.map_id]
  exact Nat.le_trans (List.length_filter_le _ _) (by rw [List.length_map]; exact Nat.le_refl _)
theorem ints_len (vs : List Vl) : (intsOf vs).length ≤ vs.length := by have := cnt vs; omega
theorem p_init (ds rs : List DV) (μ : Mh) (Q : DV → Mh → Prop) (hl : ds.length = 1) (h : wfInit C (ds ++ rs) μ Q) :
    w_Facts_init C wfNum wfNt { nx := fun _ μ' => Q .none μ', rt := Q } ((ds ++ [DV.tup rs]).map some ++ List.replicate 2 none) μ := by
  obtain ⟨p, vs, e, ok, hv, hp, q⟩ := h
  match ds, hl with
  | [x], _ =>
  injection e with e1 e2
  subst e1
  have e2 : rs = vs.map Vl.d := e2
  subst e2
  have hil := ints_len vs
  have hcn := cnt vs
  have oki := ints_in ok
  have hlen : ∀ {ρ : Rho} {μ : Mh} {w : WE} {ds : List DV}, PEv w ρ μ (.lst ds) → PEv (wB wLen (wCons w wNil)) ρ μ (.int (ds.length : Nat)) := fun h => pe_b (pa_cons h pa_nil) fun P q => q
  unfold w_Facts_init
  refine seq_asg (y := .lst ((intsOf vs).map .int)) ?_ ?_
  · rw [← flt_int]
    refine lc_keep vs isIB (by omega) (fun P q => q) (Nat.le_of_ble_eq_true rfl) fun v hv => pt_test (pe_call (pa_cons (pe_var rfl) pa_nil) rfl fun P q => ⟨v, rfl, ok v hv, ?_⟩)
    cases v <;> exact q
  refine seq_put rfl hp (by decide) (pe_var rfl) ?_
  refine seq_put (y := .int (cN vs : Nat)) rfl updM_same (Nat.le_of_ble_eq_true rfl) ?_ ?_
  · rw [← flt_non]
    refine hlen (lc_keep vs isNB (by omega) (fun P q => q) (Nat.le_of_ble_eq_true rfl) fun v hv => pt_test ?_)
    exact pe_bin (pe_var rfl) pe_c fun P q => by cases v <;> exact q
  refine seq_put (y := .int ((intsOf vs).length : Nat)) rfl updM_same (Nat.le_of_ble_eq_true rfl) ?_ ?_
  · have h := hlen (ρ := [some (.obj p), some (.tup (vs.map Vl.d)), some (.lst ((intsOf vs).map .int)), none]) (μ := updM (updM μ p (.ins C (putFD "facts_of" (.tup (vs.map Vl.d)) []))) p (.ins C (putFD "nothings" (.int (cN vs : Nat)) (putFD "facts_of" (.tup (vs.map Vl.d)) [])))) (w := wVar 2) (pe_var rfl)
    rw [List.length_map] at h
    exact h
  refine seq_put (y := .int (cS vs : Nat)) rfl updM_same (Nat.le_of_ble_eq_true rfl) ?_ ?_
  · have e : ((cS vs : Nat) : Int) = (((vs.map Vl.d).length : Nat) : Int) - ((cN vs : Nat) : Int) - (((intsOf vs).length : Nat) : Int) := by rw [List.length_map]; omega
    rw [e]
    exact pe_bin (pe_bin (x := .int (((vs.map Vl.d).length : Nat) : Int)) (y := .int (cN vs : Nat)) (pe_b (pa_cons (pe_var rfl) pa_nil) fun P q => q) (pe_fld (pe_var rfl) updM_same rfl) fun P q => q) (pe_fld (pe_var rfl) updM_same rfl) fun P q => q
  refine seq_put (y := loD (intsOf vs)) rfl updM_same (Nat.le_of_ble_eq_true rfl) ?_ ?_
  · refine pe_if (b := !(intsOf vs).isEmpty) (pt_test (pe_bin (pe_var rfl) (pe_lst pa_nil (Nat.zero_le _)) (ne_nilL (intsOf vs) _))) (fun h => ?_) fun h => ?_
    · cases hz : intsOf vs with
      | nil => rw [hz] at h; cases h
      | cons x xs => exact pe_b (pa_cons (x := .lst ((x :: xs).map .int)) (pe_var rfl) pa_nil) (wMin_v _)
    · cases hz : intsOf vs with
      | nil => exact pe_c
      | cons x xs => rw [hz] at h; cases h
  refine seq_put (y := hiD (intsOf vs)) rfl updM_same (Nat.le_of_ble_eq_true rfl) ?_ ?_
  · refine pe_if (b := !(intsOf vs).isEmpty) (pt_test (pe_bin (pe_var rfl) (pe_lst pa_nil (Nat.zero_le _)) (ne_nilL (intsOf vs) _))) (fun h => ?_) fun h => ?_
    · cases hz : intsOf vs with
      | nil => rw [hz] at h; cases h
      | cons x xs => exact pe_b (pa_cons (x := .lst ((x :: xs).map .int)) (pe_var rfl) pa_nil) (wMax_v _)
    · cases hz : intsOf vs with
      | nil => exact pe_c
      | cons x xs => rw [hz] at h; cases h
  refine put_last (y := .str (textF vs)) rfl updM_same (Nat.le_of_ble_eq_true rfl) ?_ ?_
  · have b1 := toS_len (nat_small (n := cN vs) (by omega))
    have b2 := toS_len (nat_small (n := cS vs) (by omega))
    have bm := mid_len oki (by omega)
    have z0 : (Str.empty ++ toS (cN vs : Nat)) = toS (cN vs : Nat) := empty_app _
    refine pe_fstr (pj_cons (pe_fmtI (n := (cN vs : Nat)) (pe_fld (pe_var rfl) updM_same rfl) (log_small (nat_small (by omega)))) ?_ ?_)
    · rw [z0]; exact sl (by omega)
    rw [z0]
    have c1 := str_len b1 (lit_len (s := " nothing, ") (n := 20) (by decide)) (Nat.le_refl _)
    refine pj_cons pe_c (sl (Nat.le_trans c1 (by decide))) ?_
    have c2 := str_len c1 bm (Nat.le_refl _)
    refine pj_cons (pe_fmtS (pe_call (pa_cons (pe_var rfl) pa_nil) rfl fun P q => ⟨intsOf vs, rfl, oki, by omega, q⟩) (sl (by omega))) (sl (Nat.le_trans c2 (by decide))) ?_
    have c3 := str_len c2 (lit_len (s := ", ") (n := 10) (by decide)) (Nat.le_refl _)
    refine pj_cons pe_c (sl (Nat.le_trans c3 (by decide))) ?_
    have c4 := str_len c3 b2 (Nat.le_refl _)
    refine pj_cons (pe_fmtI (n := (cS vs : Nat)) (pe_fld (pe_var rfl) updM_same rfl) (log_small (nat_small (by omega)))) (sl (Nat.le_trans c4 (by decide))) ?_
    have c5 := str_len c4 (lit_len (s := " words") (n := 10) (by decide)) (Nat.le_refl _)
    exact pj_cons pe_c (sl (Nat.le_trans c5 (by decide))) pj_nil
  refine q _ updM_same fun b hb => ?_
  rw [updM_ne' hb, updM_ne' hb, updM_ne' hb, updM_ne' hb, updM_ne' hb, updM_ne' hb, updM_ne' hb]
theorem init_min (ds : List DV) (μ : Mh) (Q : DV → Mh → Prop) (h : wfInit C ds μ Q) : 1 ≤ ds.length ∧ ds.length ≤ 1000 := by
  obtain ⟨p, vs, rfl, _, hl, _⟩ := h
  rw [List.length_cons, List.length_map]
  omega
/-- Facts(..) -/
theorem make_v {wa : WA} {ρ : Rho} {μ : Mh} {P : DV → Mh → Prop} {vs : List Vl} (ha : PAv wa ρ μ (vs.map Vl.d)) (ok : ∀ v ∈ vs, v.Ok) (hl : vs.length ≤ 60) (k : ∀ z μ', Kept μ μ' → IsF C μ' z vs → P z μ') : wMakeS C (wfInit C) wa ρ μ P :=
  ha _ fun p hp => ⟨p, vs, rfl, ok, hl, updM_same, fun μ' h1 h2 => ⟨rfl, k _ μ' (fun b o e => by
    have hb : b ≠ p := fun z => by rw [z, hp] at e; cases e
    rw [h2 b hb, updM_ne' hb]
    exact e) ⟨p, rfl, h1, ok, hl⟩⟩⟩
theorem shaped_five (vs : List Vl) : shapedD (.tup (fiveD vs)) = true := by
  unfold fiveD
  cases intsOf vs <;> rfl
theorem p_five_of (ds : List DV) (μ : Mh) (Q : DV → Mh → Prop) (hl : ds.length = 1) (h : wfFive C ds μ Q) :
    w_five_of C { nx := fun _ μ' => Q .none μ', rt := Q } (ds.map some ++ List.replicate 0 none) μ := by
  obtain ⟨x, vs, rfl, ⟨p, rfl, hp, _, _⟩, q⟩ := h
  exact ret_v (pe_tup (pa_cons (pe_fld (pe_var rfl) hp rfl) (pa_cons (pe_fld (pe_var rfl) hp rfl) (pa_cons (pe_fld (pe_var rfl) hp rfl) (pa_cons (pe_fld (pe_var rfl) hp rfl) (pa_cons (pe_fld (pe_var rfl) hp rfl) pa_nil))))) (sl (show (fiveD vs).length ≤ 1000000 from (by decide : 5 ≤ 1000000)))) q
theorem p_add (ds : List DV) (μ : Mh) (Q : DV → Mh → Prop) (hl : ds.length = 2) (h : wfAdd C ds μ Q) :
    w_Facts_add C (wfInit C) { nx := fun _ μ' => Q .none μ', rt := Q } (ds.map some ++ List.replicate 1 none) μ := by
  obtain ⟨x, y, vs, us, rfl, ⟨p, rfl, hp, ok1, l1⟩, ⟨r, rfl, hr, ok2, l2⟩, hl, q⟩ := h
  unfold w_Facts_add
  refine seq_asg (y := .tup ((vs ++ us).map Vl.d)) ?_ ?_
  · rw [List.map_append]
    refine pe_bin (pe_fld (pe_var rfl) hp rfl) (pe_fld (pe_var rfl) hr rfl) fun P q => ⟨sl ?_, q⟩
    rw [List.length_map, List.length_map]
    omega
  · refine make_v (vs := vs ++ us) (fun P q => ?_) (fun v hv => (List.mem_append.mp hv).elim (ok1 v) (ok2 v)) (by rw [List.length_append]; exact hl) q
    exact q
theorem insAt_o {μ : Mh} {x : DV} {vs : List Vl} {P : Prop} (h : IsF C μ x vs) (p : P) : insAt C μ x P := by
  obtain ⟨a, rfl, hp, _⟩ := h
  unfold insAt
  simp only [hp]
  exact ⟨trivial, p⟩
theorem p_eq (ds : List DV) (μ : Mh) (Q : DV → Mh → Prop) (hl : ds.length = 2) (h : wfEq C ds μ Q) :
    w_Facts_eq C (wfFive C) { nx := fun _ μ' => Q .none μ', rt := Q } (ds.map some ++ List.replicate 0 none) μ := by
  obtain ⟨x, y, vs, us, rfl, hx, hy, he, q⟩ := h
  refine ret_v (pe_and (b := true) (c := true) (fun P q => insAt_o hy q) fun _ => pe_bin (pe_call (pa_cons (pe_var rfl) pa_nil) rfl fun P q => ⟨x, vs, rfl, hx, q⟩) (pe_call (pa_cons (pe_var rfl) pa_nil) rfl fun P q => ⟨y, us, rfl, hy, q⟩) fun P q => ⟨shaped_five vs, shaped_five us, ?_⟩) q
  rw [← he, deep_refl (shaped_five vs)]
  exact q
theorem p_contains (ds : List DV) (μ : Mh) (Q : DV → Mh → Prop) (hl : ds.length = 2) (h : wfIn C ds μ Q) :
    w_Facts_contains C { nx := fun _ μ' => Q .none μ', rt := Q } (ds.map some ++ List.replicate 0 none) μ := by
  obtain ⟨x, vs, v, rfl, ⟨p, rfl, hp, _, _⟩, q⟩ := h
  unfold w_Facts_contains
  cases v with
  | non => exact seq_if (b := true) (pt_test fun P q => q) (fun _ => ret_v (pe_bin (pe_fld (pe_var rfl) hp rfl) pe_c fun P q => q) q) fun h => by cases h
  | str s =>
    refine seq_if (b := false) (pt_test fun P q => q) (fun h => by cases h) fun _ => ?_
    exact seq_if (b := true) (pt_test (pe_isi (g := tyStr) (x := .str s) (ty := .str) (pe_var rfl) rfl)) (fun _ => ret_v (pe_bin (pe_fld (pe_var rfl) hp rfl) pe_c fun P q => q) q) fun h => by cases h
  | int i =>
    refine seq_if (b := false) (pt_test fun P q => q) (fun h => by cases h) fun _ => ?_
    refine seq_if (b := false) (pt_test (pe_isi (g := tyStr) (x := .int i) (ty := .int) (pe_var rfl) rfl)) (fun h => by cases h) fun _ => ?_
    refine ret_v (pe_and (b := decide ((0 : Int) < (((intsOf vs).length : Nat) : Int))) (c := decide (lo (intsOf vs) ≤ i) && decide (i ≤ hi (intsOf vs))) (pe_bin (pe_fld (pe_var rfl) hp rfl) pe_c fun P q => q) fun h => ?_) q
    cases hz : intsOf vs with
    | nil => rw [hz] at h; cases h
    | cons z zs =>
      exact pe_chain (x := .int (lo (z :: zs))) (z := .int (hi (z :: zs))) (pe_fld (pe_var rfl) hp (show some (loD (intsOf vs)) = _ by rw [hz]; rfl)) (pe_var rfl) (fun P q => q) (fun _ => pe_fld (pe_var rfl) hp (show some (hiD (intsOf vs)) = _ by rw [hz]; rfl)) fun _ P q => q
end
end K11

set_option Elab.async false
set_option linter.all false
set_option maxRecDepth 100000
set_option maxHeartbeats 1000000
/-! K11s: the law's own look. -/
namespace K11
open PySem L2 Dz

/-- all but the deck stays -/
def KpD (a c : Addr) (μ μ' : Mh) : Prop := ∀ b o, b ≠ a → b ≠ c → μ b = some o → μ' b = some o
theorem KpD.refl {a c : Addr} {μ : Mh} : KpD a c μ μ := fun _ _ _ _ h => h
theorem KpD.trans {a c : Addr} {μ μ' μ'' : Mh} (h : KpD a c μ μ') (h' : KpD a c μ' μ'') : KpD a c μ μ'' := fun b o x y e => h' b o x y (h b o x y e)
theorem Kept.d {a c : Addr} {μ μ' : Mh} (h : Kept μ μ') : KpD a c μ μ' := fun b o _ _ e => h b o e
theorem KpD.only {a c : Addr} {μ μ' : Mh} (h : OnlyDeck μ μ' a c) : KpD a c μ μ' := fun b o x y e => (h b x y).trans e
abbrev Dk (μ : Mh) (a c : Addr) (m : Nat) : Prop := HasDeck "mixed" μ a c m
theorem IsF.kp {C : Addr} {μ μ' : Mh} {x : DV} {vs : List Vl} {a c : Addr} {m : Nat} (h : IsF C μ x vs) (d : Dk μ a c m) (k : KpD a c μ μ') : IsF C μ' x vs := by
  obtain ⟨p, e, hp, o, l⟩ := h
  obtain ⟨t, n, cells, ha, hc, _⟩ := d.ex
  refine ⟨p, e, k p _ (fun z => ?_) (fun z => ?_) hp, o, l⟩
  · rw [z, ha] at hp; cases hp
  · rw [z, hc] at hp; cases hp
theorem Dk.kept {μ μ' : Mh} {a c : Addr} {m : Nat} (d : Dk μ a c m) (k : Kept μ μ') : Dk μ' a c m := by
  obtain ⟨⟨o1, h1⟩, o2, h2⟩ := d.isSome
  exact d.keep ((k a o1 h1).trans h1.symm) ((k c o2 h2).trans h2.symm)

def wfDue : WF := fun ds μ Q => ∃ vs : List Vl, ds = [.lst (vs.map Vl.d)] ∧ vs.length ≤ 60 ∧ Q (.tup (fiveD vs)) μ
def wfText : WF := fun ds μ Q => ∃ vs : List Vl, ds = [.tup (fiveD vs)] ∧ (∀ v ∈ vs, v.Ok) ∧ vs.length ≤ 60 ∧ Q (.str (textF vs)) μ
def wfTold (C : Addr) : WF := fun ds μ Q => ∃ x vs, ds = [x] ∧ IsF C μ x vs ∧ Q (.str (shownD (.tup (fiveD vs)))) μ
def wfIsIn : WF := fun ds μ Q => ∃ vs v, ds = [.tup (fiveD vs), Vl.d v] ∧ Q (.bool (inV vs v)) μ

section
variable {ρ : Rho} {μ : Mh} {x y z u : DV} {wa wb wc : WE} {wr : WA} {t : WT} {b : Bool} {i : Nat} {E : DEnds} {rest : WS} {C a : Addr}
theorem pe_ixT {ds : List DV} {k : Int} (h : PEv wa ρ μ (.tup ds)) (hi : PEv wb ρ μ (.int k)) (e : atI ds k = some y) : PEv (wBin wIx wa wb) ρ μ y := fun P q => h _ (hi _ (by
  show atW (atI ds k) _
  rw [e]
  exact q))
theorem pe_cat {s r : Str} (h : PEv wa ρ μ (.str s)) (k : PEv wb ρ μ (.str r)) (l : s.length + r.length ≤ sizeLine) : PEv (wBin wAdd wa wb) ρ μ (.str (s ++ r)) := fun P q => h _ (k _ ⟨l, q⟩)
theorem pe_strI {n : Int} (h : PEv wa ρ μ (.int n)) (l : n.natAbs.log2 < 1920) : PEv (wB wStrI (wCons wa wNil)) ρ μ (.str (toS n)) := fun P q => h _ ⟨l, q⟩
theorem asg_last (h : PEv wa ρ μ y) (k : E.nx (ρ.set i (some y)) μ) : wAsg wa (wgName i) E ρ μ := h _ k
theorem pe_len {ds : List DV} (h : PEv wa ρ μ (.lst ds)) : PEv (wB wLen (wCons wa wNil)) ρ μ (.int (ds.length : Nat)) := fun P q => h _ q
theorem pt_isI {v : Vl} (h : PEv wa ρ μ (Vl.d v)) : PTv (wTest (wIsi tyInt wa)) ρ μ (isIB (Vl.d v)) := by
  cases v with
  | non => exact pt_test (pe_isi (g := tyInt) (ty := .none) h rfl)
  | int i => exact pt_test (pe_isi (g := tyInt) (ty := .int) h rfl)
  | str s => exact pt_test (pe_isi (g := tyInt) (ty := .str) h rfl)
theorem pt_isS {v : Vl} (h : PEv wa ρ μ (Vl.d v)) : PTv (wTest (wIsi tyStr wa)) ρ μ (isSB (Vl.d v)) := by
  cases v with
  | non => exact pt_test (pe_isi (g := tyStr) (ty := .none) h rfl)
  | int i => exact pt_test (pe_isi (g := tyStr) (ty := .int) h rfl)
  | str s => exact pt_test (pe_isi (g := tyStr) (ty := .str) h rfl)
theorem gt_v {i j : Int} {μ : Mh} (P : DV → Mh → Prop) (q : P (.bool (decide (j < i))) μ) : wGt (.int i) (.int j) μ P := q
end
theorem p_law_due (ds : List DV) (μ : Mh) (Q : DV → Mh → Prop) (hl : ds.length = 1) (h : wfDue ds μ Q) :
    w_law_due { nx := fun _ μ' => Q .none μ', rt := Q } (ds.map some ++ List.replicate 4 none) μ := by
  obtain ⟨vs, rfl, hv, q⟩ := h
  have hcn := cnt vs
  unfold w_law_due
  refine seq_asg (y := .lst ((intsOf vs).map .int)) ?_ ?_
  · rw [← flt_int]
    exact lc_keep vs isIB (by omega) (fun P q => q) (Nat.le_of_ble_eq_true rfl) fun v hv => pt_isI (pe_var rfl)
  refine seq_asg (y := .lst (((vs.map Vl.d).filter isSB).map id)) ?_ ?_
  · exact lc_keep vs isSB (by omega) (fun P q => q) (Nat.le_of_ble_eq_true rfl) fun v hv => pt_isS (pe_var rfl)
  refine seq_asg (y := .tup [loD (intsOf vs), hiD (intsOf vs)]) ?_ ?_
  · refine pe_if (b := !(intsOf vs).isEmpty) (pt_test (pe_bin (pe_var rfl) (pe_lst pa_nil (Nat.zero_le _)) (ne_nilL (intsOf vs) _))) (fun h => ?_) fun h => ?_
    · cases hz : intsOf vs with
      | nil => rw [hz] at h; cases h
      | cons x xs => exact pe_tup (pa_cons (pe_b (pa_cons (x := .lst ((x :: xs).map .int)) (pe_var rfl) pa_nil) (wMin_v _)) (pa_cons (pe_b (pa_cons (x := .lst ((x :: xs).map .int)) (pe_var rfl) pa_nil) (wMax_v _)) pa_nil)) (sl (Nat.le_of_ble_eq_true rfl))
    · cases hz : intsOf vs with
      | nil => exact pe_tup (pa_cons pe_c (pa_cons pe_c pa_nil)) (sl (Nat.le_of_ble_eq_true rfl))
      | cons x xs => rw [hz] at h; cases h
  have e1 : ((cN vs : Nat) : Int) = (((vs.map Vl.d).length : Nat) : Int) - ((((intsOf vs).map DV.int).length : Nat) : Int) - (((((vs.map Vl.d).filter isSB).map id).length : Nat) : Int) := by
    rw [flt_str, List.length_map, List.length_map]
    omega
  have e2 : (((intsOf vs).length : Nat) : Int) = ((((intsOf vs).map DV.int).length : Nat) : Int) := by rw [List.length_map]
  have e3 : ((cS vs : Nat) : Int) = (((((vs.map Vl.d).filter isSB).map id).length : Nat) : Int) := by rw [flt_str]
  refine ret_v (y := .tup (fiveD vs)) (pe_bin (x := .tup [.int (cN vs : Nat), .int ((intsOf vs).length : Nat), .int (cS vs : Nat)]) (pe_tup ?_ (sl (Nat.le_of_ble_eq_true rfl))) (pe_var rfl) fun P q => ⟨sl (Nat.le_of_ble_eq_true rfl), q⟩) q
  rw [e1, e2, e3]
  exact pa_cons (pe_bin (pe_bin (pe_len (pe_var rfl)) (pe_len (pe_var rfl)) fun P q => q) (pe_len (pe_var rfl)) fun P q => q) (pa_cons (pe_len (pe_var rfl)) (pa_cons (pe_len (pe_var rfl)) pa_nil))
theorem p_law_text (ds : List DV) (μ : Mh) (Q : DV → Mh → Prop) (hl : ds.length = 1) (h : wfText ds μ Q) :
    w_law_text { nx := fun _ μ' => Q .none μ', rt := Q } (ds.map some ++ List.replicate 1 none) μ := by
  obtain ⟨vs, rfl, ok, hv, q⟩ := h
  have hcn := cnt vs
  have oki := ints_in ok
  have b1 := toS_len (nat_small (n := cN vs) (by omega))
  have b2 := toS_len (nat_small (n := cS vs) (by omega))
  have bm := mid_len oki (by omega)
  have fin : wRet (wBin wAdd (wBin wAdd (wBin wAdd (wBin wAdd (wBin wAdd (wB wStrI (wCons (wBin wIx (wVar 0) (wC (.int 0))) wNil)) (wC (.str " nothing, "))) (wVar 1)) (wC (.str ", "))) (wB wStrI (wCons (wBin wIx (wVar 0) (wC (.int 2))) wNil))) (wC (.str " words"))) { nx := fun _ μ' => Q .none μ', rt := Q } [some (.tup (fiveD vs)), some (.str (middle (intsOf vs)))] μ := by
    have l1 := lit_len (s := " nothing, ") (n := 20) (by decide)
    have l2 := lit_len (s := ", ") (n := 10) (by decide)
    have l3 := lit_len (s := " words") (n := 10) (by decide)
    have c1 := str_len b1 l1 (Nat.le_refl _)
    have c2 := str_len c1 bm (Nat.le_refl _)
    have c3 := str_len c2 l2 (Nat.le_refl _)
    have c4 := str_len c3 b2 (Nat.le_refl _)
    exact ret_v (pe_cat (pe_cat (pe_cat (pe_cat (pe_cat (pe_strI (pe_ixT (pe_var rfl) pe_c rfl) (log_small (nat_small (by omega)))) pe_c (sl (by omega))) (pe_var rfl) (sl (by omega))) pe_c (sl (by omega))) (pe_strI (pe_ixT (pe_var rfl) pe_c rfl) (log_small (nat_small (by omega)))) (sl (by omega))) pe_c (sl (by omega))) q
  unfold w_law_text
  refine seq_asg pe_c ?_
  refine seq_if (pt_test (pe_bin (x := .int ((intsOf vs).length : Nat)) (pe_ixT (pe_var rfl) pe_c rfl) pe_c fun P q => q)) (fun h => ?_) fun h => ?_
  · cases hz : intsOf vs with
    | nil => rw [hz] at h; cases h
    | cons z zs =>
      rw [hz] at fin oki
      have hzl : (z :: zs).length ≤ 60 := by rw [← hz]; omega
      have d1 := toS_len (nat_small (n := (z :: zs).length) (by omega))
      have d2 := toS_len (int_small (oki _ (lo_mem z zs)))
      have d3 := toS_len (int_small (oki _ (hi_mem z zs)))
      have l1 := lit_len (s := " numbers from ") (n := 20) (by decide)
      have l2 := lit_len (s := " to ") (n := 10) (by decide)
      have c1 := str_len d1 l1 (Nat.le_refl _)
      have c2 := str_len c1 d2 (Nat.le_refl _)
      have c3 := str_len c2 l2 (Nat.le_refl _)
      refine asg_last (y := .str (middle (z :: zs))) ?_ fin
      exact pe_cat (pe_cat (pe_cat (pe_cat (pe_strI (pe_ixT (pe_var rfl) pe_c (show atI (fiveD vs) 1 = _ by unfold fiveD; rw [hz]; rfl)) (log_small (nat_small (by omega)))) pe_c (sl (by omega))) (pe_strI (pe_ixT (pe_var rfl) pe_c (show atI (fiveD vs) 3 = _ by unfold fiveD; rw [hz]; rfl)) (log_small (int_small (oki _ (lo_mem z zs))))) (sl (by omega))) pe_c (sl (by omega))) (pe_strI (pe_ixT (pe_var rfl) pe_c (show atI (fiveD vs) 4 = _ by unfold fiveD; rw [hz]; rfl)) (log_small (int_small (oki _ (hi_mem z zs))))) (sl (by omega))
  · cases hz : intsOf vs with
    | nil => rw [hz] at fin; exact fin
    | cons z zs => rw [hz, List.length_cons] at h; exact absurd (of_decide_eq_false h) (by omega)
theorem siz_int {i : Int} (h : -1000000000000 ≤ i ∧ i ≤ 1000000000000) : Siz 0 0 (.int i) := Siz.int (int_small h)
theorem shows_five {vs : List Vl} (ok : ∀ v ∈ vs, v.Ok) (hv : vs.length ≤ 60) : Shows (.tup (fiveD vs)) := by
  have hcn := cnt vs
  have oki := ints_in ok
  refine (Siz.tup (Sizs.all (N := 0) (p := 0) fun d hd => ?_)).shows (show 5 * (0 + 1) ≤ 2 ^ 17 by decide) (by decide)
  unfold fiveD at hd
  simp only [List.mem_cons, List.not_mem_nil, or_false] at hd
  rcases hd with rfl | rfl | rfl | rfl | rfl
  · exact siz_int (by omega)
  · exact siz_int (by omega)
  · exact siz_int (by omega)
  · cases hz : intsOf vs with
    | nil => exact Siz.none
    | cons z zs => exact siz_int (oki _ (hz ▸ lo_mem z zs))
  · cases hz : intsOf vs with
    | nil => exact Siz.none
    | cons z zs => exact siz_int (oki _ (hz ▸ hi_mem z zs))
theorem p_law_told {C : Addr} (ds : List DV) (μ : Mh) (Q : DV → Mh → Prop) (hl : ds.length = 1) (h : wfTold C ds μ Q) :
    w_law_told C { nx := fun _ μ' => Q .none μ', rt := Q } (ds.map some ++ List.replicate 0 none) μ := by
  obtain ⟨x, vs, rfl, ⟨p, rfl, hp, ok, hv⟩, q⟩ := h
  exact ret_v (pe_b (pa_cons (x := .tup (fiveD vs)) (pe_tup (pa_cons (pe_fld (pe_var rfl) hp rfl) (pa_cons (pe_fld (pe_var rfl) hp rfl) (pa_cons (pe_fld (pe_var rfl) hp rfl) (pa_cons (pe_fld (pe_var rfl) hp rfl) (pa_cons (pe_fld (pe_var rfl) hp rfl) pa_nil))))) (sl (Nat.le_of_ble_eq_true rfl))) pa_nil) fun P q => ⟨shows_five ok hv, q⟩) q
theorem p_law_is_in (ds : List DV) (μ : Mh) (Q : DV → Mh → Prop) (hl : ds.length = 2) (h : wfIsIn ds μ Q) :
    w_law_is_in { nx := fun _ μ' => Q .none μ', rt := Q } (ds.map some ++ List.replicate 0 none) μ := by
  obtain ⟨vs, v, rfl, q⟩ := h
  unfold w_law_is_in
  cases v with
  | non => exact seq_if (b := true) (pt_test fun P q => q) (fun _ => ret_v (pe_bin (pe_ixT (pe_var rfl) pe_c rfl) pe_c gt_v) q) fun h => by cases h
  | str s =>
    refine seq_if (b := false) (pt_test fun P q => q) (fun h => by cases h) fun _ => ?_
    exact seq_if (b := true) (pt_test (pe_isi (g := tyStr) (x := .str s) (ty := .str) (pe_var rfl) rfl)) (fun _ => ret_v (pe_bin (pe_ixT (pe_var rfl) pe_c rfl) pe_c gt_v) q) fun h => by cases h
  | int i =>
    refine seq_if (b := false) (pt_test fun P q => q) (fun h => by cases h) fun _ => ?_
    refine seq_if (b := false) (pt_test (pe_isi (g := tyStr) (x := .int i) (ty := .int) (pe_var rfl) rfl)) (fun h => by cases h) fun _ => ?_
    refine ret_v (pe_and (b := decide ((0 : Int) < (((intsOf vs).length : Nat) : Int))) (c := decide (lo (intsOf vs) ≤ i) && decide (i ≤ hi (intsOf vs))) (pe_bin (pe_ixT (pe_var rfl) pe_c rfl) pe_c gt_v) fun h => ?_) q
    cases hz : intsOf vs with
    | nil => rw [hz] at h; cases h
    | cons z zs =>
      exact pe_chain (x := .int (lo (z :: zs))) (z := .int (hi (z :: zs))) (pe_ixT (pe_var rfl) pe_c (show atI (fiveD vs) 3 = _ by unfold fiveD; rw [hz]; rfl)) (pe_var rfl) (fun P q => q) (fun _ => pe_ixT (pe_var rfl) pe_c (show atI (fiveD vs) 4 = _ by unfold fiveD; rw [hz]; rfl)) fun _ P q => q
end K11

set_option Elab.async false
set_option linter.all false
set_option maxRecDepth 100000
set_option maxHeartbeats 1000000
/-! K11t: probes; what is asked of facts. -/
namespace K11
open PySem L2 Dz

section
variable {ρ : Rho} {μ : Mh} {x y z u : DV} {wa wb wc we : WE} {wr : WA} {t : WT} {b : Bool} {i : Nat} {E : DEnds} {rest su : WS} {C a p : Addr} {P : DV → Mh → Prop} {PA : List DV → Mh → Prop} {w2 : W2} {wf : WF} {n : Nat} {ys ds es : List DV} {g : WG} {bd : WS}
theorem seq_lstM (ha : wr ρ μ fun ds μ1 => ds.length ≤ sizeLine ∧ ∀ p, μ1 p = none → rest E (ρ.set i (some (.obj p))) (updM μ1 p (.lst ds))) : wSeq (wAsg (wLstM wr) (wgName i)) rest E ρ μ := ha
theorem cons_v (h : PEv wa ρ μ x) (k : wr ρ μ fun xs μ2 => PA (x :: xs) μ2) : wCons wa wr ρ μ PA := h _ k
theorem cons_ (k : wa ρ μ fun x μ1 => wr ρ μ1 fun xs μ2 => PA (x :: xs) μ2) : wCons wa wr ρ μ PA := k
theorem bin_ (k : wa ρ μ fun x μ1 => wb ρ μ1 fun y μ2 => w2 x y μ2 P) : wBin w2 wa wb ρ μ P := k
theorem call_ (ha : PAv wr ρ μ ys) (hn : ys.length = n) (k : wf ys μ P) : wCall n wf wr ρ μ P := ha _ ⟨hn, k⟩
theorem ret_ (k : wa ρ μ fun d μ1 => E.rt d μ1) : wRet wa E ρ μ := k
theorem seq_ {w : WE} (k : w ρ μ fun d μ1 => rest E (ρ.set i (some d)) μ1) : wSeq (wAsg w (wgName i)) rest E ρ μ := k
theorem seq_forT {xs : List DV} (h : PEv we ρ μ (.tup xs)) (k : forW g bd { E with nx := rest E } xs ρ μ) : wSeq (wFor (sTup we) g bd) rest E ρ μ := h _ k
theorem pe_dropT {k : Nat} (h : PEv we ρ μ (.tup ds)) : PEv (wSl we (wPart (wC (.int (k : Nat)))) wNoPart) ρ μ (.tup (ds.drop k)) := fun P q => h _ (by
  show P (.tup (cutD ds (some (k : Int)) none)) μ
  rw [Qz.cut_from]
  exact q)
theorem ifs_v (h : PTv t ρ μ b) (ka : b = true → su E ρ μ) (kb : b = false → E.nx ρ μ) : wIfS t su wNext E ρ μ := h _ (by
  cases b with
  | true => exact ka rfl
  | false => exact kb rfl)
theorem drop_ext (h1 : ρ[i]? = some (some (.obj p))) (h : μ p = some (.lst ds)) (hw : PEv we ρ μ (.lst es)) (l : ds.length + es.length ≤ sizeLine) (k : E.nx ρ (updM μ p (.lst (ds ++ es)))) : wDrop (wExt (wVar i) we) E ρ μ := by
  unfold wDrop wExt
  refine pe_var h1 _ ⟨?_, hw _ ?_⟩
  · unfold isLstM
    simp only [h]
  · show (match μ p with | some (.lst ds) => _ | _ => False)
    rw [h]
    exact ⟨l, k⟩
theorem drop_app (h1 : ρ[i]? = some (some (.obj p))) (h : μ p = some (.lst ds)) (hw : PEv we ρ μ y) (l : ds.length < sizeLine) (k : E.nx ρ (updM μ p (.lst (ds ++ [y])))) : wDrop (wApp (wVar i) we) E ρ μ := by
  unfold wDrop wApp
  refine pe_var h1 _ ⟨?_, hw _ ?_⟩
  · unfold isLstM
    simp only [h]
  · show (match μ p with | some (.lst ds) => _ | _ => False)
    rw [h]
    exact ⟨l, k⟩
theorem frzv_o {w : WS} (h1 : ρ[i]? = some (some (.obj p))) (h : μ p = some (.lst ds)) (k : w E (ρ.set i (some (.lst ds))) (delM μ p)) : wFrzV i w E ρ μ := by
  unfold wFrzV
  simp only [h1, h]
  exact k
theorem pe_ten : PEv (wBin wPow (wC (.int 10)) (wC (.int 12))) ρ μ (.int (10 ^ (12 : Int).toNat)) := fun P q => ⟨cpow_ten (by decide) (by decide), q⟩
theorem pe_catL {xs ys : List DV} (h : PEv wa ρ μ (.lst xs)) (k : PEv wb ρ μ (.lst ys)) (l : xs.length + ys.length ≤ sizeLine) : PEv (wBin wAdd wa wb) ρ μ (.lst (xs ++ ys)) := fun P q => h _ (k _ ⟨l, q⟩)
end
theorem lo_int {vs : List Vl} : (∃ i, loD (intsOf vs) = .int i) ∨ loD (intsOf vs) = .none := by
  cases intsOf vs with
  | nil => exact .inr rfl
  | cons z zs => exact .inl ⟨_, rfl⟩
theorem hi_int {vs : List Vl} : (∃ i, hiD (intsOf vs) = .int i) ∨ hiD (intsOf vs) = .none := by
  cases intsOf vs with
  | nil => exact .inr rfl
  | cons z zs => exact .inl ⟨_, rfl⟩

def wfProbes : WF := fun ds μ Q => ∃ a c m vs, ∃ ws : List Str, ds = [.obj a, .tup (fiveD vs), .lst (ws.map .str)] ∧ Dk μ a c (m + 1) ∧ ws.length ≤ 20 ∧ ∀ (ps : List Vl) μ', ps.length ≤ 100 → Dk μ' a c m → KpD a c μ μ' → Q (.lst (ps.map Vl.d)) μ'
theorem p_law_probes (ds : List DV) (μ : Mh) (Q : DV → Mh → Prop) (hl : ds.length = 3) (h : wfProbes ds μ Q) :
    w_law_probes (wfDraw "mixed") { nx := fun _ μ' => Q .none μ', rt := Q } (ds.map some ++ List.replicate 2 none) μ := by
  obtain ⟨a, c, m, vs, ws, rfl, hd, hw, q⟩ := h
  unfold w_law_probes
  refine seq_lstM (cons_v pe_c (cons_v pe_c (cons_v pe_ten (cons_v (pe_bin pe_c pe_ten fun P q => q) (cons_ (bin_ (call_ (pa_cons (pe_var rfl) (pa_cons pe_c pa_nil)) rfl ⟨a, c, m, 200, rfl, by decide, by decide, hd, fun r μ1 r0 r1 hd1 on => ?_⟩)))))))
  refine ⟨sl (Nat.le_of_ble_eq_true rfl), fun p hp => ?_⟩
  have hk1 : KpD a c μ μ1 := KpD.only on
  obtain ⟨⟨oa, ha⟩, oc, hc⟩ := hd1.isSome
  have pa : a ≠ p := fun z => by rw [z, hp] at ha; cases ha
  have pc : c ≠ p := fun z => by rw [z, hp] at hc; cases hc
  let I : Nat → Rho → Mh → Prop := fun k ρ μ' => ∃ (ns : List Int) (x4 : Option DV), ρ = [some (.obj a), some (.tup (fiveD vs)), some (.lst (ws.map .str)), some (.obj p), x4] ∧ μ' p = some (.lst (ns.map .int)) ∧ ns.length + 3 * k ≤ 20 ∧ ∀ b, b ≠ p → μ' b = μ1 b
  refine seq_forT (pe_dropT (k := 3) (ds := fiveD vs) (pe_var rfl)) ?_
  refine for_rule (I := I) (n := 0) [loD (intsOf vs), hiD (intsOf vs)] _ _ (fun x hx k ρ μ2 F hi hrt hbk hnx _ => ?_) ⟨[0, 1, 10 ^ (12 : Int).toNat, 0 - 10 ^ (12 : Int).toNat, r - 100], none, rfl, updM_same, Nat.le_of_ble_eq_true rfl, fun b hb => updM_ne' hb⟩ ?_
  · obtain ⟨ns, x4, rfl, hp2, hn, hk⟩ := hi
    have hx' : (∃ i, x = .int i) ∨ x = .none := by
      simp only [List.mem_cons, List.not_mem_nil, or_false] at hx
      rcases hx with rfl | rfl
      · exact lo_int
      · exact hi_int
    rcases hx' with ⟨i, rfl⟩ | rfl
    · refine ifs_v (b := true) (pt_test fun P q => q) (fun _ => ?_) fun h => by cases h
      refine drop_ext (es := [.int _, .int i, .int _]) rfl hp2 (pe_lst (pa_cons (pe_b (pa_cons (pe_bin pe_c pe_ten fun P q => q) (pa_cons (pe_bin (pe_var rfl) pe_c fun P q => q) pa_nil)) fun P q => q) (pa_cons (pe_var rfl) (pa_cons (pe_b (pa_cons pe_ten (pa_cons (pe_bin (pe_var rfl) pe_c fun P q => q) pa_nil)) fun P q => q) pa_nil))) (sl (Nat.le_of_ble_eq_true rfl))) (sl (by rw [List.length_map]; simp; omega)) ?_
      have key : ∀ u w : Int, F.nx [some (.obj a), some (.tup (fiveD vs)), some (.lst (ws.map .str)), some (.obj p), some (.int i)] (updM μ2 p (.lst (ns.map .int ++ [.int u, .int i, .int w]))) := fun u w => by
        refine hnx _ _ ⟨ns ++ [u, i, w], _, rfl, ?_, ?_, fun b hb => (updM_ne' hb).trans (hk b hb)⟩
        · rw [updM_same, List.map_append]
          rfl
        · rw [List.length_append]
          simp only [List.length_cons, List.length_nil]
          omega
      exact key _ _
    · refine ifs_v (b := false) (pt_test fun P q => q) (fun h => by cases h) fun _ => ?_
      exact hnx _ _ ⟨ns, _, rfl, hp2, by omega, hk⟩
  · rintro ρ' μ2 ⟨ns, x4, rfl, hp2, hn, hk⟩
    have fin : ∀ (ms : List Int) (μ3 : Mh), ms.length ≤ 30 → μ3 p = some (.lst (ms.map .int)) → (∀ b, b ≠ p → μ3 b = μ1 b) → wFrzV 3 (wRet (wBin wAdd (wBin wAdd (wLst (wCons (wC .none) wNil)) (wVar 2)) (wVar 3))) { nx := fun _ μ' => Q .none μ', rt := Q } [some (.obj a), some (.tup (fiveD vs)), some (.lst (ws.map .str)), some (.obj p), x4] μ3 := fun ms μ3 hm h3 k3 => by
      refine frzv_o rfl h3 ?_
      have e : ([DV.none] ++ ws.map DV.str) ++ ms.map DV.int = (Vl.non :: (ws.map Vl.str ++ ms.map Vl.int)).map Vl.d := by
        rw [List.map_cons, List.map_append, List.map_map, List.map_map]
        rfl
      refine ret_v (pe_catL (pe_catL (pe_lst (pa_cons pe_c pa_nil) (sl (Nat.le_of_ble_eq_true rfl))) (pe_var rfl) (sl (by rw [List.length_map]; simp; omega))) (pe_var rfl) (sl (by rw [List.length_append, List.length_map, List.length_map]; simp; omega))) ?_
      rw [e]
      refine q _ _ (by rw [List.length_cons, List.length_append, List.length_map, List.length_map]; omega) (hd1.keep ?_ ?_) (hk1.trans fun b o x y e => ?_)
      · exact (delM_ne pa).trans (k3 a pa)
      · exact (delM_ne pc).trans (k3 c pc)
      · have hb : b ≠ p := fun z => by rw [z, hp] at e; cases e
        exact ((delM_ne hb).trans (k3 b hb)).trans e
    dsimp only
    refine seq_if (pt_test (pe_bin (x := .int ((intsOf vs).length : Nat)) (pe_ixT (pe_var rfl) pe_c rfl) pe_c gt_v)) (fun h => ?_) fun h => fin ns μ2 (by omega) hp2 hk
    cases hz : intsOf vs with
    | nil => rw [hz] at h; cases h
    | cons z zs =>
      refine drop_app (y := .int _) rfl hp2 (pe_bin (pe_bin (x := .int (lo (z :: zs))) (y := .int (hi (z :: zs))) (pe_ixT (pe_var rfl) pe_c (show atI (fiveD vs) 3 = _ by unfold fiveD; rw [hz]; rfl)) (pe_ixT (pe_var rfl) pe_c (show atI (fiveD vs) 4 = _ by unfold fiveD; rw [hz]; rfl)) fun P q => q) pe_c fun P q => ⟨⟨by decide, by decide⟩, q⟩) (by rw [List.length_map, sizeLine_eq]; omega) ?_
      have key : ∀ u : Int, wFrzV 3 (wRet (wBin wAdd (wBin wAdd (wLst (wCons (wC .none) wNil)) (wVar 2)) (wVar 3))) { nx := fun _ μ' => Q .none μ', rt := Q } [some (.obj a), some (.tup (fiveD vs)), some (.lst (ws.map .str)), some (.obj p), x4] (updM μ2 p (.lst (ns.map .int ++ [.int u]))) := fun u => by
        refine fin (ns ++ [u]) _ (by rw [List.length_append]; simp; omega) ?_ fun b hb => (updM_ne' hb).trans (hk b hb)
        rw [updM_same, List.map_append]
        rfl
      exact key _
def wfAsk (C : Addr) : WF := fun ds μ Q => ∃ a c m x vs, ∃ ws : List Str, ds = [.obj a, x, .tup (fiveD vs), .lst (ws.map .str)] ∧ Dk μ a c (m + 1) ∧ IsF C μ x vs ∧ ws.length ≤ 20 ∧ ∀ μ', Dk μ' a c m → KpD a c μ μ' → Q (.bool true) μ'
theorem eq_self (s : Str) (μ : Mh) (P : DV → Mh → Prop) (q : P (.bool true) μ) : wEqL (.str s) (.str s) μ P := Qz.eq_str true (decide_eq_true rfl) q
theorem p_law_asked_right {C : Addr} (ds : List DV) (μ : Mh) (Q : DV → Mh → Prop) (hl : ds.length = 4) (h : wfAsk C ds μ Q) :
    w_law_asked_right C wfProbes wfIsIn (wfIn C) (wfTold C) wfText { nx := fun _ μ' => Q .none μ', rt := Q } (ds.map some ++ List.replicate 2 none) μ := by
  obtain ⟨a, c, m, x, vs, ws, rfl, hd, hx, hw, q⟩ := h
  unfold w_law_asked_right
  show wCall 3 wfProbes _ _ _ _
  refine call_ (pa_cons (pe_var rfl) (pa_cons (pe_var rfl) (pa_cons (pe_var rfl) pa_nil))) rfl ⟨a, c, m, vs, ws, rfl, hd, hw, fun ps μ1 hps hd1 kp => ?_⟩
  have hx1 := hx.kp hd kp
  let I : Nat → Rho → Mh → Prop := fun k ρ μ' => μ' = μ1 ∧ ∃ x4 x5 : Option DV, ρ = [some (.obj a), some x, some (.tup (fiveD vs)), some (.lst (ws.map .str)), x4, x5]
  refine for_rule (I := I) (n := 0) (ps.map Vl.d) _ _ (fun y hy k ρ μ2 F hi hrt hbk hnx _ => ?_) ⟨rfl, none, none, rfl⟩ ?_
  · obtain ⟨rfl, x4, x5, rfl⟩ := hi
    obtain ⟨v, hv, rfl⟩ := List.mem_map.mp hy
    refine seq_asg (y := .bool (inV vs v)) (pe_call (pa_cons (pe_var rfl) (pa_cons (pe_var rfl) pa_nil)) rfl fun P q => ⟨vs, v, rfl, q⟩) ?_
    have p1 : ∀ ρ : Rho, ρ[4]? = some (some (Vl.d v)) → ρ[1]? = some (some x) → ∀ neg : Bool, PEv (wBin (wInO C (wfIn C) neg) (wVar 4) (wVar 1)) ρ μ2 (.bool (Bool.xor neg (inV vs v))) := fun ρ e1 e2 neg => pe_bin (pe_var e1) (pe_var e2) fun P q => insAt_o hx1 ⟨x, vs, v, rfl, hx1, q⟩
    refine ifs_v (b := false) (pt_or (b := false) (c := false) (pt_test (pe_bin (p1 _ rfl rfl false) (pe_var rfl) fun P q => ?_)) fun _ => pt_test (pe_bin (p1 _ rfl rfl true) (pe_var rfl) fun P q => ?_)) (fun h => by cases h) fun _ => hnx _ _ ⟨rfl, _, _, rfl⟩
    · cases inV vs v <;> exact q
    · cases inV vs v <;> exact q
  · rintro ρ' μ2 ⟨rfl, x4, x5, rfl⟩
    obtain ⟨p, ep, hp, ok, hv⟩ := id hx1
    subst ep
    dsimp only
    refine ret_v (pe_and (b := true) (c := true) (pe_bin (pe_call (pa_cons (pe_var rfl) pa_nil) rfl fun P q => ⟨_, vs, rfl, hx1, q⟩) (pe_b (pa_cons (pe_var rfl) pa_nil) fun P q => ⟨shows_five ok hv, q⟩) (eq_self _ _)) fun _ => pe_bin (pe_fld (pe_var rfl) hp rfl) (pe_call (pa_cons (pe_var rfl) pa_nil) rfl fun P q => ⟨vs, rfl, ok, hv, q⟩) (eq_self _ _)) ?_
    exact q _ hd1 kp
end K11

set_option Elab.async false
set_option linter.all false
set_option maxRecDepth 100000
set_option maxHeartbeats 1000000
/-! K11u: facts in pieces; sums. -/
namespace K11
open PySem L2 Dz

section
variable {ρ : Rho} {μ : Mh} {x y z u : DV} {wa wb wc we : WE} {wr : WA} {t : WT} {b : Bool} {i : Nat} {E : DEnds} {rest su : WS} {C a p : Addr} {P : DV → Mh → Prop} {PA : List DV → Mh → Prop} {w2 : W2} {wf : WF} {n : Nat} {ys ds es : List DV} {g : WG} {bd : WS} {vs us : List Vl} {e : WE}
theorem addO (hx : IsF C μ x vs) (hy : IsF C μ y us) (hl : vs.length + us.length ≤ 60) (k : ∀ z μ', Kept μ μ' → IsF C μ' z (vs ++ us) → P z μ') : wOpO C (wfAdd C) x y μ P := insAt_o hx (insAt_o hy ⟨x, y, vs, us, rfl, hx, hy, hl, k⟩)
theorem eqO (hx : IsF C μ x vs) (hy : IsF C μ y us) (he : fiveD vs = fiveD us) (k : P (.bool true) μ) : wOpO C (wfEq C) x y μ P := insAt_o hx (insAt_o hy ⟨x, y, vs, us, rfl, hx, hy, he, k⟩)
theorem bin_v (ha : PEv wa ρ μ x) (hb : PEv wb ρ μ y) (k : w2 x y μ P) : wBin w2 wa wb ρ μ P := ha _ (hb _ k)
theorem bin_r (ha : PEv wa ρ μ x) (k : wb ρ μ fun y μ2 => w2 x y μ2 P) : wBin w2 wa wb ρ μ P := ha _ k
theorem pe_takeL {k : Nat} (h : PEv we ρ μ (.lst ds)) : PEv (wSl we wNoPart (wPart (wC (.int (k : Nat))))) ρ μ (.lst (ds.take k)) := fun P q => h _ (by
  show P (.lst (cutD ds none (some (k : Int)))) μ
  rw [Qz.cut_to]
  exact q)
theorem pe_dropL {k : Nat} (h : PEv we ρ μ (.lst ds)) : PEv (wSl we (wPart (wC (.int (k : Nat)))) wNoPart) ρ μ (.lst (ds.drop k)) := fun P q => h _ (by
  show P (.lst (cutD ds (some (k : Int)) none)) μ
  rw [Qz.cut_from]
  exact q)
theorem pe_ixL {k : Int} (h : PEv wa ρ μ (.lst ds)) (hi : PEv wb ρ μ (.int k)) (e : atI ds k = some y) : PEv (wBin wIx wa wb) ρ μ y := fun P q => h _ (hi _ (by
  show atW (atI ds k) _
  rw [e]
  exact q))
theorem seq_lc {vl : List Nat} {xs : List DV} {g2 : WG} {t : WT} (hw : PEv we ρ μ (.lst xs)) (k : compW g t e (wipeD ρ vl) xs [] μ fun acc μ2 => g2 (.lst acc) ρ fun ρ1 => rest E ρ1 μ2) : wSeq (wAsg (wLc (sLst we) g t e vl) g2) rest E ρ μ := hw _ k
theorem comp_cons {acc xs : List DV} {PL : List DV → Mh → Prop} (h : e (ρ.set i (some x)) μ fun y μ2 => acc.length < sizeLine ∧ compW (wgName i) wYes e ρ xs (acc ++ [y]) μ2 PL) : compW (wgName i) wYes e ρ (x :: xs) acc μ PL := h
theorem comp_nil {acc : List DV} {PL : List DV → Mh → Prop} (h : PL acc μ) : compW (wgName i) wYes e ρ [] acc μ PL := h
def tru (d : DV) (X Y : Prop) : Prop := match d with
  | .bool true => Y
  | .bool false => X
  | _ => False
theorem tru_ok {X Y : Prop} (h : Y) : tru (.bool true) X Y := h
theorem notT_tru {k : Mh → Prop} (h : wa ρ μ fun d μ1 => tru d (E.rt (.bool false) μ1) (k μ1)) (Z : Prop) : (wNotT (wTest wa)) ρ μ fun b μ1 => match b with | true => E.rt (.bool false) μ1 | false => k μ1 := by
  have e : (fun (d : DV) (μ1 : Mh) => tru d (E.rt (.bool false) μ1) (k μ1)) = fun d μ1 => (match d with | .bool b => (fun (b : Bool) (μ1 : Mh) => (match (!b) with | true => E.rt (.bool false) μ1 | false => k μ1)) b μ1 | _ => False) := by
    funext d μ1
    cases d with
    | bool b => cases b <;> rfl
    | _ => rfl
  rw [e] at h
  exact h
/-- if not A: return False -/
theorem seq_not (h : wa ρ μ fun d μ1 => tru d (E.rt (.bool false) μ1) (rest E ρ μ1)) : wSeq (wIfS (wNotT (wTest wa)) (wRet (wC (.bool false))) wNext) rest E ρ μ := notT_tru (E := E) (k := fun μ1 => rest E ρ μ1) h True
/-- if not A or not B: return False -/
theorem seq_or_not (h : wa ρ μ fun d μ1 => tru d (E.rt (.bool false) μ1) (wb ρ μ1 fun d μ2 => tru d (E.rt (.bool false) μ2) (rest E ρ μ2))) : wSeq (wIfS (wOrT (wNotT (wTest wa)) (wNotT (wTest wb))) (wRet (wC (.bool false))) wNext) rest E ρ μ := by
  have e1 : ∀ μ1 : Mh, (wb ρ μ1 fun d μ2 => tru d (E.rt (.bool false) μ2) (rest E ρ μ2)) = ((wNotT (wTest wb)) ρ μ1 fun b μ2 => match b with | true => E.rt (.bool false) μ2 | false => rest E ρ μ2) := fun μ1 => by
    have e : (fun (d : DV) (μ2 : Mh) => tru d (E.rt (.bool false) μ2) (rest E ρ μ2)) = fun d μ2 => (match d with | .bool b => (fun (b : Bool) (μ2 : Mh) => (match (!b) with | true => E.rt (.bool false) μ2 | false => rest E ρ μ2)) b μ2 | _ => False) := by
      funext d μ2
      cases d with
      | bool b => cases b <;> rfl
      | _ => rfl
    rw [e]
    rfl
  have e2 : (fun (d : DV) (μ1 : Mh) => tru d (E.rt (.bool false) μ1) (wb ρ μ1 fun d μ2 => tru d (E.rt (.bool false) μ2) (rest E ρ μ2))) = fun d μ1 => (match d with | .bool b => (fun (b : Bool) (μ1 : Mh) => (match (!b) with | true => E.rt (.bool false) μ1 | false => ((wNotT (wTest wb)) ρ μ1 fun b μ2 => match b with | true => E.rt (.bool false) μ2 | false => rest E ρ μ2))) b μ1 | _ => False) := by
    funext d μ1
    rw [e1]
    cases d with
    | bool b => cases b <;> rfl
    | _ => rfl
  rw [e2] at h
  have e3 : (wOrT (wNotT (wTest wa)) (wNotT (wTest wb)) ρ μ fun b μ1 => match b with | true => E.rt (.bool false) μ1 | false => rest E ρ μ1) = wa ρ μ fun d μ1 => (match d with | .bool b => (fun (b : Bool) (μ1 : Mh) => (match (!b) with | true => E.rt (.bool false) μ1 | false => ((wNotT (wTest wb)) ρ μ1 fun b μ2 => match b with | true => E.rt (.bool false) μ2 | false => rest E ρ μ2))) b μ1 | _ => False) := by
    show (wa ρ μ fun d μ1 => match d with | .bool b => (match (!b) with | true => (match true with | true => E.rt (.bool false) μ1 | false => rest E ρ μ1) | false => (wNotT (wTest wb)) ρ μ1 fun b μ2 => match b with | true => E.rt (.bool false) μ2 | false => rest E ρ μ2) | _ => False) = _
    rfl
  rw [← e3] at h
  exact h
end
def wfFacts (C : Addr) (n : Nat) : WF := fun ds μ Q => ∃ vs : List Vl, ds = [.lst (vs.map Vl.d)] ∧ (∀ v ∈ vs, v.Ok) ∧ vs.length ≤ 3 + 2 * n ∧ vs.length ≤ 60 ∧ ∀ z μ', Kept μ μ' → IsF C μ' z vs → Q z μ'
theorem p_law_facts {C : Addr} (wf : WF) (n : Nat) (hrec : ∀ n', n = n' + 1 → ∀ ds μ Q, wfFacts C n' ds μ Q → wf ds μ Q) (ds : List DV) (μ : Mh) (Q : DV → Mh → Prop) (hl : ds.length = 1) (h : wfFacts C n ds μ Q) :
    w_law_facts C (wfAdd C) wf (wfInit C) { nx := fun _ μ' => Q .none μ', rt := Q } (ds.map some ++ List.replicate 0 none) μ := by
  obtain ⟨vs, rfl, ok, hn, hv, q⟩ := h
  have el : (((vs.map Vl.d).length : Nat) : Int) = (vs.length : Nat) := by rw [List.length_map]
  unfold w_law_facts
  refine seq_if (b := decide ((3 : Int) < (vs.length : Nat))) (pt_test (pe_bin (pe_len (pe_var rfl)) pe_c fun P q => by rw [el]; exact q)) (fun h => ?_) fun h => ?_
  · have h3 : 3 < vs.length := by have := of_decide_eq_true h; omega
    cases n with
    | zero => omega
    | succ n =>
      refine ret_ (bin_ (call_ (pa_cons (pe_takeL (k := 2) (pe_var rfl)) pa_nil) rfl (hrec n rfl _ _ _ ⟨vs.take 2, by rw [List.map_take], fun v hv => ok v (List.mem_of_mem_take hv), by rw [List.length_take]; omega, by rw [List.length_take]; omega, fun z1 μ1 k1 i1 => ?_⟩)))
      refine call_ (pa_cons (pe_dropL (k := 2) (pe_var rfl)) pa_nil) rfl (hrec n rfl _ _ _ ⟨vs.drop 2, by rw [List.map_drop], fun v hv => ok v (List.mem_of_mem_drop hv), by rw [List.length_drop]; omega, by rw [List.length_drop]; omega, fun z2 μ2 k2 i2 => ?_⟩)
      refine addO (i1.kept k2) i2 (by rw [List.length_take, List.length_drop]; omega) fun z μ3 k3 i3 => ?_
      rw [List.take_append_drop] at i3
      exact q z μ3 ((k1.trans k2).trans k3) i3
  refine seq_if (b := decide (((vs.length : Nat) : Int) = 0)) (pt_test (pe_bin (pe_len (pe_var rfl)) pe_c fun P q => by rw [el]; exact q)) (fun h0 => ?_) fun h0 => ?_
  · have hz : vs = [] := List.eq_nil_of_length_eq_zero (by have := of_decide_eq_true h0; omega)
    subst hz
    exact ret_ (make_v (vs := []) pa_nil ok hv q)
  refine seq_if (b := decide (((vs.length : Nat) : Int) = 1)) (pt_test (pe_bin (pe_len (pe_var rfl)) pe_c fun P q => by rw [el]; exact q)) (fun h1 => ?_) fun h1 => ?_
  · have hz : vs.length = 1 := by have := of_decide_eq_true h1; omega
    match vs, hz with
    | [v1], _ => exact ret_ (make_v (vs := [v1]) (pa_cons (pe_ixL (pe_var rfl) pe_c rfl) pa_nil) ok hv q)
  refine seq_if (b := decide (((vs.length : Nat) : Int) = 2)) (pt_test (pe_bin (pe_len (pe_var rfl)) pe_c fun P q => by rw [el]; exact q)) (fun h2 => ?_) fun h2 => ?_
  · have hz : vs.length = 2 := by have := of_decide_eq_true h2; omega
    match vs, hz with
    | [v1, v2], _ => exact ret_ (make_v (vs := [v1, v2]) (pa_cons (pe_ixL (pe_var rfl) pe_c rfl) (pa_cons (pe_ixL (pe_var rfl) pe_c rfl) pa_nil)) ok hv q)
  have hz : vs.length = 3 := by
    have := of_decide_eq_false h
    have := of_decide_eq_false h0
    have := of_decide_eq_false h1
    have := of_decide_eq_false h2
    omega
  match vs, hz with
  | [v1, v2, v3], _ => exact ret_ (make_v (vs := [v1, v2, v3]) (pa_cons (pe_ixL (pe_var rfl) pe_c rfl) (pa_cons (pe_ixL (pe_var rfl) pe_c rfl) (pa_cons (pe_ixL (pe_var rfl) pe_c rfl) pa_nil))) ok hv q)
end K11

set_option Elab.async false
set_option linter.all false
set_option maxRecDepth 100000
set_option maxHeartbeats 1000000
/-! K11x: sums right. -/
namespace K11
open PySem L2 Dz

section
variable {ρ : Rho} {μ : Mh} {x y z u : DV} {wa wb wc we : WE} {wr : WA} {i j : Nat} {E : DEnds} {rest su : WS} {C a p : Addr} {P : DV → Mh → Prop} {vs us : List Vl} {wt : WF}
theorem seq_par (k : wa ρ μ fun x μ1 => wb ρ μ1 fun y μ2 => rest E ((ρ.set i (some x)).set j (some y)) μ2) : wSeq (wPar i j (wCons wa (wCons wb wNil))) rest E ρ μ := k
/-- e.f, as far as e is there -/
def fldK (C : Addr) (f : Str) (x : DV) (μ1 : Mh) (P : DV → Mh → Prop) : Prop := match x with
  | .obj a => match μ1 a with
    | some (.ins C' fs) => C' = C ∧ atW (fs.lookup f) fun d => P d μ1
    | _ => False
  | _ => False
theorem fld_ {f : Str} (k : wa ρ μ fun x μ1 => fldK C f x μ1 P) : wFld C f wa ρ μ P := k
theorem text_o (h : IsF C μ x vs) (k : P (.str (textF vs)) μ) : fldK C "text" x μ P := by
  obtain ⟨p, rfl, hp, _⟩ := h
  unfold fldK
  simp only [hp]
  exact ⟨trivial, k⟩
theorem ne_self (s : Str) (μ : Mh) (P : DV → Mh → Prop) (q : P (.bool false) μ) : wNeL (.str s) (.str s) μ P := by
  show wEqL (.str s) (.str s) μ (fun d μ1 => match d with | .bool b => P (.bool (!b)) μ1 | _ => False)
  exact eq_self s μ _ q
theorem ne_eq {s t : Str} (e : s = t) (q : P (.bool false) μ) : wNeL (.str s) (.str t) μ P := by
  subst e
  exact ne_self s μ P q
def fls (d : DV) (X Y : Prop) : Prop := match d with
  | .bool true => X
  | .bool false => Y
  | _ => False
theorem fls_ok {X Y : Prop} (h : Y) : fls (.bool false) X Y := h
theorem seq_ifF (h : wa ρ μ fun d μ1 => fls d (E.rt (.bool false) μ1) (rest E ρ μ1)) : wSeq (wIfS (wTest wa) (wRet (wC (.bool false))) wNext) rest E ρ μ := by
  have e : (fun (d : DV) (μ1 : Mh) => fls d (E.rt (.bool false) μ1) (rest E ρ μ1)) = fun d μ1 => (match d with | .bool b => (fun (b : Bool) (μ1 : Mh) => (match b with | true => E.rt (.bool false) μ1 | false => rest E ρ μ1)) b μ1 | _ => False) := by
    funext d μ1
    cases d with
    | bool b => cases b <;> rfl
    | _ => rfl
  rw [e] at h
  exact h
theorem shaped3 {a b c : Str} (ha : PyData.strOk a = true) (hb : PyData.strOk b = true) (hc : PyData.strOk c = true) : shapedD (.lst [.str a, .str b, .str c]) = true := by
  show (noObjs [.str a, .str b, .str c] && ((PyData.strOk a && (PyData.strOk b && (PyData.strOk c && true))) && decide (PyData.depthAll (toPys [.str a, .str b, .str c]) + 1 ≤ 64))) = true
  rw [ha, hb, hc]
  rfl
theorem plain_of (s : String) : plainS (Str.ofString s) = true := by
  rw [plain_iff]
  intro c hc
  rw [Str.ofString_eq_toList] at hc
  unfold sg at hc
  simp only [List.mem_map] at hc
  obtain ⟨d, _, rfl⟩ := hc
  rcases d.valid with h | h
  · exact Nat.lt_trans h (by decide)
  · exact h.2
theorem plain_joinS {y : Str} (hy : plainS y = true) : ∀ {xs : List Str}, (∀ x ∈ xs, plainS x = true) → plainS (Str.join y xs) = true
  | [], _ => rfl
  | [x], h => h x List.mem_cons_self
  | x :: z :: r, h => plain_append (plain_append (h x List.mem_cons_self) hy) (plain_joinS hy fun w hw => h w (List.mem_cons_of_mem _ hw))
theorem plain_tup {xs : List Str} (h : ∀ x ∈ xs, plainS x = true) : plainS (tupleText xs) = true := by
  unfold tupleText
  exact plain_append (plain_append (plain_of _) (plain_joinS (plain_of _) h)) (plain_of _)
theorem plain_lo (ns : List Int) : plainS (toPy (loD ns)).shown = true := by
  cases ns with
  | nil => exact plain_of "None"
  | cons z zs => exact plain_of (toString (lo (z :: zs)))
theorem plain_hi (ns : List Int) : plainS (toPy (hiD ns)).shown = true := by
  cases ns with
  | nil => exact plain_of "None"
  | cons z zs => exact plain_of (toString (hi (z :: zs)))
theorem told_ok (vs : List Vl) : PyData.strOk (shownD (.tup (fiveD vs))) = true := by
  refine strOk_plain ?_
  show plainS (tupleText [Str.ofString (toString ((cN vs : Nat) : Int)), Str.ofString (toString (((intsOf vs).length : Nat) : Int)), Str.ofString (toString ((cS vs : Nat) : Int)), (toPy (loD (intsOf vs))).shown, (toPy (hiD (intsOf vs))).shown]) = true
  refine plain_tup fun x hx => ?_
  simp only [List.mem_cons, List.not_mem_nil, or_false] at hx
  rcases hx with rfl | rfl | rfl | rfl | rfl
  · exact plain_of _
  · exact plain_of _
  · exact plain_of _
  · exact plain_lo _
  · exact plain_hi _
/-- the three tellings -/
def toldD (vs : List Vl) : DV := .str (shownD (.tup (fiveD vs)))
theorem pe_told {l0 l1 l2 : List Vl} {x0 x1 x2 : DV} {ws : WE} {vl : Nat} (hw : PEv ws ρ μ (.tup [x0, x1, x2])) (h0 : IsF C μ x0 l0) (h1 : IsF C μ x1 l1) (h2 : IsF C μ x2 l2) (hl : vl < ρ.length) :
    PEv (wLc (sTup ws) (wgName vl) wYes (wCall 1 (wfTold C) (wCons (wVar vl) wNil)) [vl]) ρ μ (.lst [toldD l0, toldD l1, toldD l2]) := fun P q => by
  have hg : ∀ x : DV, ((wipeD ρ [vl]).set vl (some x))[vl]? = some (some x) := fun x => by
    rw [List.getElem?_set_self]
    show vl < ((wipeD ρ []).set vl none).length
    rw [List.length_set]
    exact hl
  refine hw _ ?_
  show compW _ _ _ (wipeD ρ [vl]) [x0, x1, x2] [] μ _
  refine comp_cons (call_ (pa_cons (pe_var (hg x0)) pa_nil) rfl ⟨x0, l0, rfl, h0, sl (Nat.le_of_ble_eq_true rfl), ?_⟩)
  refine comp_cons (call_ (pa_cons (pe_var (hg x1)) pa_nil) rfl ⟨x1, l1, rfl, h1, sl (Nat.le_of_ble_eq_true rfl), ?_⟩)
  refine comp_cons (call_ (pa_cons (pe_var (hg x2)) pa_nil) rfl ⟨x2, l2, rfl, h2, sl (Nat.le_of_ble_eq_true rfl), ?_⟩)
  exact q
end
def wfSums (C : Addr) : WF := fun ds μ Q => ∃ a c m l0 l1 l2, ∃ ws : List Str, ds = [.obj a, .lst [.lst (List.map Vl.d l0), .lst (List.map Vl.d l1), .lst (List.map Vl.d l2)], .lst (ws.map .str)] ∧ (∀ v ∈ l0, v.Ok) ∧ (∀ v ∈ l1, v.Ok) ∧ (∀ v ∈ l2, v.Ok) ∧ l0.length ≤ 7 ∧ l1.length ≤ 7 ∧ l2.length ≤ 7 ∧
  Dk μ a c (m + 2) ∧ ws.length ≤ 20 ∧ ∀ μ', Dk μ' a c m → KpD a c μ μ' → Q (.bool true) μ'
theorem p_law_sums_right {C : Addr} (ds : List DV) (μ : Mh) (Q : DV → Mh → Prop) (hl : ds.length = 3) (h : wfSums C ds μ Q) :
    w_law_sums_right C (wfFacts C 2) (wfTold C) (wfAdd C) wfDue (wfAsk C) (wfEq C) (wfInit C) { nx := fun _ μ' => Q .none μ', rt := Q } (ds.map some ++ List.replicate 9 none) μ := by
  obtain ⟨a, c, m, l0, l1, l2, ws, rfl, ok0, ok1, ok2, n0, n1, n2, hd, hw, q⟩ := h
  unfold w_law_sums_right
  refine seq_lc (pe_var rfl) ?_
  show compW _ _ _ (wipeD _ [6]) [.lst (List.map Vl.d l0), .lst (List.map Vl.d l1), .lst (List.map Vl.d l2)] [] μ _
  refine comp_cons (call_ (pa_cons (pe_var rfl) pa_nil) rfl ⟨l0, rfl, ok0, by omega, by omega, fun x0 μ1 k1 i1 => ⟨sl (Nat.le_of_ble_eq_true rfl), ?_⟩⟩)
  refine comp_cons (call_ (pa_cons (pe_var rfl) pa_nil) rfl ⟨l1, rfl, ok1, by omega, by omega, fun x1 μ2 k2 i2 => ⟨sl (Nat.le_of_ble_eq_true rfl), ?_⟩⟩)
  refine comp_cons (call_ (pa_cons (pe_var rfl) pa_nil) rfl ⟨l2, rfl, ok2, by omega, by omega, fun x2 μ3 k3 i3 => ⟨sl (Nat.le_of_ble_eq_true rfl), ?_⟩⟩)
  have k13 := (k1.trans k2).trans k3
  have j0 := i1.kept (k2.trans k3)
  have j1 := i2.kept k3
  have j2 := i3
  have d3 : Dk μ3 a c (m + 2) := Dk.kept hd k13
  have kp3 : KpD a c μ μ3 := k13.d
  clear i1 i2 i3 k1 k2 k3 k13 hd
  refine comp_nil ⟨rfl, rfl, ?_⟩
  show wSeq _ _ _ [some (.obj a), some (.lst [.lst (List.map Vl.d l0), .lst (List.map Vl.d l1), .lst (List.map Vl.d l2)]), some (.lst (ws.map .str)), some x0, some x1, some x2, none, none, none, none, none, none] μ3
  refine seq_asg (pe_told (pe_tup (pa_cons (pe_var rfl) (pa_cons (pe_var rfl) (pa_cons (pe_var rfl) pa_nil))) (sl (Nat.le_of_ble_eq_true rfl))) j0 j1 j2 (Nat.le_of_ble_eq_true rfl)) ?_
  refine seq_par (bin_v (pe_var rfl) (pe_var rfl) (addO j0 j1 (by omega) fun xb μ4 k4 ib => ?_))
  refine call_ (pa_cons (pe_catL (pe_ixL (pe_var rfl) pe_c rfl) (pe_ixL (pe_var rfl) pe_c rfl) (sl (by rw [List.length_map, List.length_map]; omega))) pa_nil) rfl ⟨l0 ++ l1, by rw [List.map_append], by rw [List.length_append]; omega, ?_⟩
  have d4 : Dk μ4 a c (m + 2) := d3.kept k4
  have kp4 := kp3.trans k4.d
  replace j0 := j0.kept k4
  replace j1 := j1.kept k4
  replace j2 := j2.kept k4
  clear k4 d3 kp3
  show wSeq _ _ _ [some (.obj a), some (.lst [.lst (List.map Vl.d l0), .lst (List.map Vl.d l1), .lst (List.map Vl.d l2)]), some (.lst (ws.map .str)), some x0, some x1, some x2, none, some (.lst [toldD l0, toldD l1, toldD l2]), none, some xb, some (.tup (fiveD (l0 ++ l1))), none] μ4
  refine seq_or_not (call_ (pa_cons (pe_var rfl) (pa_cons (pe_var rfl) (pa_cons (pe_var rfl) (pa_cons (pe_var rfl) pa_nil)))) rfl ⟨a, c, m + 1, xb, l0 ++ l1, ws, rfl, d4, ib, hw, fun μ5 d5 k5 => tru_ok ?_⟩)
  have kp5 := kp4.trans k5
  replace j0 := j0.kp d4 k5
  replace j1 := j1.kp d4 k5
  replace j2 := j2.kp d4 k5
  replace ib := ib.kp d4 k5
  clear k5 d4 kp4
  refine bin_ (bin_v (pe_var rfl) (pe_var rfl) (addO j1 j0 (by omega) fun z μ6 k6 iz => pe_var rfl _ (eqO iz (ib.kept k6) (five_comm l1 l0) (tru_ok ?_))))
  have d6 : Dk μ6 a c (m + 1) := d5.kept k6
  have kp6 := kp5.trans k6.d
  replace j0 := j0.kept k6
  replace j1 := j1.kept k6
  replace j2 := j2.kept k6
  replace ib := ib.kept k6
  clear k6 d5 kp5 iz
  refine seq_ (bin_r (pe_var rfl) (bin_v (pe_var rfl) (pe_var rfl) (addO j1 j2 (by omega) fun z2 μ7 k7 i7 => addO (j0.kept k7) i7 (by rw [List.length_append]; omega) fun xw μ8 k8 iw => ?_)))
  have k78 := k7.trans k8
  have d8 : Dk μ8 a c (m + 1) := d6.kept k78
  have kp8 := kp6.trans k78.d
  replace j0 := j0.kept k78
  replace j1 := j1.kept k78
  replace j2 := j2.kept k78
  replace ib := ib.kept k78
  clear k7 k8 k78 d6 kp6 i7
  refine seq_asg (y := .tup (fiveD (l0 ++ l1 ++ l2))) (pe_call (pa_cons (pe_catL (pe_catL (pe_ixL (pe_var rfl) pe_c rfl) (pe_ixL (pe_var rfl) pe_c rfl) (sl (by rw [List.length_map, List.length_map]; omega))) (pe_ixL (pe_var rfl) pe_c rfl) (sl (by rw [List.length_append, List.length_map, List.length_map, List.length_map]; omega))) pa_nil) rfl fun P q => ⟨l0 ++ l1 ++ l2, by rw [List.map_append, List.map_append], by rw [List.length_append, List.length_append]; omega, q⟩) ?_
  rw [List.append_assoc]
  show wSeq _ _ _ [some (.obj a), some (.lst [.lst (List.map Vl.d l0), .lst (List.map Vl.d l1), .lst (List.map Vl.d l2)]), some (.lst (ws.map .str)), some x0, some x1, some x2, none, some (.lst [toldD l0, toldD l1, toldD l2]), none, some xb, some (.tup (fiveD (l0 ++ (l1 ++ l2)))), some xw] μ8
  refine seq_or_not (call_ (pa_cons (pe_var rfl) (pa_cons (pe_var rfl) (pa_cons (pe_var rfl) (pa_cons (pe_var rfl) pa_nil)))) rfl ⟨a, c, m, xw, l0 ++ (l1 ++ l2), ws, rfl, d8, iw, hw, fun μ9 d9 k9 => tru_ok ?_⟩)
  have kp9 := kp8.trans k9
  replace j0 := j0.kp d8 k9
  replace j1 := j1.kp d8 k9
  replace j2 := j2.kp d8 k9
  replace ib := ib.kp d8 k9
  replace iw := iw.kp d8 k9
  clear k9 d8 kp8
  refine bin_ (bin_v (pe_var rfl) (pe_var rfl) (addO ib j2 (by rw [List.length_append]; omega) fun z μ10 k10 iz => pe_var rfl _ (eqO iz (iw.kept k10) (by rw [List.append_assoc]) (tru_ok ?_))))
  have d10 : Dk μ10 a c m := d9.kept k10
  have kp10 := kp9.trans k10.d
  replace j0 := j0.kept k10
  replace j1 := j1.kept k10
  replace j2 := j2.kept k10
  replace iw := iw.kept k10
  clear k10 d9 kp9 iz ib
  refine seq_or_not (bin_ (bin_r (pe_var rfl) (make_v (vs := []) pa_nil (fun v h => by cases h) (Nat.zero_le _) fun z1 μ11 k11 i11 => addO (j0.kept k11) i11 (by simp; omega) fun z2 μ12 k12 i12 => pe_var rfl _ (eqO i12 ((j0.kept k11).kept k12) (by rw [List.append_nil]) (tru_ok ?_)))))
  have k112 := k11.trans k12
  have d12 : Dk μ12 a c m := d10.kept k112
  have kp12 := kp10.trans k112.d
  replace j0 := j0.kept k112
  replace j1 := j1.kept k112
  replace j2 := j2.kept k112
  replace iw := iw.kept k112
  clear k11 k12 k112 d10 kp10 i11 i12
  refine bin_ (bin_ (make_v (vs := []) pa_nil (fun v h => by cases h) (Nat.zero_le _) fun z1 μ13 k13 i13 => pe_var rfl _ (addO i13 (j0.kept k13) (by simp; omega) fun z2 μ14 k14 i14 => pe_var rfl _ (eqO i14 ((j0.kept k13).kept k14) rfl (tru_ok ?_)))))
  have k134 := k13.trans k14
  have d14 : Dk μ14 a c m := d12.kept k134
  have kp14 := kp12.trans k134.d
  replace j0 := j0.kept k134
  replace j1 := j1.kept k134
  replace j2 := j2.kept k134
  replace iw := iw.kept k134
  clear k13 k14 k134 d12 kp12 i13 i14
  -- the texts
  have key : ∀ μ16, Kept μ14 μ16 → wRet (wBin wEqL (wVar 7) (wLc (sTup (wTup (wCons (wVar 3) (wCons (wVar 4) (wCons (wVar 5) wNil))))) (wgName 8) wYes (wCall 1 (wfTold C) (wCons (wVar 8) wNil)) [8])) { nx := fun _ μ' => Q .none μ', rt := Q } [some (.obj a), some (.lst [.lst (List.map Vl.d l0), .lst (List.map Vl.d l1), .lst (List.map Vl.d l2)]), some (.lst (ws.map .str)), some x0, some x1, some x2, none, some (.lst [toldD l0, toldD l1, toldD l2]), none, some xb, some (.tup (fiveD (l0 ++ (l1 ++ l2)))), some xw] μ16 := fun μ16 k16 => by
    have hs : shapedD (.lst [toldD l0, toldD l1, toldD l2]) = true := shaped3 (told_ok l0) (told_ok l1) (told_ok l2)
    refine ret_ (bin_v (pe_var rfl) (pe_told (pe_tup (pa_cons (pe_var rfl) (pa_cons (pe_var rfl) (pa_cons (pe_var rfl) pa_nil))) (sl (Nat.le_of_ble_eq_true rfl))) (j0.kept k16) (j1.kept k16) (j2.kept k16) (Nat.le_of_ble_eq_true rfl)) ⟨hs, hs, ?_⟩)
    rw [deep_refl hs]
    exact q _ (d14.kept k16) (kp14.trans k16.d)
  refine seq_ifF (bin_ (fld_ (bin_v (pe_var rfl) (pe_var rfl) (addO iw j0 (by simp only [List.length_append]; omega) fun z1 μ15 k15 i15 => text_o i15 ?_))))
  refine fld_ (bin_v (pe_var rfl) (pe_var rfl) (addO (j0.kept k15) (iw.kept k15) (by simp only [List.length_append]; omega) fun z2 μ16 k16 i16 => text_o i16 (ne_eq (text_comm (l0 ++ (l1 ++ l2)) l0) (fls_ok ?_))))
  exact key μ16 (k15.trans k16)
end K11

set_option Elab.async false
set_option linter.all false
set_option maxRecDepth 100000
set_option maxHeartbeats 1000000
/-! K11y: names. -/
namespace K11
open PySem L2 Dz TL

def abc : Str := "abcdefghijklmnopqrstuvwxyz"
def abcL : List Nat := [97, 98, 99, 100, 101, 102, 103, 104, 105, 106, 107, 108, 109, 110, 111, 112, 113, 114, 115, 116, 117, 118, 119, 120, 121, 122]
theorem abc_eq : abc.cps.toList = abcL := by decide +kernel
theorem abc_eq' : abc = ⟨abcL.toArray⟩ := by
  rw [← abc_eq]
theorem occ_all : (abcL.all fun c => match Builtin.Str.occurrences ⟨abcL.toArray⟩ ⟨#[c]⟩ 0 26 1 with | i :: _ => decide (i < 26) | [] => false) = true := by decide +kernel
theorem occ {c : Nat} (h : c ∈ abcL) : ∃ i rest, Builtin.Str.occurrences abc ⟨#[c]⟩ 0 abc.length 1 = i :: rest ∧ i < 26 := by
  have h1 := List.all_eq_true.mp occ_all c h
  have e : abc.length = 26 := by rw [abc_eq']; rfl
  rw [e, abc_eq']
  cases hz : Builtin.Str.occurrences ⟨abcL.toArray⟩ ⟨#[c]⟩ 0 26 1 with
  | nil => rw [hz] at h1; cases h1
  | cons i r => rw [hz] at h1; exact ⟨i, r, rfl, of_decide_eq_true h1⟩
theorem joinL_ones : ∀ cs : List Nat, joinL [] (cs.map fun c => [c]) = cs
  | [] => rfl
  | [c] => rfl
  | c :: d :: r => by
    show [c] ++ ([] ++ joinL [] ((d :: r).map fun c => [c])) = _
    rw [joinL_ones (d :: r)]
    rfl
theorem sg_join (cs : List Nat) : (Txt.join "" (cs.map fun c => (⟨#[c]⟩ : Str))).cps.toList = cs := by
  have h : sg (Txt.join "" (cs.map fun c => (⟨#[c]⟩ : Str))) = joinL (tl "") ((cs.map fun c => (⟨#[c]⟩ : Str)).map tl) := by
    rw [join_eq, ← tl_join]
    try rfl
  have e0 : tl (Str.ofString "") = [] := by decide +kernel
  rw [List.map_map] at h
  rw [e0] at h
  exact h.trans (joinL_ones cs)
theorem ones_of : ∀ {zs : List DV}, (∀ z ∈ zs, ∃ c ∈ abcL, z = .str ⟨#[c]⟩) → ∃ cs : List Nat, zs = cs.map (fun c => DV.str ⟨#[c]⟩) ∧ ∀ c ∈ cs, c ∈ abcL
  | [], _ => ⟨[], rfl, fun c h => by cases h⟩
  | z :: zs, h => by
    obtain ⟨c, hc, e⟩ := h z List.mem_cons_self
    obtain ⟨cs, e2, h2⟩ := ones_of fun z hz => h z (List.mem_cons_of_mem _ hz)
    refine ⟨c :: cs, by rw [e, e2]; rfl, fun d hd => ?_⟩
    rcases List.mem_cons.mp hd with hd | hd
    · rw [hd]; exact hc
    · exact h2 d hd
section
variable {ρ : Rho} {μ : Mh} {x y z u : DV} {wa wb wc we : WE} {wr : WA} {i j : Nat} {E : DEnds} {rest su : WS} {C a p : Addr} {P : DV → Mh → Prop} {gs : WGs} {e : WE}
theorem seq_tup2 (k : wr ρ μ fun ds μ1 => ds.length ≤ sizeLine ∧ wgTup 2 gs (.tup ds) ρ fun ρ1 => rest E ρ1 μ1) : wSeq (wAsg (wTup wr) (wgTup 2 gs)) rest E ρ μ := k
def joinK (a : Str) (y : DV) (μ2 : Mh) (P : DV → Mh → Prop) : Prop := match y with
  | .lst ds => joinD a ds μ2 P
  | .tup ds => joinD a ds μ2 P
  | _ => False
theorem join_ {s : Str} (k : wa ρ μ fun y μ2 => joinK s y μ2 P) : wJoin (wC (.str s)) wa ρ μ P := k
theorem lc_rng {n : Nat} {vl : List Nat} {g : WG} {t : WT} (hn : n ≤ 1000) (k : compW g t e (wipeD ρ vl) (rngD 0 n) [] μ fun acc μ2 => P (.lst acc) μ2) : wLc (sRng1 (wC (.int (n : Nat)))) g t e vl ρ μ P := ⟨by omega, by omega, by
  rw [Int.toNat_natCast]
  exact k⟩
theorem pe_rng3 {y0 y1 y2 : DV} {vl : Nat} (hw : PEv wa ρ μ (.int 3)) (h0 : PEv e ((wipeD ρ [vl]).set vl (some (.int 0))) μ y0) (h1 : PEv e ((wipeD ρ [vl]).set vl (some (.int 1))) μ y1) (h2 : PEv e ((wipeD ρ [vl]).set vl (some (.int 2))) μ y2) :
    PEv (wLc (sRng1 wa) (wgName vl) wYes e [vl]) ρ μ (.lst [y0, y1, y2]) := fun P q => hw _ ⟨by decide, by decide, by
  show compW _ _ _ _ [.int 0, .int 1, .int 2] [] μ _
  exact comp_cons (h0 _ ⟨sl (Nat.le_of_ble_eq_true rfl), comp_cons (h1 _ ⟨sl (Nat.le_of_ble_eq_true rfl), comp_cons (h2 _ ⟨sl (Nat.le_of_ble_eq_true rfl), q⟩)⟩)⟩)⟩
theorem pt_and {t t2 : WT} {b c : Bool} (h : PTv t ρ μ b) (k : b = true → PTv t2 ρ μ c) : PTv (wAndT t t2) ρ μ (b && c) := fun P q => h _ (by
  cases b with
  | true => exact k rfl P q
  | false => exact q)
theorem pe_cutTo {s : Str} {n : Int} (h : PEv wa ρ μ (.str s)) (k : PEv wb ρ μ (.int n)) (l : s.length ≤ sizeLine) : PEv (wSl wa wNoPart (wPart wb)) ρ μ (.str (cutS s none (some n))) := fun P q => h _ (k _ ⟨l, q⟩)
theorem pe_cutFrom {s : Str} {n : Int} (h : PEv wa ρ μ (.str s)) (k : PEv wb ρ μ (.int n)) (l : s.length ≤ sizeLine) : PEv (wSl wa (wPart wb) wNoPart) ρ μ (.str (cutS s (some n) none)) := fun P q => h _ (k _ ⟨l, q⟩)
theorem pe_ixS {s : Str} {n : Int} {c : Nat} (h : PEv wa ρ μ (.str s)) (k : PEv wb ρ μ (.int n)) (l : s.length ≤ sizeLine) (e : atI s.cps.toList n = some c) : PEv (wBin wIx wa wb) ρ μ (.str ⟨#[c]⟩) := fun P q => h _ (k _ ⟨l, by
  rw [e]
  exact q⟩)
theorem pe_addI {m n : Int} (h : PEv wa ρ μ (.int m)) (k : PEv wb ρ μ (.int n)) : PEv (wBin wAdd wa wb) ρ μ (.int (m + n)) := pe_bin h k fun P q => q
theorem pe_modI {m n : Int} (h : PEv wa ρ μ (.int m)) (k : PEv wb ρ μ (.int n)) (l : 0 < n) : PEv (wBin wMod wa wb) ρ μ (.int (m % n)) := pe_bin h k fun P q => ⟨l, q⟩
end
def wordsL : List Str := ["table", "row", "next", "key", "index", "nothing", "number", "word", "from", "tell", "no", "within"]
theorem words_len : ∀ w ∈ wordsL, w.length ≤ 1000 := by
  have h : (wordsL.all fun w => decide (w.length ≤ 1000)) = true := by decide +kernel
  exact fun w hw => of_decide_eq_true (List.all_eq_true.mp h w hw)
def wfNames : WF := fun ds μ Q => ∃ a c m, ds = [.obj a, .int 3] ∧ Dk μ a c (m + 12) ∧ ∀ (ws : List Str) μ', ws.length = 3 → (∀ w ∈ ws, w.length ≤ 1000) → Dk μ' a c m → KpD a c μ μ' → Q (.lst (ws.map .str)) μ'
theorem p_law_names (ds : List DV) (μ : Mh) (Q : DV → Mh → Prop) (hl : ds.length = 2) (h : wfNames ds μ Q) :
    w_law_names (wfDraw "mixed") (wfPick "mixed") { nx := fun _ μ' => Q .none μ', rt := Q } (ds.map some ++ List.replicate 8 none) μ := by
  obtain ⟨a, c, m, rfl, hd, q⟩ := h
  unfold w_law_names
  refine seq_tup2 (cons_v pe_c (cons_ (call_ (pa_cons (pe_var rfl) (pa_cons pe_c pa_nil)) rfl ⟨a, c, m + 11, 3, rfl, by decide, by decide, hd, fun way μ1 w0 w1 d1 on1 => ⟨sl (Nat.le_of_ble_eq_true rfl), rfl, rfl, ?_⟩⟩)))
  have kp1 : KpD a c μ μ1 := KpD.only on1
  refine seq_tup2 (cons_ (join_ (lc_rng (n := 8) (by decide) ?_)))
  refine comp_all (G := fun z => ∃ c ∈ abcL, z = .str ⟨#[c]⟩) (I := fun k μ' => Dk μ' a c (m + 3 + k) ∧ KpD a c μ μ') (n := 0) _ [] μ1 _ (fun x hx μ2 k P hi hy => ?_) (by rw [rngD_len]; exact sl (Nat.le_of_ble_eq_true rfl)) (fun y hy => by cases hy) ⟨d1.le (by rw [rngD_len]; omega), kp1⟩ fun zs μ2 hz hzl hi => ?_
  · obtain ⟨d2, k2⟩ := hi
    have hla : (itemsD (.str abc)).length = 26 := by
      show (signs abc).length = 26
      unfold signs
      rw [abc_eq]
      rfl
    refine call_ (ys := [.obj a, .str abc]) (pa_cons (pe_var rfl) (pa_cons (pe_var rfl) pa_nil)) rfl ⟨a, c, m + 3 + k, .str abc, rfl, by rw [hla]; decide, by rw [hla]; exact sl (by decide), d2, fun z μ3 hz d3 on3 => hy z μ3 ?_ ⟨d3, k2.trans (KpD.only on3)⟩⟩
    have hz : z ∈ signs abc := hz
    unfold signs at hz
    rw [abc_eq] at hz
    obtain ⟨c, hc, rfl⟩ := List.mem_map.mp hz
    exact ⟨c, hc, rfl⟩
  obtain ⟨d2, k2⟩ := hi
  obtain ⟨cs, rfl, hcs⟩ := ones_of hz
  have hcl : cs.length = 8 := by rw [List.length_map, rngD_len] at hzl; exact hzl
  have es : cs.map (fun c => DV.str ⟨#[c]⟩) = (cs.map fun c => (⟨#[c]⟩ : Str)).map DV.str := by rw [List.map_map]; rfl
  have hsum : ((cs.map fun c => (⟨#[c]⟩ : Str)).map (·.length)).sum + (cs.map fun c => (⟨#[c]⟩ : Str)).length * (Str.ofString "").length ≤ 16777216 := by
    have e0 : (Str.ofString "").length = 0 := by decide +kernel
    rw [e0, List.map_map]
    have : ∀ l : List Nat, (l.map ((fun x : Str => x.length) ∘ fun c => (⟨#[c]⟩ : Str))).sum = l.length := fun l => by
      induction l with
      | nil => rfl
      | cons x xs ih => rw [List.map_cons, List.sum_cons, ih, List.length_cons]; show 1 + _ = _; omega
    rw [this, hcl]
    omega
  refine ⟨_, es, hsum, ?_⟩
  have hst := sg_join cs
  generalize Txt.join (Str.ofString "") (cs.map fun c => (⟨#[c]⟩ : Str)) = S at hst ⊢
  have hSl : S.length = 8 := by rw [← hcl, ← hst]; exact (Array.length_toList).symm
  have hSs : S.length ≤ sizeLine := sl (by omega)
  refine cons_ (call_ (pa_cons (pe_var rfl) (pa_cons pe_c pa_nil)) rfl ⟨a, c, m + 2, 12, rfl, by decide, by decide, d2.le (by omega), fun first μ3 f0 f1 d3 on3 => ⟨sl (Nat.le_of_ble_eq_true rfl), rfl, rfl, ?_⟩⟩)
  have k3 : KpD a c μ μ3 := k2.trans (KpD.only on3)
  clear hd d1 on1 kp1 d2 on3 k2 hz hzl es hsum
  refine seq_asg (y := .lst (wordsL.map .str)) (fun P q => ⟨sl (Nat.le_of_ble_eq_true rfl), q⟩) ?_
  have eqI : ∀ (i j : Int) (μ : Mh) (P : DV → Mh → Prop), P (.bool (decide (i = j))) μ → wEqL (.int i) (.int j) μ P := fun i j μ P q => q
  refine seq_if (pt_and (c := true) (pt_test (pe_bin (pe_var rfl) pe_c (eqI way 1 μ3))) fun _ => pt_test (pe_bin (x := .int 3) (y := .int 9) (pe_var rfl) pe_c fun P q => q)) (fun _ => ?_) fun _ => ?_
  · refine ret_v (pe_rng3 (pe_var rfl) (pe_cutTo (pe_var rfl) (pe_addI (pe_var rfl) pe_c) hSs) (pe_cutTo (pe_var rfl) (pe_addI (pe_var rfl) pe_c) hSs) (pe_cutTo (pe_var rfl) (pe_addI (pe_var rfl) pe_c) hSs)) ?_
    refine q [cutS S none (some (0 + 1)), cutS S none (some (1 + 1)), cutS S none (some (2 + 1))] μ3 rfl (fun w hw => ?_) (d3.le (by omega)) k3
    simp only [List.mem_cons, List.not_mem_nil, or_false] at hw
    have hc := fun n => len_cut S none (some n)
    rcases hw with rfl | rfl | rfl
    · exact Nat.le_trans (hc _) (by omega)
    · exact Nat.le_trans (hc _) (by omega)
    · exact Nat.le_trans (hc _) (by omega)
  refine seq_if (pt_test (pe_bin (pe_var rfl) pe_c (eqI way 2 μ3))) (fun _ => ?_) fun _ => ?_
  · have hx : ∀ n : Int, ∃ w ∈ wordsL, atI (wordsL.map DV.str) ((first + n) % 12) = some (.str w) := fun n => by
      obtain ⟨x, hx, e⟩ := atI_nat (xs := wordsL.map DV.str) (r := (first + n) % 12) (Int.emod_nonneg _ (by decide)) (by show _ < (12 : Int); exact Int.emod_lt_of_pos _ (by decide))
      obtain ⟨w, hw, rfl⟩ := List.mem_map.mp hx
      exact ⟨w, hw, e⟩
    obtain ⟨v0, g0, e0⟩ := hx 0
    obtain ⟨v1, g1, e1⟩ := hx 1
    obtain ⟨v2, g2, e2⟩ := hx 2
    refine ret_v (pe_rng3 (pe_var rfl) (pe_ixL (pe_var rfl) (pe_modI (pe_addI (pe_var rfl) (pe_var rfl)) pe_c (by decide)) e0) (pe_ixL (pe_var rfl) (pe_modI (pe_addI (pe_var rfl) (pe_var rfl)) pe_c (by decide)) e1) (pe_ixL (pe_var rfl) (pe_modI (pe_addI (pe_var rfl) (pe_var rfl)) pe_c (by decide)) e2)) ?_
    refine q [v0, v1, v2] μ3 rfl (fun w hw => ?_) (d3.le (by omega)) k3
    simp only [List.mem_cons, List.not_mem_nil, or_false] at hw
    rcases hw with rfl | rfl | rfl
    · exact words_len _ g0
    · exact words_len _ g1
    · exact words_len _ g2
  refine seq_ (call_ (pa_cons (pe_var rfl) (pa_cons pe_c pa_nil)) rfl ⟨a, c, m + 1, 8, rfl, by decide, by decide, d3, fun at_ μ4 a0 a1 d4 on4 => ?_⟩)
  have k4 : KpD a c μ μ4 := k3.trans (KpD.only on4)
  obtain ⟨ch, hch, ech⟩ := atI_nat (xs := S.cps.toList) (r := at_) a0 (by rw [hst, hcl]; exact a1)
  have hch' : ch ∈ abcL := hcs ch (hst ▸ hch)
  obtain ⟨i, rs, eo, hi⟩ := occ hch'
  refine seq_asg (y := .int (i : Nat)) (fun P q => pe_var (y := .str abc) rfl _ (pe_ixS (pe_var rfl) (pe_var rfl) hSs ech _ ⟨i, rs, eo, q⟩)) ?_
  have hx : ∀ n : Int, ∃ c : Nat, atI abc.cps.toList ((((i : Nat) : Int) + n) % 26) = some c := fun n => by
    obtain ⟨x, _, e⟩ := atI_nat (xs := abc.cps.toList) (r := (((i : Nat) : Int) + n) % 26) (Int.emod_nonneg _ (by decide)) (by rw [abc_eq]; show _ < (26 : Int); exact Int.emod_lt_of_pos _ (by decide))
    exact ⟨x, e⟩
  obtain ⟨c0, e0⟩ := hx 0
  obtain ⟨c1, e1⟩ := hx 1
  obtain ⟨c2, e2⟩ := hx 2
  have hab : abc.length ≤ sizeLine := by rw [abc_eq']; exact sl (Nat.le_of_ble_eq_true rfl)
  have hcu := fun lo hi => len_cut S lo hi
  have b1 : ∀ c : Nat, (cutS S none (some at_)).length + (⟨#[c]⟩ : Str).length ≤ 1000 := fun c => by
    have := hcu none (some at_)
    show _ + 1 ≤ 1000
    omega
  have b2 : ∀ c : Nat, (cutS S none (some at_) ++ (⟨#[c]⟩ : Str)).length + (cutS S (some (at_ + 1)) none).length ≤ 1000 := fun c => by
    have h1 := hcu none (some at_)
    have h2 := hcu (some (at_ + 1)) none
    rw [Str.length_append]
    show _ + 1 + _ ≤ 1000
    omega
  refine ret_v (pe_rng3 (pe_var rfl)
    (pe_cat (pe_cat (pe_cutTo (pe_var rfl) (pe_var rfl) hSs) (pe_ixS (s := abc) (pe_var rfl) (pe_modI (pe_addI (pe_var rfl) (pe_var rfl)) pe_c (by decide)) hab e0) (sl (Nat.le_trans (b1 c0) (by decide)))) (pe_cutFrom (pe_var rfl) (pe_addI (pe_var rfl) pe_c) hSs) (sl (Nat.le_trans (b2 c0) (by decide))))
    (pe_cat (pe_cat (pe_cutTo (pe_var rfl) (pe_var rfl) hSs) (pe_ixS (s := abc) (pe_var rfl) (pe_modI (pe_addI (pe_var rfl) (pe_var rfl)) pe_c (by decide)) hab e1) (sl (Nat.le_trans (b1 c1) (by decide)))) (pe_cutFrom (pe_var rfl) (pe_addI (pe_var rfl) pe_c) hSs) (sl (Nat.le_trans (b2 c1) (by decide))))
    (pe_cat (pe_cat (pe_cutTo (pe_var rfl) (pe_var rfl) hSs) (pe_ixS (s := abc) (pe_var rfl) (pe_modI (pe_addI (pe_var rfl) (pe_var rfl)) pe_c (by decide)) hab e2) (sl (Nat.le_trans (b1 c2) (by decide)))) (pe_cutFrom (pe_var rfl) (pe_addI (pe_var rfl) pe_c) hSs) (sl (Nat.le_trans (b2 c2) (by decide))))) ?_
  refine q [cutS S none (some at_) ++ (⟨#[c0]⟩ : Str) ++ cutS S (some (at_ + 1)) none, cutS S none (some at_) ++ (⟨#[c1]⟩ : Str) ++ cutS S (some (at_ + 1)) none, cutS S none (some at_) ++ (⟨#[c2]⟩ : Str) ++ cutS S (some (at_ + 1)) none] μ4 rfl (fun w hw => ?_) (d4.le (by omega)) k4
  simp only [List.mem_cons, List.not_mem_nil, or_false] at hw
  rcases hw with rfl | rfl | rfl
  · rw [Str.length_append]; exact b2 c0
  · rw [Str.length_append]; exact b2 c1
  · rw [Str.length_append]; exact b2 c2
end K11

set_option Elab.async false
set_option linter.all false
set_option maxRecDepth 100000
set_option maxHeartbeats 1000000
/-! K11b: the law. -/
namespace K11
open PySem L2 Dz

section
variable {ρ : Rho} {μ : Mh} {x y z u : DV} {wa wb wc we : WE} {wr : WA} {i j : Nat} {E : DEnds} {rest su : WS} {C a p : Addr} {P : DV → Mh → Prop} {e : WE} {g : WG} {bd : WS}
theorem ifs_not (h : wa ρ μ fun d μ1 => tru d (E.rt (.bool false) μ1) (E.nx ρ μ1)) : wIfS (wNotT (wTest wa)) (wRet (wC (.bool false))) wNext E ρ μ := notT_tru (E := E) (k := fun μ1 => E.nx ρ μ1) h True
theorem lst_ (k : wr ρ μ fun ds μ1 => ds.length ≤ sizeLine ∧ P (.lst ds) μ1) : wLst wr ρ μ P := k
theorem seq_forR {n : Nat} (hn : n ≤ 1000) (k : forW g bd { E with nx := rest E } (rngD 0 n) ρ μ) : wSeq (wFor (sRng1 (wC (.int (n : Nat)))) g bd) rest E ρ μ := ⟨by omega, by omega, by
  rw [Int.toNat_natCast]
  exact k⟩
theorem lc_rngW {vl : List Nat} {t : WT} (k : wa ρ μ fun d μ1 => match d with | .int j => j < 2 ^ 62 ∧ -(2 ^ 62) ≤ j ∧ compW g t e (wipeD ρ vl) (rngD 0 j.toNat) [] μ1 fun acc μ2 => P (.lst acc) μ2 | _ => False) : wLc (sRng1 wa) g t e vl ρ μ P := by
  have e0 : (fun (d : DV) (μ1 : Mh) => (match d with | .int j => j < 2 ^ 62 ∧ -(2 ^ 62) ≤ j ∧ compW g t e (wipeD ρ vl) (rngD 0 j.toNat) [] μ1 fun acc μ2 => P (.lst acc) μ2 | _ => False : Prop)) = fun d μ1 => (match d with | .int j => j < 2 ^ 62 ∧ -(2 ^ 62) ≤ j ∧ (fun (xs : List DV) (μ1 : Mh) => compW g t e (wipeD ρ vl) xs [] μ1 fun acc μ2 => P (.lst acc) μ2) (rngD 0 j.toNat) μ1 | _ => False) := by
    funext d μ1
    cases d <;> rfl
  rw [e0] at k
  exact k
end
theorem vals_of : ∀ {l : List DV}, (∀ x ∈ l, ∃ v : Vl, v.Ok ∧ x = v.d) → ∃ vs : List Vl, l = vs.map Vl.d ∧ ∀ v ∈ vs, v.Ok
  | [], _ => ⟨[], rfl, fun v h => by cases h⟩
  | x :: xs, h => by
    obtain ⟨v, ov, e⟩ := h x List.mem_cons_self
    obtain ⟨vs, e2, h2⟩ := vals_of fun z hz => h z (List.mem_cons_of_mem _ hz)
    refine ⟨v :: vs, by rw [e, e2]; rfl, fun w hw => ?_⟩
    rcases List.mem_cons.mp hw with hw | hw
    · rw [hw]; exact ov
    · exact h2 w hw
/-- a list of values to pick from -/
def SomeL (x : DV) : Prop := ∃ vs : List Vl, x = .lst (vs.map Vl.d) ∧ (∀ v ∈ vs, v.Ok) ∧ 0 < vs.length ∧ vs.length ≤ 30
def LotL (x : DV) : Prop := ∃ vs : List Vl, x = .lst (vs.map Vl.d) ∧ (∀ v ∈ vs, v.Ok) ∧ vs.length ≤ 7
def wfLaw : WF := fun ds μ Q => ∃ ns : List Int, ds = [.fix (ns.map .int)] ∧ ∀ μ', Q (.bool true) μ'
theorem p_law {C : Addr} (ds : List DV) (μ : Mh) (Q : DV → Mh → Prop) (hl : ds.length = 1) (h : wfLaw ds μ Q) :
    w_law_main (wfDeck "mixed") wfNames (wfFacts C 2) (wfDraw "mixed") (wfSums C) (wfAsk C) (wfPick "mixed") wfDue { nx := fun _ μ' => Q .none μ', rt := Q } (ds.map some ++ List.replicate 8 none) μ := by
  obtain ⟨ns, rfl, q⟩ := h
  unfold w_law_main
  refine seq_ (call_ (pa_cons (pe_var rfl) pa_nil) rfl ⟨ns, rfl, fun a c μ1 _ _ d1 _ => ?_⟩)
  refine seq_ (call_ (pa_cons (pe_var rfl) (pa_cons pe_c pa_nil)) rfl ⟨a, c, 2 ^ 40 - 12, rfl, d1.le (by decide), fun ws μ2 hw3 hws d2 _ => ?_⟩)
  clear d1
  let I : Nat → Rho → Mh → Prop := fun k ρ μ' => (∃ x3 x4 x5 x6 x7 x8 : Option DV, ρ = [some (.fix (ns.map .int)), some (.obj a), some (.lst (ws.map .str)), x3, x4, x5, x6, x7, x8]) ∧ Dk μ' a c (k * 100)
  refine seq_forR (n := 6) (by decide) (for_rule (I := I) (n := 0) _ _ _ (fun x hx k ρ μ3 F hi hrt hbk hnx _ => ?_) ⟨⟨_, _, _, _, _, _, rfl⟩, d2.le (by rw [rngD_len]; decide)⟩ ?_)
  rotate_left
  · rintro ρ' μ3 ⟨⟨x3, x4, x5, x6, x7, x8, rfl⟩, _⟩
    exact q _
  obtain ⟨⟨x3, x4, x5, x6, x7, x8, rfl⟩, d3⟩ := hi
  rw [Nat.succ_mul] at d3
  clear d2
  -- the values
  have okw : ∀ v ∈ ws.map Vl.str, v.Ok := fun v hv => by
    obtain ⟨w, hw, rfl⟩ := List.mem_map.mp hv
    exact hws w hw
  have eb : [DV.none, .int 0, .int 1, .int (0 - 1), .int (10 ^ (12 : Int).toNat), .int (0 - 10 ^ (12 : Int).toNat)] = [Vl.non, .int 0, .int 1, .int (0 - 1), .int (10 ^ (12 : Int).toNat), .int (0 - 10 ^ (12 : Int).toNat)].map Vl.d := rfl
  have e12 : (10 : Int) ^ (12 : Int).toNat = 1000000000000 := by decide +kernel
  refine seq_asg (y := .lst [DV.none, .int 0, .int 1, .int (0 - 1), .int (10 ^ (12 : Int).toNat), .int (0 - 10 ^ (12 : Int).toNat)]) (pe_lst (pa_cons pe_c (pa_cons pe_c (pa_cons pe_c (pa_cons (pe_bin pe_c pe_c fun P q => q) (pa_cons pe_ten (pa_cons (pe_bin pe_c pe_ten fun P q => q) pa_nil)))))) (sl (Nat.le_of_ble_eq_true rfl))) ?_
  refine seq_ (bin_ (bin_r (pe_var rfl) (lst_ (cons_ (bin_ (call_ (pa_cons (pe_var rfl) (pa_cons pe_c pa_nil)) rfl ⟨a, c, k * 100 + 99, 100, rfl, by decide, by decide, d3, fun r1 μ4 r10 r11 d4 _ => ?_⟩))))))
  dsimp only [wC, wSub]
  refine cons_ (call_ (pa_cons (pe_var rfl) (pa_cons pe_c pa_nil)) rfl ⟨a, c, k * 100 + 98, 1000, rfl, by decide, by decide, d4, fun r2 μ5 r20 r21 d5 _ => ?_⟩)
  refine ⟨sl (Nat.le_of_ble_eq_true rfl), sl (Nat.le_of_ble_eq_true rfl), ?_⟩
  show wVar 2 _ _ _
  refine pe_var (y := .lst (ws.map .str)) rfl _ ⟨sl (by rw [List.length_map, hw3]; exact Nat.le_of_ble_eq_true rfl), ?_⟩
  clear d3 d4
  have es : ([DV.none, .int 0, .int 1, .int (0 - 1), .int (10 ^ (12 : Int).toNat), .int (0 - 10 ^ (12 : Int).toNat)] ++ [.int (r1 - 50), .int r2]) ++ ws.map DV.str = ([Vl.non, .int 0, .int 1, .int (0 - 1), .int (10 ^ (12 : Int).toNat), .int (0 - 10 ^ (12 : Int).toNat), .int (r1 - 50), .int r2] ++ ws.map Vl.str).map Vl.d := by
    rw [List.map_append, List.map_map]
    rfl
  have okb : ∀ v ∈ [Vl.non, .int 0, .int 1, .int (0 - 1), .int (10 ^ (12 : Int).toNat), .int (0 - 10 ^ (12 : Int).toNat), .int (r1 - 50), .int r2], v.Ok := fun v hv => by
    rw [e12] at hv
    simp only [List.mem_cons, List.not_mem_nil, or_false] at hv
    rcases hv with rfl | rfl | rfl | rfl | rfl | rfl | rfl | rfl
    · trivial
    all_goals (show _ ≤ _ ∧ _ ≤ _; omega)
  have sm1 : SomeL (.lst (([DV.none, .int 0, .int 1, .int (0 - 1), .int (10 ^ (12 : Int).toNat), .int (0 - 10 ^ (12 : Int).toNat)] ++ [.int (r1 - 50), .int r2]) ++ ws.map DV.str)) := ⟨_, congrArg DV.lst es, fun v hv => (List.mem_append.mp hv).elim (okb v) (okw v), by simp, by simp; omega⟩
  have sm2 : SomeL (.lst ([DV.none] ++ ws.map DV.str)) := ⟨.non :: ws.map Vl.str, by rw [List.map_cons, List.map_map]; rfl, fun v hv => by
    rcases List.mem_cons.mp hv with hv | hv
    · rw [hv]; trivial
    · exact okw v hv, by simp, by simp; omega⟩
  generalize hL : (([DV.none, .int 0, .int 1, .int (0 - 1), .int (10 ^ (12 : Int).toNat), .int (0 - 10 ^ (12 : Int).toNat)] ++ [.int (r1 - 50), .int r2]) ++ ws.map DV.str) = L at sm1 ⊢
  have hLl : L.length = 11 := by rw [← hL, List.length_append, List.length_map, hw3]; rfl
  have sm3 : SomeL (.lst (cutD L (some 1) (some 8))) := by
    obtain ⟨vs, ev, okv, h0, h30⟩ := sm1
    injection ev with ev
    have hc : (cutD L (some 1) (some 8)).length = 7 := by
      have e1 : HT.sIx L.length 0 (some 1) = 1 := by rw [hLl]; rfl
      have e2 : HT.sIx L.length L.length (some 8) = 8 := by rw [hLl]; rfl
      unfold cutD
      rw [e1, e2, List.length_take, List.length_drop, hLl]
      decide
    obtain ⟨us, eu, oku⟩ := vals_of (l := cutD L (some 1) (some 8)) fun x hx => by
      have hx2 : x ∈ L := List.mem_of_mem_drop (List.mem_of_mem_take hx)
      rw [ev] at hx2
      obtain ⟨v, hv, rfl⟩ := List.mem_map.mp hx2
      exact ⟨v, okv v hv, rfl⟩
    have hul : us.length = 7 := by rw [← hc, eu, List.length_map]
    exact ⟨us, by rw [eu], oku, by omega, by omega⟩
  refine seq_ (bin_r (x := .lst [.lst L, .lst L, .lst ([DV.none] ++ ws.map DV.str), .lst (cutD L (some 1) (some 8))]) (pe_lst (pa_cons (pe_var rfl) (pa_cons (pe_var rfl) (pa_cons (pe_catL (pe_lst (pa_cons pe_c pa_nil) (sl (Nat.le_of_ble_eq_true rfl))) (pe_var rfl) (sl (by rw [List.length_map, hw3]; decide))) (pa_cons (fun P q => q) pa_nil)))) (sl (Nat.le_of_ble_eq_true rfl))) (call_ (pa_cons (pe_var rfl) (pa_cons pe_c pa_nil)) rfl ⟨a, c, k * 100 + 97, 4, rfl, by decide, by decide, d5, fun r3 μ6 r30 r31 d6 _ => ?_⟩))
  obtain ⟨X, hX, eX⟩ := atI_nat (xs := [DV.lst L, .lst L, .lst ([DV.none] ++ ws.map DV.str), .lst (cutD L (some 1) (some 8))]) (r := r3) r30 r31
  have smX : SomeL X := by
    simp only [List.mem_cons, List.not_mem_nil, or_false] at hX
    rcases hX with rfl | rfl | rfl | rfl
    · exact sm1
    · exact sm1
    · exact sm2
    · exact sm3
  show atW (atI [DV.lst L, .lst L, .lst ([DV.none] ++ ws.map DV.str), .lst (cutD L (some 1) (some 8))] r3) _
  rw [eX]
  clear eX hX sm1 sm2 sm3 d5
  obtain ⟨vs, rfl, okv, v0, v30⟩ := smX
  -- the lots
  refine seq_ (lc_rng (n := 3) (by decide) (comp_all (G := LotL) (I := fun j μ' => Dk μ' a c (k * 100 + 20 + j * 20)) (n := 0) _ [] μ6 _ (fun x hx μ7 j P hi hy => ?_) (by rw [rngD_len]; exact sl (Nat.le_of_ble_eq_true rfl)) (fun y hy => by cases hy) (d6.le (by rw [rngD_len]; omega)) fun zs μ7 hz hzl d7 => ?_))
  · rw [Nat.succ_mul, ← Nat.add_assoc] at hi
    refine lc_rngW (call_ (pa_cons (pe_var rfl) (pa_cons pe_c pa_nil)) rfl ⟨a, c, k * 100 + 20 + j * 20 + 19, 7, rfl, by decide, by decide, hi, fun r μ8 r0 r1 d8 _ => ⟨by omega, by omega, ?_⟩⟩)
    refine comp_all (G := fun z => ∃ v : Vl, v.Ok ∧ z = v.d) (I := fun i μ' => Dk μ' a c (k * 100 + 20 + j * 20 + i)) (n := 0) _ [] μ8 _ (fun x2 hx2 μ9 i P2 hi2 hy2 => ?_) (by rw [rngD_len]; exact sl (by simp; omega)) (fun y hy => by cases hy) (d8.le (by rw [rngD_len]; omega)) fun z2 μ9 hz2 hzl2 d9 => ?_
    · refine call_ (ys := [.obj a, .lst (vs.map Vl.d)]) (pa_cons (pe_var rfl) (pa_cons (pe_var rfl) pa_nil)) rfl ⟨a, c, k * 100 + 20 + j * 20 + i, .lst (vs.map Vl.d), rfl, by show 0 < (vs.map Vl.d).length; rw [List.length_map]; exact v0, by show (vs.map Vl.d).length ≤ _; rw [List.length_map]; exact sl (by omega), hi2, fun z μ10 hz d10 _ => hy2 z μ10 ?_ d10⟩
      obtain ⟨v, hv, rfl⟩ := List.mem_map.mp (show z ∈ vs.map Vl.d from hz)
      exact ⟨v, okv v hv, rfl⟩
    · obtain ⟨us, rfl, oku⟩ := vals_of hz2
      refine hy _ _ ⟨us, rfl, oku, ?_⟩ d9
      rw [List.length_map, rngD_len] at hzl2
      simp only [List.length_nil, Nat.zero_add] at hzl2
      omega
  rw [rngD_len] at hzl
  match zs, hzl with
  | [y0, y1, y2], _ =>
  obtain ⟨l0, rfl, ok0, n0⟩ := hz y0 (by simp)
  obtain ⟨l1, rfl, ok1, n1⟩ := hz y1 (by simp)
  obtain ⟨l2, rfl, ok2, n2⟩ := hz y2 (by simp)
  refine seq_not (call_ (pa_cons (pe_var rfl) (pa_cons (pe_var rfl) (pa_cons (pe_var rfl) pa_nil))) rfl ⟨a, c, k * 100 + 10, l0, l1, l2, ws, rfl, ok0, ok1, ok2, n0, n1, n2, d7.le (by omega), by omega, fun μ8 d8 _ => tru_ok ?_⟩)
  refine seq_ (call_ (pa_cons (pe_ixL (pe_var rfl) pe_c rfl) pa_nil) rfl ⟨l0, rfl, ok0, by omega, by omega, fun z μ9 k9 iz => ?_⟩)
  have d9 : Dk μ9 a c (k * 100 + 10) := Dk.kept d8 k9
  refine ifs_not (call_ (ys := [.obj a, z, .tup (fiveD l0), .lst (ws.map .str)]) (pa_cons (pe_var rfl) (pa_cons (pe_var rfl) (pa_cons (pe_call (pa_cons (pe_ixL (pe_var rfl) pe_c rfl) pa_nil) rfl fun P q => ⟨l0, rfl, by omega, q⟩) (pa_cons (pe_var rfl) pa_nil)))) rfl ⟨a, c, k * 100, z, l0, ws, rfl, d9.le (by omega), iz, by omega, fun μ10 d10 _ => tru_ok ?_⟩)
  exact hnx _ _ ⟨⟨_, _, _, _, _, _, rfl⟩, d10⟩
end K11

set_option Elab.async false
set_option linter.all false
set_option maxRecDepth 100000
set_option maxHeartbeats 400000
/-! K11v: the derivations (printed by gen.py). -/
namespace K11
open PySem L2 Dz

def top (i : Nat) : Stmt := PySem.Challenge.pw_failsalike_k11_facts_added_and_asked.main.body.getD i (.Pass ⟨0, 0, 0, 0⟩)
abbrev s_is_name : Stmt := top 4
abbrev s_is_value : Stmt := top 5
abbrev s_is_number : Stmt := top 7
abbrev s_numbers_text : Stmt := top 8
abbrev s_Facts_init : Stmt := inClass (top 9) 0
abbrev s_Facts_add : Stmt := inClass (top 9) 1
abbrev s_Facts_contains : Stmt := inClass (top 9) 2
abbrev s_Facts_eq : Stmt := inClass (top 9) 3
abbrev s_five_of : Stmt := top 10
abbrev s_law_deck : Stmt := top 12
abbrev s_law_draw : Stmt := top 13
abbrev s_law_pick : Stmt := top 14
abbrev s_law_names : Stmt := top 15
abbrev s_law_facts : Stmt := top 16
abbrev s_law_due : Stmt := top 17
abbrev s_law_text : Stmt := top 18
abbrev s_law_told : Stmt := top 19
abbrev s_law_probes : Stmt := top 20
abbrev s_law_is_in : Stmt := top 21
abbrev s_law_asked_right : Stmt := top 22
abbrev s_law_sums_right : Stmt := top 23
abbrev s_law_main : Stmt := top 24
abbrev N_is_name : List Str := ["thing", "letter"]
theorem sc_is_name : FnScope N_is_name ["thing"] (defScope s_is_name) := ⟨rfl, rfl, rfl, by decide +kernel, rfl, by decide +kernel, by decide +kernel⟩
abbrev N_is_value : List Str := ["thing"]
theorem sc_is_value : FnScope N_is_value ["thing"] (defScope s_is_value) := ⟨rfl, rfl, rfl, by decide +kernel, rfl, by decide +kernel, by decide +kernel⟩
abbrev N_is_number : List Str := ["thing"]
theorem sc_is_number : FnScope N_is_number ["thing"] (defScope s_is_number) := ⟨rfl, rfl, rfl, by decide +kernel, rfl, by decide +kernel, by decide +kernel⟩
abbrev N_numbers_text : List Str := ["figures"]
theorem sc_numbers_text : FnScope N_numbers_text ["figures"] (defScope s_numbers_text) := ⟨rfl, rfl, rfl, by decide +kernel, rfl, by decide +kernel, by decide +kernel⟩
abbrev N_Facts_init : List Str := ["self", "values", "figures", "value"]
theorem sc_Facts_init : FnScope N_Facts_init ["self", "values"] (defScope s_Facts_init) := ⟨rfl, rfl, rfl, by decide +kernel, rfl, by decide +kernel, by decide +kernel⟩
abbrev N_Facts_add : List Str := ["self", "other", "both"]
theorem sc_Facts_add : FnScope N_Facts_add ["self", "other"] (defScope s_Facts_add) := ⟨rfl, rfl, rfl, by decide +kernel, rfl, by decide +kernel, by decide +kernel⟩
abbrev N_Facts_contains : List Str := ["self", "value"]
theorem sc_Facts_contains : FnScope N_Facts_contains ["self", "value"] (defScope s_Facts_contains) := ⟨rfl, rfl, rfl, by decide +kernel, rfl, by decide +kernel, by decide +kernel⟩
abbrev N_Facts_eq : List Str := ["self", "other"]
theorem sc_Facts_eq : FnScope N_Facts_eq ["self", "other"] (defScope s_Facts_eq) := ⟨rfl, rfl, rfl, by decide +kernel, rfl, by decide +kernel, by decide +kernel⟩
abbrev N_five_of : List Str := ["facts"]
theorem sc_five_of : FnScope N_five_of ["facts"] (defScope s_five_of) := ⟨rfl, rfl, rfl, by decide +kernel, rfl, by decide +kernel, by decide +kernel⟩
abbrev N_law_deck : List Str := ["_law_script", "_law_cells", "_law_mixed", "_law_cell"]
theorem sc_law_deck : FnScope N_law_deck ["_law_script"] (defScope s_law_deck) := ⟨rfl, rfl, rfl, by decide +kernel, rfl, by decide +kernel, by decide +kernel⟩
abbrev N_law_draw : List Str := ["_law_deck_here", "_law_count", "_law_cell", "_law_turn", "_law_blend"]
theorem sc_law_draw : FnScope N_law_draw ["_law_deck_here", "_law_count"] (defScope s_law_draw) := ⟨rfl, rfl, rfl, by decide +kernel, rfl, by decide +kernel, by decide +kernel⟩
abbrev N_law_pick : List Str := ["_law_deck_here", "_law_some"]
theorem sc_law_pick : FnScope N_law_pick ["_law_deck_here", "_law_some"] (defScope s_law_pick) := ⟨rfl, rfl, rfl, by decide +kernel, rfl, by decide +kernel, by decide +kernel⟩
abbrev N_law_names : List Str := ["_law_deck_here", "_law_count", "_law_letters", "_law_way", "_law_stem", "_law_first", "_law_k", "_law_words", "_law_at", "_law_start"]
theorem sc_law_names : FnScope N_law_names ["_law_deck_here", "_law_count"] (defScope s_law_names) := ⟨rfl, rfl, rfl, by decide +kernel, rfl, by decide +kernel, by decide +kernel⟩
abbrev N_law_facts : List Str := ["_law_some"]
theorem sc_law_facts : FnScope N_law_facts ["_law_some"] (defScope s_law_facts) := ⟨rfl, rfl, rfl, by decide +kernel, rfl, by decide +kernel, by decide +kernel⟩
abbrev N_law_due : List Str := ["_law_some", "_law_figures", "_law_one", "_law_texts", "_law_ends"]
theorem sc_law_due : FnScope N_law_due ["_law_some"] (defScope s_law_due) := ⟨rfl, rfl, rfl, by decide +kernel, rfl, by decide +kernel, by decide +kernel⟩
abbrev N_law_text : List Str := ["_law_due_here", "_law_middle"]
theorem sc_law_text : FnScope N_law_text ["_law_due_here"] (defScope s_law_text) := ⟨rfl, rfl, rfl, by decide +kernel, rfl, by decide +kernel, by decide +kernel⟩
abbrev N_law_told : List Str := ["_law_facts_here"]
theorem sc_law_told : FnScope N_law_told ["_law_facts_here"] (defScope s_law_told) := ⟨rfl, rfl, rfl, by decide +kernel, rfl, by decide +kernel, by decide +kernel⟩
abbrev N_law_probes : List Str := ["_law_deck_here", "_law_due_here", "_law_words", "_law_near", "_law_end"]
theorem sc_law_probes : FnScope N_law_probes ["_law_deck_here", "_law_due_here", "_law_words"] (defScope s_law_probes) := ⟨rfl, rfl, rfl, by decide +kernel, rfl, by decide +kernel, by decide +kernel⟩
abbrev N_law_is_in : List Str := ["_law_due_here", "_law_probe"]
theorem sc_law_is_in : FnScope N_law_is_in ["_law_due_here", "_law_probe"] (defScope s_law_is_in) := ⟨rfl, rfl, rfl, by decide +kernel, rfl, by decide +kernel, by decide +kernel⟩
abbrev N_law_asked_right : List Str := ["_law_deck_here", "_law_facts_here", "_law_due_here", "_law_words", "_law_probe", "_law_is_within"]
theorem sc_law_asked_right : FnScope N_law_asked_right ["_law_deck_here", "_law_facts_here", "_law_due_here", "_law_words"] (defScope s_law_asked_right) := ⟨rfl, rfl, rfl, by decide +kernel, rfl, by decide +kernel, by decide +kernel⟩
abbrev N_law_sums_right : List Str := ["_law_deck_here", "_law_lots", "_law_words", "_law_one", "_law_other", "_law_third", "_law_some", "_law_before", "_law_facts_here", "_law_both", "_law_due_here", "_law_whole"]
theorem sc_law_sums_right : FnScope N_law_sums_right ["_law_deck_here", "_law_lots", "_law_words"] (defScope s_law_sums_right) := ⟨rfl, rfl, rfl, by decide +kernel, rfl, by decide +kernel, by decide +kernel⟩
abbrev N_law_main : List Str := ["_law_script", "_law_deck_here", "_law_words", "_law_turn", "_law_some", "_law_lots", "_law_one", "_law_again", "_law_k"]
theorem sc_law_main : FnScope N_law_main ["_law_script"] (defScope s_law_main) := ⟨rfl, rfl, rfl, by decide +kernel, rfl, by decide +kernel, by decide +kernel⟩
structure Tops (K : PySem.W.Frag) (mg : Str → Option Value) (base : Heap) (C_Facts : Addr) : Prop where
  cl_Facts : Cls K C_Facts
  is_Facts : IsiC K C_Facts
  sf_Facts : PySem.W.selfFirst K C_Facts = true
  mg_Facts : mg "Facts" = some (.ref C_Facts)
  na_Facts_facts_of : NoAttr K C_Facts "facts_of"
  na_Facts_greatest : NoAttr K C_Facts "greatest"
  na_Facts_least : NoAttr K C_Facts "least"
  na_Facts_nothings : NoAttr K C_Facts "nothings"
  na_Facts_numbers : NoAttr K C_Facts "numbers"
  na_Facts_text : NoAttr K C_Facts "text"
  na_Facts_words : NoAttr K C_Facts "words"
  a_is_name : At1 K mg "is_name" s_is_name
  a_is_value : At1 K mg "is_value" s_is_value
  a_is_number : At1 K mg "is_number" s_is_number
  a_numbers_text : At1 K mg "numbers_text" s_numbers_text
  ak_Facts_init : AtK K mg "Facts" C_Facts "Facts.__init__" s_Facts_init
  am_Facts_add : AtM K C_Facts "__add__" "Facts.__add__" s_Facts_add
  am_Facts_contains : AtM K C_Facts "__contains__" "Facts.__contains__" s_Facts_contains
  am_Facts_eq : AtM K C_Facts "__eq__" "Facts.__eq__" s_Facts_eq
  a_five_of : At1 K mg "five_of" s_five_of
  a_law_deck : At1 K mg "_law_deck" s_law_deck
  a_law_draw : At1 K mg "_law_draw" s_law_draw
  a_law_pick : At1 K mg "_law_pick" s_law_pick
  a_law_names : At1 K mg "_law_names" s_law_names
  a_law_facts : At1 K mg "_law_facts" s_law_facts
  a_law_due : At1 K mg "_law_due" s_law_due
  a_law_text : At1 K mg "_law_text" s_law_text
  a_law_told : At1 K mg "_law_told" s_law_told
  a_law_probes : At1 K mg "_law_probes" s_law_probes
  a_law_is_in : At1 K mg "_law_is_in" s_law_is_in
  a_law_asked_right : At1 K mg "_law_asked_right" s_law_asked_right
  a_law_sums_right : At1 K mg "_law_sums_right" s_law_sums_right
  a_law_main : At1 K mg "law" s_law_main
  b_all : mg "all" = none
  b_bool : mg "bool" = none
  b_int : mg "int" = none
  b_isinstance : mg "isinstance" = none
  b_len : mg "len" = none
  b_list : mg "list" = none
  b_max : mg "max" = none
  b_min : mg "min" = none
  b_range : mg "range" = none
  b_repr : mg "repr" = none
  b_str : mg "str" = none
  g_LETTERS : ∃ u, mg "LETTERS" = some u ∧ RelV (.str "abcdefghijklmnopqrstuvwxyz") u
  g_MOST_LETTERS : ∃ u, mg "MOST_LETTERS" = some u ∧ RelV (.int 8) u
  g_RANGE : ∃ u, mg "RANGE" = some u ∧ RelV (.int 1000000000000) u
  sm : ∃ o, base.get? sysModules = some o
theorem Tops.i_LETTERS {K : PySem.W.Frag} {mg : Str → Option Value} {base : Heap} {C_Facts : Addr} (_ : Tops K mg base C_Facts) : ∀ H, Is K H (.str "abcdefghijklmnopqrstuvwxyz") (.str "abcdefghijklmnopqrstuvwxyz") := fun _ => .str _
theorem Tops.i_MOST_LETTERS {K : PySem.W.Frag} {mg : Str → Option Value} {base : Heap} {C_Facts : Addr} (_ : Tops K mg base C_Facts) : ∀ H, Is K H (.int 8) (.int 8) := fun _ => .int _
theorem Tops.i_RANGE {K : PySem.W.Frag} {mg : Str → Option Value} {base : Heap} {C_Facts : Addr} (_ : Tops K mg base C_Facts) : ∀ H, Is K H (.int 1000000000000) (.int 1000000000000) := fun _ => .int _
section
variable {P : Program} {w0 : World} {K : PySem.W.Frag} {mg : Str → Option Value} {base : Heap} {C_Facts : Addr}
theorem dv_is_name (T : Tops K mg base C_Facts) (f : Addr) (cdv : Value) (A : Around) (outer : List Env) (s : Shared) (H : Hp) (E : XK) (hgd : A.guards = some []) (hr : Room 0 (A.deeper (PyProof.Rows.envOfC "is_name" (defScope s_is_name) s.heap.objs.size f cdv))) :
  PSs (cxOf CX0 P w0 K mg base N_is_name "is_name" (defScope s_is_name) f cdv A outer s H E).nox (defBody s_is_name) (tDS K (w_is_name)) :=
  (dss_cons (ds_if (PW.pt (dw_or (dt_not (dt_val (d_isi tyStr hf_str (by rfl) T.b_isinstance (by rfl) T.b_str boot_str (d_var 0)))) (dw_or1 (dt_not (dt_chain op_leD le_rd op_leD le_rd d_int (d_len (by rfl) T.b_len (d_var 0)) (d_glob (by rfl) T.g_MOST_LETTERS T.i_MOST_LETTERS)))))) (dss_one (ds_ret d_bl)) dss_nil)
    (dss_one (ds_ret (d_all (by rfl) T.b_all (d_lc (own := [("letter", 1)]) (di_str (d_var 0)) (blkOk_by (own := [("letter", 1)]) (N := N_is_name) (sc := defScope s_is_name) (by decide +kernel)) (fun _ _ _ _ _ => dg_name (i := 1) sc_is_name.nd rfl (Or.inl rfl)) (fun _ _ _ _ _ => dts_nil) (fun _ _ _ _ _ => (c_in hr (d_var 1) (d_glob (by rfl) T.g_LETTERS T.i_LETTERS) (by rfl))) sc_is_name.nd)))))
theorem dv_is_value (T : Tops K mg base C_Facts) {f_is_name : WF} (D_is_name : Def P w0 K mg base 1 "is_name" s_is_name ["thing"] f_is_name) (f : Addr) (cdv : Value) (A : Around) (outer : List Env) (s : Shared) (H : Hp) (E : XK) (hgd : A.guards = some []) (hr : Room 1 (A.deeper (PyProof.Rows.envOfC "is_value" (defScope s_is_value) s.heap.objs.size f cdv))) :
  PSs (cxOf CX0 P w0 K mg base N_is_value "is_value" (defScope s_is_value) f cdv A outer s H E).nox (defBody s_is_value) (tDS K (w_is_value f_is_name)) :=
  (dss_cons (ds_if (t_is (d_var 0) d_non) (dss_one (ds_ret d_bl)) dss_nil)
    (dss_cons (ds_if (PW.pt (dw_or (dt_val (d_isi tyBool hf_bool (by rfl) T.b_isinstance (by rfl) T.b_bool boot_bool (d_var 0))) (dw_or1 (dt_not (dt_val (d_isi tyInt hf_int (by rfl) T.b_isinstance (by rfl) T.b_int boot_int (d_var 0))))))) (dss_one (ds_ret (d_f D_is_name hgd hr (by decide) (by rfl) (fun _ _ _ _ _ _ us hl => match us, hl with | [_], _ => rfl) (da_cons (d_var 0) da_nil)))) dss_nil)
    (dss_one (ds_ret (d_chain op_leD le_rd op_leD le_rd (d_neg (d_glob (by rfl) T.g_RANGE T.i_RANGE)) (d_var 0) (d_glob (by rfl) T.g_RANGE T.i_RANGE))))))
theorem dv_is_number (T : Tops K mg base C_Facts) {f_is_value : WF} (D_is_value : Def P w0 K mg base 2 "is_value" s_is_value ["thing"] f_is_value) (f : Addr) (cdv : Value) (A : Around) (outer : List Env) (s : Shared) (H : Hp) (E : XK) (hgd : A.guards = some []) (hr : Room 2 (A.deeper (PyProof.Rows.envOfC "is_number" (defScope s_is_number) s.heap.objs.size f cdv))) :
  PSs (cxOf CX0 P w0 K mg base N_is_number "is_number" (defScope s_is_number) f cdv A outer s H E).nox (defBody s_is_number) (tDS K (w_is_number f_is_value)) :=
  (dss_one (ds_ret (d_and (d_f D_is_value hgd hr (by decide) (by rfl) (fun _ _ _ _ _ _ us hl => match us, hl with | [_], _ => rfl) (da_cons (d_var 0) da_nil)) (d_one (d_isi tyInt hf_int (by rfl) T.b_isinstance (by rfl) T.b_int boot_int (d_var 0))))))
theorem dv_numbers_text (T : Tops K mg base C_Facts) (f : Addr) (cdv : Value) (A : Around) (outer : List Env) (s : Shared) (H : Hp) (E : XK) (hgd : A.guards = some []) (hr : Room 0 (A.deeper (PyProof.Rows.envOfC "numbers_text" (defScope s_numbers_text) s.heap.objs.size f cdv))) :
  PSs (cxOf CX0 P w0 K mg base N_numbers_text "numbers_text" (defScope s_numbers_text) f cdv A outer s H E).nox (defBody s_numbers_text) (tDS K (w_numbers_text)) :=
  (dss_cons (ds_if (t_eq hr (d_var 0) (d_lst da_nil)) (dss_one (ds_ret d_str)) dss_nil)
    (dss_one (ds_ret (d_fstr (pjs_cons (d_fmt (d_len (by rfl) T.b_len (d_var 0))) (pjs_cons d_str (pjs_cons (d_fmt (d_minL (by rfl) T.b_min (d_var 0))) (pjs_cons d_str (pjs_cons (d_fmt (d_maxL (by rfl) T.b_max (d_var 0))) pjs_nil)))))))))
theorem dv_Facts_init (T : Tops K mg base C_Facts) {f_is_number : WF} (D_is_number : Def P w0 K mg base 3 "is_number" s_is_number ["thing"] f_is_number) {f_numbers_text : WF} (D_numbers_text : Def P w0 K mg base 1 "numbers_text" s_numbers_text ["figures"] f_numbers_text) (f : Addr) (cdv : Value) (A : Around) (outer : List Env) (s : Shared) (H : Hp) (E : XK) (hgd : A.guards = some []) (hr : Room 3 (A.deeper (PyProof.Rows.envOfC "Facts.__init__" (defScope s_Facts_init) s.heap.objs.size f cdv))) :
  PSs (cxOf CX0 P w0 K mg base N_Facts_init "Facts.__init__" (defScope s_Facts_init) f cdv A outer s H E).nox (defBody s_Facts_init) (tDS K (w_Facts_init C_Facts f_is_number f_numbers_text)) :=
  (dss_cons (ds_setLc (own := [("value", 3)]) (i := 2) rfl rfl (sw_true rfl rfl rfl (by decide +kernel)) (di_tup (d_var 1)) (blkOk_by (own := [("value", 3)]) (N := N_Facts_init) (sc := defScope s_Facts_init) (by decide +kernel)) (fun _ _ _ _ _ => dg_name (i := 3) sc_Facts_init.nd rfl (Or.inl rfl)) (fun _ _ _ _ _ => (dts_one (dt_val (d_f D_is_number hgd hr (by decide) (by rfl) (fun _ _ _ _ _ _ us hl => match us, hl with | [_], _ => rfl) (da_cons (d_var 3) da_nil))))) (fun _ _ _ _ _ => (d_var 3)) sc_Facts_init.nd)
    (dss_cons (ds_fld T.cl_Facts T.na_Facts_facts_of (d_var 0) (d_var 1))
    (dss_cons (ds_fld T.cl_Facts T.na_Facts_nothings (d_var 0) (d_len (by rfl) T.b_len (d_lc (own := [("value", 3)]) (di_tup (d_var 1)) (blkOk_by (own := [("value", 3)]) (N := N_Facts_init) (sc := defScope s_Facts_init) (by decide +kernel)) (fun _ _ _ _ _ => dg_name (i := 3) sc_Facts_init.nd rfl (Or.inl rfl)) (fun _ _ _ _ _ => (dts_one (t_is (d_var 3) d_non))) (fun _ _ _ _ _ => (d_var 3)) sc_Facts_init.nd)))
    (dss_cons (ds_fld T.cl_Facts T.na_Facts_numbers (d_var 0) (d_len (by rfl) T.b_len (d_var 2)))
    (dss_cons (ds_fld T.cl_Facts T.na_Facts_words (d_var 0) (d_sub (d_sub (d_len (by rfl) T.b_len (d_var 1)) (d_fld T.cl_Facts T.na_Facts_nothings (d_var 0))) (d_fld T.cl_Facts T.na_Facts_numbers (d_var 0))))
    (dss_cons (ds_fld T.cl_Facts T.na_Facts_least (d_var 0) (d_if (t_ne hr (d_var 2) (d_lst da_nil)) (d_minL (by rfl) T.b_min (d_var 2)) d_non))
    (dss_cons (ds_fld T.cl_Facts T.na_Facts_greatest (d_var 0) (d_if (t_ne hr (d_var 2) (d_lst da_nil)) (d_maxL (by rfl) T.b_max (d_var 2)) d_non))
    (dss_one (ds_fld T.cl_Facts T.na_Facts_text (d_var 0) (d_fstr (pjs_cons (d_fmt (d_fld T.cl_Facts T.na_Facts_nothings (d_var 0))) (pjs_cons d_str (pjs_cons (d_fmt (d_f D_numbers_text hgd hr (by decide) (by rfl) (fun _ _ _ _ _ _ us hl => match us, hl with | [_], _ => rfl) (da_cons (d_var 2) da_nil))) (pjs_cons d_str (pjs_cons (d_fmt (d_fld T.cl_Facts T.na_Facts_words (d_var 0))) (pjs_cons d_str pjs_nil))))))))))))))))
theorem dv_Facts_add (T : Tops K mg base C_Facts) {f_Facts_init : WF} (D_Facts_init : DefKS P w0 K mg base 4 "Facts" C_Facts "Facts.__init__" s_Facts_init f_Facts_init) (f : Addr) (cdv : Value) (A : Around) (outer : List Env) (s : Shared) (H : Hp) (E : XK) (hgd : A.guards = some []) (hr : Room 5 (A.deeper (PyProof.Rows.envOfC "Facts.__add__" (defScope s_Facts_add) s.heap.objs.size f cdv))) :
  PSs (cxOf CX0 P w0 K mg base N_Facts_add "Facts.__add__" (defScope s_Facts_add) f cdv A outer s H E).nox (defBody s_Facts_add) (tDS K (w_Facts_add C_Facts f_Facts_init)) :=
  (dss_cons (ds_set (i := 2) sc_Facts_add.nd rfl (Or.inl rfl) (d_add (d_fld T.cl_Facts T.na_Facts_facts_of (d_var 0)) (d_fld T.cl_Facts T.na_Facts_facts_of (d_var 1))))
    (dss_one (ds_ret (d_makeS1 D_Facts_init hgd hr (by decide) (by rfl) (d_var 2)))))
theorem dv_Facts_contains (T : Tops K mg base C_Facts) (f : Addr) (cdv : Value) (A : Around) (outer : List Env) (s : Shared) (H : Hp) (E : XK) (hgd : A.guards = some []) (hr : Room 0 (A.deeper (PyProof.Rows.envOfC "Facts.__contains__" (defScope s_Facts_contains) s.heap.objs.size f cdv))) :
  PSs (cxOf CX0 P w0 K mg base N_Facts_contains "Facts.__contains__" (defScope s_Facts_contains) f cdv A outer s H E).nox (defBody s_Facts_contains) (tDS K (w_Facts_contains C_Facts)) :=
  (dss_cons (ds_if (t_is (d_var 1) d_non) (dss_one (ds_ret (c_gt (d_fld T.cl_Facts T.na_Facts_nothings (d_var 0)) d_int))) dss_nil)
    (dss_cons (ds_if (dt_val (d_isi tyStr hf_str (by rfl) T.b_isinstance (by rfl) T.b_str boot_str (d_var 1))) (dss_one (ds_ret (c_gt (d_fld T.cl_Facts T.na_Facts_words (d_var 0)) d_int))) dss_nil)
    (dss_one (ds_ret (d_and (c_gt (d_fld T.cl_Facts T.na_Facts_numbers (d_var 0)) d_int) (d_one (d_chain op_leD le_rd op_leD le_rd (d_fld T.cl_Facts T.na_Facts_least (d_var 0)) (d_var 1) (d_fld T.cl_Facts T.na_Facts_greatest (d_var 0)))))))))
theorem dv_Facts_eq (T : Tops K mg base C_Facts) {f_five_of : WF} (D_five_of : Def P w0 K mg base 1 "five_of" s_five_of ["facts"] f_five_of) (f : Addr) (cdv : Value) (A : Around) (outer : List Env) (s : Shared) (H : Hp) (E : XK) (hgd : A.guards = some []) (hr : Room 1 (A.deeper (PyProof.Rows.envOfC "Facts.__eq__" (defScope s_Facts_eq) s.heap.objs.size f cdv))) :
  PSs (cxOf CX0 P w0 K mg base N_Facts_eq "Facts.__eq__" (defScope s_Facts_eq) f cdv A outer s H E).nox (defBody s_Facts_eq) (tDS K (w_Facts_eq C_Facts f_five_of)) :=
  (dss_one (ds_ret (d_and (d_isC T.cl_Facts T.is_Facts (by rfl) T.b_isinstance (by rfl) T.mg_Facts (d_var 1)) (d_one (c_eq hr (d_f D_five_of hgd hr (by decide) (by rfl) (fun _ _ _ _ _ _ us hl => match us, hl with | [_], _ => rfl) (da_cons (d_var 0) da_nil)) (d_f D_five_of hgd hr (by decide) (by rfl) (fun _ _ _ _ _ _ us hl => match us, hl with | [_], _ => rfl) (da_cons (d_var 1) da_nil)))))))
theorem dv_five_of (T : Tops K mg base C_Facts) (f : Addr) (cdv : Value) (A : Around) (outer : List Env) (s : Shared) (H : Hp) (E : XK) (hgd : A.guards = some []) (hr : Room 0 (A.deeper (PyProof.Rows.envOfC "five_of" (defScope s_five_of) s.heap.objs.size f cdv))) :
  PSs (cxOf CX0 P w0 K mg base N_five_of "five_of" (defScope s_five_of) f cdv A outer s H E).nox (defBody s_five_of) (tDS K (w_five_of C_Facts)) :=
  (dss_one (ds_ret (d_tup (da_cons (d_fld T.cl_Facts T.na_Facts_nothings (d_var 0)) (da_cons (d_fld T.cl_Facts T.na_Facts_numbers (d_var 0)) (da_cons (d_fld T.cl_Facts T.na_Facts_words (d_var 0)) (da_cons (d_fld T.cl_Facts T.na_Facts_least (d_var 0)) (da_cons (d_fld T.cl_Facts T.na_Facts_greatest (d_var 0)) da_nil))))))))
theorem dv_law_deck (T : Tops K mg base C_Facts) (f : Addr) (cdv : Value) (A : Around) (outer : List Env) (s : Shared) (H : Hp) (E : XK) (hgd : A.guards = some []) (hr : Room 0 (A.deeper (PyProof.Rows.envOfC "_law_deck" (defScope s_law_deck) s.heap.objs.size f cdv))) :
  PSs (cxOf CX0 P w0 K mg base N_law_deck "_law_deck" (defScope s_law_deck) f cdv A outer s H E).nox (defBody s_law_deck) (tDS K (w_law_deck)) :=
  (dss_cons (ds_set (i := 1) sc_law_deck.nd rfl (Or.inl rfl) (d_list (by rfl) T.b_list (d_slice (d_var 0) do_none (do_some d_int))))
    (dss_cons (ds_set (i := 2) sc_law_deck.nd rfl (Or.inl rfl) d_int)
    (dss_cons (ds_for (di_list (d_var 1)) (dg_name (i := 3) sc_law_deck.nd rfl (Or.inl rfl)) (dss_one (ds_set (i := 2) sc_law_deck.nd rfl (Or.inl rfl) (d_mod (d_add (d_add (d_mul (d_var 2) d_int) (d_mod (d_var 3) d_int)) d_int) d_int))))
    (dss_one (ds_ret (d_dctM _ (pps_cons pe_str (d_revM (d_var 1)) (pps_cons pe_str (d_var 2) (pps_cons pe_str d_int pps_nil)))))))))
theorem dv_law_draw (T : Tops K mg base C_Facts) (f : Addr) (cdv : Value) (A : Around) (outer : List Env) (s : Shared) (H : Hp) (E : XK) (hgd : A.guards = some []) (hr : Room 0 (A.deeper (PyProof.Rows.envOfC "_law_draw" (defScope s_law_draw) s.heap.objs.size f cdv))) :
  PSs (cxOf CX0 P w0 K mg base N_law_draw "_law_draw" (defScope s_law_draw) f cdv A outer s H E).nox (defBody s_law_draw) (tDS K (w_law_draw)) :=
  (dss_cons (ds_dput hr (d_var 0) d_str (d_add (d_dget hr (d_var 0) d_str) d_int))
    (dss_cons (ds_set (i := 2) sc_law_draw.nd rfl (Or.inl rfl) d_int)
    (dss_cons (ds_if (t_ne hr (d_dget hr (d_var 0) d_str) (d_lst da_nil)) (dss_cons (ds_set (i := 2) sc_law_draw.nd rfl (Or.inl rfl) (d_pop (d_dget hr (d_var 0) d_str)))
    (dss_one (ds_if (t_ge (d_var 2) (d_pow d_int d_int)) (dss_cons (ds_expr (d_append (d_dget hr (d_var 0) d_str) (d_div (d_var 2) (d_var 1))))
    (dss_one (ds_ret (d_mod (d_var 2) (d_var 1))))) dss_nil))) dss_nil)
    (dss_cons (ds_set (i := 3) sc_law_draw.nd rfl (Or.inl rfl) (d_dget hr (d_var 0) d_str))
    (dss_cons (ds_set (i := 4) sc_law_draw.nd rfl (Or.inl rfl) (d_add (d_add (d_dget hr (d_var 0) d_str) (d_mod (d_var 2) d_int)) (d_mul (d_mul d_int (d_var 3)) (d_var 3))))
    (dss_cons (ds_set (i := 4) sc_law_draw.nd rfl (Or.inl rfl) (d_mod (d_mul (d_var 4) d_int) d_int))
    (dss_cons (ds_set (i := 4) sc_law_draw.nd rfl (Or.inl rfl) (d_mod (d_add (d_add (d_mul (d_var 4) (d_var 4)) (d_mul d_int (d_var 4))) (d_var 3)) d_int))
    (dss_one (ds_ret (d_mod (d_div (d_mod (d_mul (d_var 4) (d_add (d_div (d_var 4) d_int) d_int)) d_int) d_int) (d_var 1)))))))))))
theorem dv_law_pick (T : Tops K mg base C_Facts) {f_law_draw : WF} (D_law_draw : Def P w0 K mg base 1 "_law_draw" s_law_draw ["_law_deck_here", "_law_count"] f_law_draw) (f : Addr) (cdv : Value) (A : Around) (outer : List Env) (s : Shared) (H : Hp) (E : XK) (hgd : A.guards = some []) (hr : Room 1 (A.deeper (PyProof.Rows.envOfC "_law_pick" (defScope s_law_pick) s.heap.objs.size f cdv))) :
  PSs (cxOf CX0 P w0 K mg base N_law_pick "_law_pick" (defScope s_law_pick) f cdv A outer s H E).nox (defBody s_law_pick) (tDS K (w_law_pick f_law_draw)) :=
  (dss_one (ds_ret (d_ix (d_var 1) (d_f D_law_draw hgd hr (by decide) (by rfl) (fun _ _ _ _ _ _ us hl => match us, hl with | [_, _], _ => rfl) (da_cons (d_var 0) (da_cons (d_len (by rfl) T.b_len (d_var 1)) da_nil))))))
theorem dv_law_names (T : Tops K mg base C_Facts) {f_law_draw : WF} (D_law_draw : Def P w0 K mg base 1 "_law_draw" s_law_draw ["_law_deck_here", "_law_count"] f_law_draw) {f_law_pick : WF} (D_law_pick : Def P w0 K mg base 2 "_law_pick" s_law_pick ["_law_deck_here", "_law_some"] f_law_pick) (f : Addr) (cdv : Value) (A : Around) (outer : List Env) (s : Shared) (H : Hp) (E : XK) (hgd : A.guards = some []) (hr : Room 2 (A.deeper (PyProof.Rows.envOfC "_law_names" (defScope s_law_names) s.heap.objs.size f cdv))) :
  PSs (cxOf CX0 P w0 K mg base N_law_names "_law_names" (defScope s_law_names) f cdv A outer s H E).nox (defBody s_law_names) (tDS K (w_law_names f_law_draw f_law_pick)) :=
  (dss_cons (ds_asg (d_tup (da_cons d_str (da_cons (d_f D_law_draw hgd hr (by decide) (by rfl) (fun _ _ _ _ _ _ us hl => match us, hl with | [_, _], _ => rfl) (da_cons (d_var 0) (da_cons d_int da_nil))) da_nil))) (dg_tup (n := 2) rfl (dgs_cons (dg_name (i := 2) sc_law_names.nd rfl (Or.inr rfl)) (dgs_cons (dg_name (i := 3) sc_law_names.nd rfl (Or.inl rfl)) dgs_nil))))
    (dss_cons (ds_asg (d_tup (da_cons (d_join d_str (d_lc (own := [("_law_k", 6)]) (di_range1 (by rfl) T.b_range d_int) (blkOk_by (own := [("_law_k", 6)]) (N := N_law_names) (sc := defScope s_law_names) (by decide +kernel)) (fun _ _ _ _ _ => dg_name (i := 6) sc_law_names.nd rfl (Or.inl rfl)) (fun _ _ _ _ _ => dts_nil) (fun _ _ _ _ _ => (d_f D_law_pick hgd hr (by decide) (by rfl) (fun _ _ _ _ _ _ us hl => match us, hl with | [_, _], _ => rfl) (da_cons (d_var 0) (da_cons (d_var 2) da_nil)))) sc_law_names.nd)) (da_cons (d_f D_law_draw hgd hr (by decide) (by rfl) (fun _ _ _ _ _ _ us hl => match us, hl with | [_, _], _ => rfl) (da_cons (d_var 0) (da_cons d_int da_nil))) da_nil))) (dg_tup (n := 2) rfl (dgs_cons (dg_name (i := 4) sc_law_names.nd rfl (Or.inr rfl)) (dgs_cons (dg_name (i := 5) sc_law_names.nd rfl (Or.inr rfl)) dgs_nil))))
    (dss_cons (ds_set (i := 7) sc_law_names.nd rfl (Or.inr rfl) (d_lst (da_cons d_str (da_cons d_str (da_cons d_str (da_cons d_str (da_cons d_str (da_cons d_str (da_cons d_str (da_cons d_str (da_cons d_str (da_cons d_str (da_cons d_str (da_cons d_str da_nil))))))))))))))
    (dss_cons (ds_if (PW.pt (dw_and (t_eq hr (d_var 3) d_int) (dw_and1 (t_lt hr (d_var 1) d_int)))) (dss_one (ds_ret (d_lc (own := [("_law_k", 6)]) (di_range1 (by rfl) T.b_range (d_var 1)) (blkOk_by (own := [("_law_k", 6)]) (N := N_law_names) (sc := defScope s_law_names) (by decide +kernel)) (fun _ _ _ _ _ => dg_name (i := 6) sc_law_names.nd rfl (Or.inl rfl)) (fun _ _ _ _ _ => dts_nil) (fun _ _ _ _ _ => (d_slice (d_var 4) do_none (do_some (d_add (d_var 6) d_int)))) sc_law_names.nd))) dss_nil)
    (dss_cons (ds_if (t_eq hr (d_var 3) d_int) (dss_one (ds_ret (d_lc (own := [("_law_k", 6)]) (di_range1 (by rfl) T.b_range (d_var 1)) (blkOk_by (own := [("_law_k", 6)]) (N := N_law_names) (sc := defScope s_law_names) (by decide +kernel)) (fun _ _ _ _ _ => dg_name (i := 6) sc_law_names.nd rfl (Or.inl rfl)) (fun _ _ _ _ _ => dts_nil) (fun _ _ _ _ _ => (d_ix (d_var 7) (d_mod (d_add (d_var 5) (d_var 6)) d_int))) sc_law_names.nd))) dss_nil)
    (dss_cons (ds_set (i := 8) sc_law_names.nd rfl (Or.inr rfl) (d_f D_law_draw hgd hr (by decide) (by rfl) (fun _ _ _ _ _ _ us hl => match us, hl with | [_, _], _ => rfl) (da_cons (d_var 0) (da_cons d_int da_nil))))
    (dss_cons (ds_set (i := 9) sc_law_names.nd rfl (Or.inr rfl) (d_indexS (d_var 2) (d_ix (d_var 4) (d_var 8))))
    (dss_one (ds_ret (d_lc (own := [("_law_k", 6)]) (di_range1 (by rfl) T.b_range (d_var 1)) (blkOk_by (own := [("_law_k", 6)]) (N := N_law_names) (sc := defScope s_law_names) (by decide +kernel)) (fun _ _ _ _ _ => dg_name (i := 6) sc_law_names.nd rfl (Or.inl rfl)) (fun _ _ _ _ _ => dts_nil) (fun _ _ _ _ _ => (d_add (d_add (d_slice (d_var 4) do_none (do_some (d_var 8))) (d_ix (d_var 2) (d_mod (d_add (d_var 9) (d_var 6)) d_int))) (d_slice (d_var 4) (do_some (d_add (d_var 8) d_int)) do_none))) sc_law_names.nd))))))))))
theorem dv_law_facts (T : Tops K mg base C_Facts) {kk lv : Nat} (hlv : 6 ≤ lv) (hkk : kk ≤ lv) {f_Facts_add : WF} (D_Facts_add : DefM P w0 K mg base 6 C_Facts "__add__" "Facts.__add__" s_Facts_add ["self", "other"] f_Facts_add) {f_law_facts : WF} (D_law_facts : Def P w0 K mg base kk "_law_facts" s_law_facts ["_law_some"] f_law_facts) {f_Facts_init : WF} (D_Facts_init : DefKS P w0 K mg base 4 "Facts" C_Facts "Facts.__init__" s_Facts_init f_Facts_init) (f : Addr) (cdv : Value) (A : Around) (outer : List Env) (s : Shared) (H : Hp) (E : XK) (hgd : A.guards = some []) (hr : Room lv (A.deeper (PyProof.Rows.envOfC "_law_facts" (defScope s_law_facts) s.heap.objs.size f cdv))) :
  PSs (cxOf CX0 P w0 K mg base N_law_facts "_law_facts" (defScope s_law_facts) f cdv A outer s H E).nox (defBody s_law_facts) (tDS K (w_law_facts C_Facts f_Facts_add f_law_facts f_Facts_init)) :=
  (dss_cons (ds_if (t_gt (d_len (by rfl) T.b_len (d_var 0)) d_int) (dss_one (ds_ret (d_addO D_Facts_add hgd hr (by omega) T.sf_Facts (d_f D_law_facts hgd hr (by omega) (by rfl) (fun _ _ _ _ _ _ us hl => match us, hl with | [_], _ => rfl) (da_cons (d_slice (d_var 0) do_none (do_some d_int)) da_nil)) (d_f D_law_facts hgd hr (by omega) (by rfl) (fun _ _ _ _ _ _ us hl => match us, hl with | [_], _ => rfl) (da_cons (d_slice (d_var 0) (do_some d_int) do_none) da_nil)) (fun _ _ _ _ _ _ us hl => match us, hl with | [_, _], _ => rfl)))) dss_nil)
    (dss_cons (ds_if (t_eq hr (d_len (by rfl) T.b_len (d_var 0)) d_int) (dss_one (ds_ret (d_makeS0 D_Facts_init hgd hr (by omega) (by rfl)))) dss_nil)
    (dss_cons (ds_if (t_eq hr (d_len (by rfl) T.b_len (d_var 0)) d_int) (dss_one (ds_ret (d_makeS D_Facts_init hgd hr (by omega) (by rfl) (da_cons (d_ix (d_var 0) d_int) da_nil)))) dss_nil)
    (dss_cons (ds_if (t_eq hr (d_len (by rfl) T.b_len (d_var 0)) d_int) (dss_one (ds_ret (d_makeS D_Facts_init hgd hr (by omega) (by rfl) (da_cons (d_ix (d_var 0) d_int) (da_cons (d_ix (d_var 0) d_int) da_nil))))) dss_nil)
    (dss_one (ds_ret (d_makeS D_Facts_init hgd hr (by omega) (by rfl) (da_cons (d_ix (d_var 0) d_int) (da_cons (d_ix (d_var 0) d_int) (da_cons (d_ix (d_var 0) d_int) da_nil))))))))))
theorem dv_law_due (T : Tops K mg base C_Facts) (f : Addr) (cdv : Value) (A : Around) (outer : List Env) (s : Shared) (H : Hp) (E : XK) (hgd : A.guards = some []) (hr : Room 0 (A.deeper (PyProof.Rows.envOfC "_law_due" (defScope s_law_due) s.heap.objs.size f cdv))) :
  PSs (cxOf CX0 P w0 K mg base N_law_due "_law_due" (defScope s_law_due) f cdv A outer s H E).nox (defBody s_law_due) (tDS K (w_law_due)) :=
  (dss_cons (ds_setLc (own := [("_law_one", 2)]) (i := 1) rfl rfl (sw_true rfl rfl rfl (by decide +kernel)) (di_list (d_var 0)) (blkOk_by (own := [("_law_one", 2)]) (N := N_law_due) (sc := defScope s_law_due) (by decide +kernel)) (fun _ _ _ _ _ => dg_name (i := 2) sc_law_due.nd rfl (Or.inl rfl)) (fun _ _ _ _ _ => (dts_one (dt_val (d_isi tyInt hf_int (by rfl) T.b_isinstance (by rfl) T.b_int boot_int (d_var 2))))) (fun _ _ _ _ _ => (d_var 2)) sc_law_due.nd)
    (dss_cons (ds_setLc (own := [("_law_one", 2)]) (i := 3) rfl rfl (sw_true rfl rfl rfl (by decide +kernel)) (di_list (d_var 0)) (blkOk_by (own := [("_law_one", 2)]) (N := N_law_due) (sc := defScope s_law_due) (by decide +kernel)) (fun _ _ _ _ _ => dg_name (i := 2) sc_law_due.nd rfl (Or.inl rfl)) (fun _ _ _ _ _ => (dts_one (dt_val (d_isi tyStr hf_str (by rfl) T.b_isinstance (by rfl) T.b_str boot_str (d_var 2))))) (fun _ _ _ _ _ => (d_var 2)) sc_law_due.nd)
    (dss_cons (ds_set (i := 4) sc_law_due.nd rfl (Or.inl rfl) (d_if (t_ne hr (d_var 1) (d_lst da_nil)) (d_tup (da_cons (d_minL (by rfl) T.b_min (d_var 1)) (da_cons (d_maxL (by rfl) T.b_max (d_var 1)) da_nil))) (d_tup (da_cons d_non (da_cons d_non da_nil)))))
    (dss_one (ds_ret (d_add (d_tup (da_cons (d_sub (d_sub (d_len (by rfl) T.b_len (d_var 0)) (d_len (by rfl) T.b_len (d_var 1))) (d_len (by rfl) T.b_len (d_var 3))) (da_cons (d_len (by rfl) T.b_len (d_var 1)) (da_cons (d_len (by rfl) T.b_len (d_var 3)) da_nil)))) (d_var 4)))))))
theorem dv_law_text (T : Tops K mg base C_Facts) (f : Addr) (cdv : Value) (A : Around) (outer : List Env) (s : Shared) (H : Hp) (E : XK) (hgd : A.guards = some []) (hr : Room 0 (A.deeper (PyProof.Rows.envOfC "_law_text" (defScope s_law_text) s.heap.objs.size f cdv))) :
  PSs (cxOf CX0 P w0 K mg base N_law_text "_law_text" (defScope s_law_text) f cdv A outer s H E).nox (defBody s_law_text) (tDS K (w_law_text)) :=
  (dss_cons (ds_set (i := 1) sc_law_text.nd rfl (Or.inl rfl) d_str)
    (dss_cons (ds_if (t_gt (d_ix (d_var 0) d_int) d_int) (dss_one (ds_set (i := 1) sc_law_text.nd rfl (Or.inl rfl) (d_add (d_add (d_add (d_add (d_strI (by rfl) T.b_str (d_ix (d_var 0) d_int)) d_str) (d_strI (by rfl) T.b_str (d_ix (d_var 0) d_int))) d_str) (d_strI (by rfl) T.b_str (d_ix (d_var 0) d_int))))) dss_nil)
    (dss_one (ds_ret (d_add (d_add (d_add (d_add (d_add (d_strI (by rfl) T.b_str (d_ix (d_var 0) d_int)) d_str) (d_var 1)) d_str) (d_strI (by rfl) T.b_str (d_ix (d_var 0) d_int))) d_str)))))
theorem dv_law_told (T : Tops K mg base C_Facts) (f : Addr) (cdv : Value) (A : Around) (outer : List Env) (s : Shared) (H : Hp) (E : XK) (hgd : A.guards = some []) (hr : Room 0 (A.deeper (PyProof.Rows.envOfC "_law_told" (defScope s_law_told) s.heap.objs.size f cdv))) :
  PSs (cxOf CX0 P w0 K mg base N_law_told "_law_told" (defScope s_law_told) f cdv A outer s H E).nox (defBody s_law_told) (tDS K (w_law_told C_Facts)) :=
  (dss_one (ds_ret (d_repr hgd hr T.sm (by rfl) T.b_repr (d_tup (da_cons (d_fld T.cl_Facts T.na_Facts_nothings (d_var 0)) (da_cons (d_fld T.cl_Facts T.na_Facts_numbers (d_var 0)) (da_cons (d_fld T.cl_Facts T.na_Facts_words (d_var 0)) (da_cons (d_fld T.cl_Facts T.na_Facts_least (d_var 0)) (da_cons (d_fld T.cl_Facts T.na_Facts_greatest (d_var 0)) da_nil)))))))))
theorem dv_law_probes (T : Tops K mg base C_Facts) {f_law_draw : WF} (D_law_draw : Def P w0 K mg base 1 "_law_draw" s_law_draw ["_law_deck_here", "_law_count"] f_law_draw) (f : Addr) (cdv : Value) (A : Around) (outer : List Env) (s : Shared) (H : Hp) (E : XK) (hgd : A.guards = some []) (hr : Room 1 (A.deeper (PyProof.Rows.envOfC "_law_probes" (defScope s_law_probes) s.heap.objs.size f cdv))) :
  PSs (cxOf CX0 P w0 K mg base N_law_probes "_law_probes" (defScope s_law_probes) f cdv A outer s H E).nox (defBody s_law_probes) (tDS K (w_law_probes f_law_draw)) :=
  (dss_cons (ds_set (i := 3) sc_law_probes.nd rfl (Or.inl rfl) (d_lstM (da_cons d_int (da_cons d_int (da_cons (d_pow d_int d_int) (da_cons (d_sub d_int (d_pow d_int d_int)) (da_cons (d_sub (d_f D_law_draw hgd hr (by decide) (by rfl) (fun _ _ _ _ _ _ us hl => match us, hl with | [_, _], _ => rfl) (da_cons (d_var 0) (da_cons d_int da_nil))) d_int) da_nil)))))))
    (dss_cons (ds_for (di_tup (d_slice (d_var 1) (do_some d_int) do_none)) (dg_name (i := 4) sc_law_probes.nd rfl (Or.inl rfl)) (dss_one (ds_if (t_isnot (d_var 4) d_non) (dss_one (ds_expr (d_extend (d_var 3) (d_lst (da_cons (d_max2 (by rfl) T.b_max (d_sub d_int (d_pow d_int d_int)) (d_sub (d_var 4) d_int)) (da_cons (d_var 4) (da_cons (d_min2 (by rfl) T.b_min (d_pow d_int d_int) (d_add (d_var 4) d_int)) da_nil))))))) dss_nil)))
    (dss_cons (ds_if (t_gt (d_ix (d_var 1) d_int) d_int) (dss_one (ds_expr (d_append (d_var 3) (d_div (d_add (d_ix (d_var 1) d_int) (d_ix (d_var 1) d_int)) d_int)))) dss_nil)
    (dss_frzv 3 (dss_one (ds_ret (d_add (d_add (d_lst (da_cons d_non da_nil)) (d_var 2)) (d_var 3))))))))
theorem dv_law_is_in (T : Tops K mg base C_Facts) (f : Addr) (cdv : Value) (A : Around) (outer : List Env) (s : Shared) (H : Hp) (E : XK) (hgd : A.guards = some []) (hr : Room 0 (A.deeper (PyProof.Rows.envOfC "_law_is_in" (defScope s_law_is_in) s.heap.objs.size f cdv))) :
  PSs (cxOf CX0 P w0 K mg base N_law_is_in "_law_is_in" (defScope s_law_is_in) f cdv A outer s H E).nox (defBody s_law_is_in) (tDS K (w_law_is_in)) :=
  (dss_cons (ds_if (t_is (d_var 1) d_non) (dss_one (ds_ret (c_gt (d_ix (d_var 0) d_int) d_int))) dss_nil)
    (dss_cons (ds_if (dt_val (d_isi tyStr hf_str (by rfl) T.b_isinstance (by rfl) T.b_str boot_str (d_var 1))) (dss_one (ds_ret (c_gt (d_ix (d_var 0) d_int) d_int))) dss_nil)
    (dss_one (ds_ret (d_and (c_gt (d_ix (d_var 0) d_int) d_int) (d_one (d_chain op_leD le_rd op_leD le_rd (d_ix (d_var 0) d_int) (d_var 1) (d_ix (d_var 0) d_int))))))))
theorem dv_law_asked_right (T : Tops K mg base C_Facts) {f_law_probes : WF} (D_law_probes : Def P w0 K mg base 2 "_law_probes" s_law_probes ["_law_deck_here", "_law_due_here", "_law_words"] f_law_probes) {f_law_is_in : WF} (D_law_is_in : Def P w0 K mg base 1 "_law_is_in" s_law_is_in ["_law_due_here", "_law_probe"] f_law_is_in) {f_Facts_contains : WF} (D_Facts_contains : DefM P w0 K mg base 1 C_Facts "__contains__" "Facts.__contains__" s_Facts_contains ["self", "value"] f_Facts_contains) {f_law_told : WF} (D_law_told : Def P w0 K mg base 1 "_law_told" s_law_told ["_law_facts_here"] f_law_told) {f_law_text : WF} (D_law_text : Def P w0 K mg base 1 "_law_text" s_law_text ["_law_due_here"] f_law_text) (f : Addr) (cdv : Value) (A : Around) (outer : List Env) (s : Shared) (H : Hp) (E : XK) (hgd : A.guards = some []) (hr : Room 2 (A.deeper (PyProof.Rows.envOfC "_law_asked_right" (defScope s_law_asked_right) s.heap.objs.size f cdv))) :
  PSs (cxOf CX0 P w0 K mg base N_law_asked_right "_law_asked_right" (defScope s_law_asked_right) f cdv A outer s H E).nox (defBody s_law_asked_right) (tDS K (w_law_asked_right C_Facts f_law_probes f_law_is_in f_Facts_contains f_law_told f_law_text)) :=
  (dss_cons (ds_for (di_list (d_f D_law_probes hgd hr (by decide) (by rfl) (fun _ _ _ _ _ _ us hl => match us, hl with | [_, _, _], _ => rfl) (da_cons (d_var 0) (da_cons (d_var 2) (da_cons (d_var 3) da_nil))))) (dg_name (i := 4) sc_law_asked_right.nd rfl (Or.inl rfl)) (dss_cons (ds_set (i := 5) sc_law_asked_right.nd rfl (Or.inl rfl) (d_f D_law_is_in hgd hr (by decide) (by rfl) (fun _ _ _ _ _ _ us hl => match us, hl with | [_, _], _ => rfl) (da_cons (d_var 2) (da_cons (d_var 4) da_nil))))
    (dss_one (ds_if (PW.pt (dw_or (t_ne hr (c_inO D_Facts_contains hgd hr (by decide) (d_var 4) (d_var 1) (fun _ _ _ _ _ _ us hl => match us, hl with | [_, _], _ => rfl) (by rfl)) (d_var 5)) (dw_or1 (t_eq hr (c_notinO D_Facts_contains hgd hr (by decide) (d_var 4) (d_var 1) (fun _ _ _ _ _ _ us hl => match us, hl with | [_, _], _ => rfl) (by rfl)) (d_var 5))))) (dss_one (ds_ret d_bl)) dss_nil))))
    (dss_one (ds_ret (d_and (c_eq hr (d_f D_law_told hgd hr (by decide) (by rfl) (fun _ _ _ _ _ _ us hl => match us, hl with | [_], _ => rfl) (da_cons (d_var 1) da_nil)) (d_repr hgd hr T.sm (by rfl) T.b_repr (d_var 2))) (d_one (c_eq hr (d_fld T.cl_Facts T.na_Facts_text (d_var 1)) (d_f D_law_text hgd hr (by decide) (by rfl) (fun _ _ _ _ _ _ us hl => match us, hl with | [_], _ => rfl) (da_cons (d_var 2) da_nil))))))))
theorem dv_law_sums_right (T : Tops K mg base C_Facts) {f_law_facts : WF} (D_law_facts : Def P w0 K mg base 11 "_law_facts" s_law_facts ["_law_some"] f_law_facts) {f_law_told : WF} (D_law_told : Def P w0 K mg base 1 "_law_told" s_law_told ["_law_facts_here"] f_law_told) {f_Facts_add : WF} (D_Facts_add : DefM P w0 K mg base 6 C_Facts "__add__" "Facts.__add__" s_Facts_add ["self", "other"] f_Facts_add) {f_law_due : WF} (D_law_due : Def P w0 K mg base 1 "_law_due" s_law_due ["_law_some"] f_law_due) {f_law_asked_right : WF} (D_law_asked_right : Def P w0 K mg base 3 "_law_asked_right" s_law_asked_right ["_law_deck_here", "_law_facts_here", "_law_due_here", "_law_words"] f_law_asked_right) {f_Facts_eq : WF} (D_Facts_eq : DefM P w0 K mg base 2 C_Facts "__eq__" "Facts.__eq__" s_Facts_eq ["self", "other"] f_Facts_eq) {f_Facts_init : WF} (D_Facts_init : DefKS P w0 K mg base 4 "Facts" C_Facts "Facts.__init__" s_Facts_init f_Facts_init) (f : Addr) (cdv : Value) (A : Around) (outer : List Env) (s : Shared) (H : Hp) (E : XK) (hgd : A.guards = some []) (hr : Room 11 (A.deeper (PyProof.Rows.envOfC "_law_sums_right" (defScope s_law_sums_right) s.heap.objs.size f cdv))) :
  PSs (cxOf CX0 P w0 K mg base N_law_sums_right "_law_sums_right" (defScope s_law_sums_right) f cdv A outer s H E).nox (defBody s_law_sums_right) (tDS K (w_law_sums_right C_Facts f_law_facts f_law_told f_Facts_add f_law_due f_law_asked_right f_Facts_eq f_Facts_init)) :=
  (dss_cons (ds_asg (d_lc (own := [("_law_some", 6)]) (di_list (d_var 1)) (blkOk_by (own := [("_law_some", 6)]) (N := N_law_sums_right) (sc := defScope s_law_sums_right) (by decide +kernel)) (fun _ _ _ _ _ => dg_name (i := 6) sc_law_sums_right.nd rfl (Or.inl rfl)) (fun _ _ _ _ _ => dts_nil) (fun _ _ _ _ _ => (d_f D_law_facts hgd hr (by decide) (by rfl) (fun _ _ _ _ _ _ us hl => match us, hl with | [_], _ => rfl) (da_cons (d_var 6) da_nil))) sc_law_sums_right.nd) (dg_lst (n := 3) rfl (dgs_cons (dg_name (i := 3) sc_law_sums_right.nd rfl (Or.inl rfl)) (dgs_cons (dg_name (i := 4) sc_law_sums_right.nd rfl (Or.inl rfl)) (dgs_cons (dg_name (i := 5) sc_law_sums_right.nd rfl (Or.inl rfl)) dgs_nil)))))
    (dss_cons (ds_setLc (own := [("_law_facts_here", 8)]) (i := 7) rfl rfl (sw_true rfl rfl rfl (by decide +kernel)) (di_tup (d_tup (da_cons (d_var 3) (da_cons (d_var 4) (da_cons (d_var 5) da_nil))))) (blkOk_by (own := [("_law_facts_here", 8)]) (N := N_law_sums_right) (sc := defScope s_law_sums_right) (by decide +kernel)) (fun _ _ _ _ _ => dg_name (i := 8) sc_law_sums_right.nd rfl (Or.inl rfl)) (fun _ _ _ _ _ => dts_nil) (fun _ _ _ _ _ => (d_f D_law_told hgd hr (by decide) (by rfl) (fun _ _ _ _ _ _ us hl => match us, hl with | [_], _ => rfl) (da_cons (d_var 8) da_nil))) sc_law_sums_right.nd)
    (dss_cons (ds_par (i := 9) (j := 10) sc_law_sums_right.nd rfl rfl (by decide) rfl rfl (da_cons (d_addO D_Facts_add hgd hr (by decide) T.sf_Facts (d_var 3) (d_var 4) (fun _ _ _ _ _ _ us hl => match us, hl with | [_, _], _ => rfl)) (da_cons (d_f D_law_due hgd hr (by decide) (by rfl) (fun _ _ _ _ _ _ us hl => match us, hl with | [_], _ => rfl) (da_cons (d_add (d_ix (d_var 1) d_int) (d_ix (d_var 1) d_int)) da_nil)) da_nil)) (by rfl))
    (dss_cons (ds_if (PW.pt (dw_or (dt_not (dt_val (d_f D_law_asked_right hgd hr (by decide) (by rfl) (fun _ _ _ _ _ _ us hl => match us, hl with | [_, _, _, _], _ => rfl) (da_cons (d_var 0) (da_cons (d_var 9) (da_cons (d_var 10) (da_cons (d_var 2) da_nil))))))) (dw_or1 (dt_not (t_eqO D_Facts_eq hgd hr (by decide) (d_addO D_Facts_add hgd hr (by decide) T.sf_Facts (d_var 4) (d_var 3) (fun _ _ _ _ _ _ us hl => match us, hl with | [_, _], _ => rfl)) (d_var 9) (fun _ _ _ _ _ _ us hl => match us, hl with | [_, _], _ => rfl)))))) (dss_one (ds_ret d_bl)) dss_nil)
    (dss_cons (ds_set (i := 11) sc_law_sums_right.nd rfl (Or.inl rfl) (d_addO D_Facts_add hgd hr (by decide) T.sf_Facts (d_var 3) (d_addO D_Facts_add hgd hr (by decide) T.sf_Facts (d_var 4) (d_var 5) (fun _ _ _ _ _ _ us hl => match us, hl with | [_, _], _ => rfl)) (fun _ _ _ _ _ _ us hl => match us, hl with | [_, _], _ => rfl)))
    (dss_cons (ds_set (i := 10) sc_law_sums_right.nd rfl (Or.inl rfl) (d_f D_law_due hgd hr (by decide) (by rfl) (fun _ _ _ _ _ _ us hl => match us, hl with | [_], _ => rfl) (da_cons (d_add (d_add (d_ix (d_var 1) d_int) (d_ix (d_var 1) d_int)) (d_ix (d_var 1) d_int)) da_nil)))
    (dss_cons (ds_if (PW.pt (dw_or (dt_not (dt_val (d_f D_law_asked_right hgd hr (by decide) (by rfl) (fun _ _ _ _ _ _ us hl => match us, hl with | [_, _, _, _], _ => rfl) (da_cons (d_var 0) (da_cons (d_var 11) (da_cons (d_var 10) (da_cons (d_var 2) da_nil))))))) (dw_or1 (dt_not (t_eqO D_Facts_eq hgd hr (by decide) (d_addO D_Facts_add hgd hr (by decide) T.sf_Facts (d_var 9) (d_var 5) (fun _ _ _ _ _ _ us hl => match us, hl with | [_, _], _ => rfl)) (d_var 11) (fun _ _ _ _ _ _ us hl => match us, hl with | [_, _], _ => rfl)))))) (dss_one (ds_ret d_bl)) dss_nil)
    (dss_cons (ds_if (PW.pt (dw_or (dt_not (t_eqO D_Facts_eq hgd hr (by decide) (d_addO D_Facts_add hgd hr (by decide) T.sf_Facts (d_var 3) (d_makeS0 D_Facts_init hgd hr (by decide) (by rfl)) (fun _ _ _ _ _ _ us hl => match us, hl with | [_, _], _ => rfl)) (d_var 3) (fun _ _ _ _ _ _ us hl => match us, hl with | [_, _], _ => rfl))) (dw_or1 (dt_not (t_eqO D_Facts_eq hgd hr (by decide) (d_addO D_Facts_add hgd hr (by decide) T.sf_Facts (d_makeS0 D_Facts_init hgd hr (by decide) (by rfl)) (d_var 3) (fun _ _ _ _ _ _ us hl => match us, hl with | [_, _], _ => rfl)) (d_var 3) (fun _ _ _ _ _ _ us hl => match us, hl with | [_, _], _ => rfl)))))) (dss_one (ds_ret d_bl)) dss_nil)
    (dss_cons (ds_if (t_ne hr (d_fld T.cl_Facts T.na_Facts_text (d_addO D_Facts_add hgd hr (by decide) T.sf_Facts (d_var 11) (d_var 3) (fun _ _ _ _ _ _ us hl => match us, hl with | [_, _], _ => rfl))) (d_fld T.cl_Facts T.na_Facts_text (d_addO D_Facts_add hgd hr (by decide) T.sf_Facts (d_var 3) (d_var 11) (fun _ _ _ _ _ _ us hl => match us, hl with | [_, _], _ => rfl)))) (dss_one (ds_ret d_bl)) dss_nil)
    (dss_one (ds_ret (c_eq hr (d_var 7) (d_lc (own := [("_law_facts_here", 8)]) (di_tup (d_tup (da_cons (d_var 3) (da_cons (d_var 4) (da_cons (d_var 5) da_nil))))) (blkOk_by (own := [("_law_facts_here", 8)]) (N := N_law_sums_right) (sc := defScope s_law_sums_right) (by decide +kernel)) (fun _ _ _ _ _ => dg_name (i := 8) sc_law_sums_right.nd rfl (Or.inl rfl)) (fun _ _ _ _ _ => dts_nil) (fun _ _ _ _ _ => (d_f D_law_told hgd hr (by decide) (by rfl) (fun _ _ _ _ _ _ us hl => match us, hl with | [_], _ => rfl) (da_cons (d_var 8) da_nil))) sc_law_sums_right.nd)))))))))))))
theorem dv_law_main (T : Tops K mg base C_Facts) {f_law_deck : WF} (D_law_deck : Def P w0 K mg base 1 "_law_deck" s_law_deck ["_law_script"] f_law_deck) {f_law_names : WF} (D_law_names : Def P w0 K mg base 3 "_law_names" s_law_names ["_law_deck_here", "_law_count"] f_law_names) {f_law_facts : WF} (D_law_facts : Def P w0 K mg base 11 "_law_facts" s_law_facts ["_law_some"] f_law_facts) {f_law_draw : WF} (D_law_draw : Def P w0 K mg base 1 "_law_draw" s_law_draw ["_law_deck_here", "_law_count"] f_law_draw) {f_law_sums_right : WF} (D_law_sums_right : Def P w0 K mg base 12 "_law_sums_right" s_law_sums_right ["_law_deck_here", "_law_lots", "_law_words"] f_law_sums_right) {f_law_asked_right : WF} (D_law_asked_right : Def P w0 K mg base 3 "_law_asked_right" s_law_asked_right ["_law_deck_here", "_law_facts_here", "_law_due_here", "_law_words"] f_law_asked_right) {f_law_pick : WF} (D_law_pick : Def P w0 K mg base 2 "_law_pick" s_law_pick ["_law_deck_here", "_law_some"] f_law_pick) {f_law_due : WF} (D_law_due : Def P w0 K mg base 1 "_law_due" s_law_due ["_law_some"] f_law_due) (f : Addr) (cdv : Value) (A : Around) (outer : List Env) (s : Shared) (H : Hp) (E : XK) (hgd : A.guards = some []) (hr : Room 12 (A.deeper (PyProof.Rows.envOfC "law" (defScope s_law_main) s.heap.objs.size f cdv))) :
  PSs (cxOf CX0 P w0 K mg base N_law_main "law" (defScope s_law_main) f cdv A outer s H E).nox (defBody s_law_main) (tDS K (w_law_main f_law_deck f_law_names f_law_facts f_law_draw f_law_sums_right f_law_asked_right f_law_pick f_law_due)) :=
  (dss_cons (ds_set (i := 1) sc_law_main.nd rfl (Or.inr rfl) (d_f D_law_deck hgd hr (by decide) (by rfl) (fun _ _ _ _ _ _ us hl => match us, hl with | [_], _ => rfl) (da_cons (d_var 0) da_nil)))
    (dss_cons (ds_set (i := 2) sc_law_main.nd rfl (Or.inl rfl) (d_f D_law_names hgd hr (by decide) (by rfl) (fun _ _ _ _ _ _ us hl => match us, hl with | [_, _], _ => rfl) (da_cons (d_var 1) (da_cons d_int da_nil))))
    (dss_cons (ds_for (di_range1 (by rfl) T.b_range d_int) (dg_name (i := 3) sc_law_main.nd rfl (Or.inl rfl)) (dss_cons (ds_set (i := 4) sc_law_main.nd rfl (Or.inr rfl) (d_lst (da_cons d_non (da_cons d_int (da_cons d_int (da_cons (d_sub d_int d_int) (da_cons (d_pow d_int d_int) (da_cons (d_sub d_int (d_pow d_int d_int)) da_nil))))))))
    (dss_cons (ds_set (i := 4) sc_law_main.nd rfl (Or.inr rfl) (d_add (d_add (d_var 4) (d_lst (da_cons (d_sub (d_f D_law_draw hgd hr (by decide) (by rfl) (fun _ _ _ _ _ _ us hl => match us, hl with | [_, _], _ => rfl) (da_cons (d_var 1) (da_cons d_int da_nil))) d_int) (da_cons (d_f D_law_draw hgd hr (by decide) (by rfl) (fun _ _ _ _ _ _ us hl => match us, hl with | [_, _], _ => rfl) (da_cons (d_var 1) (da_cons d_int da_nil))) da_nil)))) (d_var 2)))
    (dss_cons (ds_set (i := 4) sc_law_main.nd rfl (Or.inr rfl) (d_ix (d_lst (da_cons (d_var 4) (da_cons (d_var 4) (da_cons (d_add (d_lst (da_cons d_non da_nil)) (d_var 2)) (da_cons (d_slice (d_var 4) (do_some d_int) (do_some d_int)) da_nil))))) (d_f D_law_draw hgd hr (by decide) (by rfl) (fun _ _ _ _ _ _ us hl => match us, hl with | [_, _], _ => rfl) (da_cons (d_var 1) (da_cons d_int da_nil)))))
    (dss_cons (ds_setLc (own := [("_law_again", 7)]) (i := 5) rfl rfl (sw_true rfl rfl rfl (by decide +kernel)) (di_range1 (by rfl) T.b_range d_int) (blkOk_by (own := [("_law_again", 7)]) (N := N_law_main) (sc := defScope s_law_main) (by decide +kernel)) (fun _ _ _ _ _ => dg_name (i := 7) sc_law_main.nd rfl (Or.inl rfl)) (fun _ _ _ _ _ => dts_nil) (fun _ _ _ _ _ => (d_lc (own := [("_law_k", 8)]) (di_range1 (by rfl) T.b_range (d_f D_law_draw hgd hr (by decide) (by rfl) (fun _ _ _ _ _ _ us hl => match us, hl with | [_, _], _ => rfl) (da_cons (d_var 1) (da_cons d_int da_nil)))) (blkOk_by (own := [("_law_k", 8)]) (N := N_law_main) (by kernel_rfl)) (fun _ _ _ _ _ => dg_name (i := 8) sc_law_main.nd rfl (Or.inl rfl)) (fun _ _ _ _ _ => dts_nil) (fun _ _ _ _ _ => (d_f D_law_pick hgd hr (by decide) (by rfl) (fun _ _ _ _ _ _ us hl => match us, hl with | [_, _], _ => rfl) (da_cons (d_var 1) (da_cons (d_var 4) da_nil)))) sc_law_main.nd)) sc_law_main.nd)
    (dss_cons (ds_if (dt_not (dt_val (d_f D_law_sums_right hgd hr (by decide) (by rfl) (fun _ _ _ _ _ _ us hl => match us, hl with | [_, _, _], _ => rfl) (da_cons (d_var 1) (da_cons (d_var 5) (da_cons (d_var 2) da_nil)))))) (dss_one (ds_ret d_bl)) dss_nil)
    (dss_cons (ds_set (i := 6) sc_law_main.nd rfl (Or.inl rfl) (d_f D_law_facts hgd hr (by decide) (by rfl) (fun _ _ _ _ _ _ us hl => match us, hl with | [_], _ => rfl) (da_cons (d_ix (d_var 5) d_int) da_nil)))
    (dss_one (ds_if (dt_not (dt_val (d_f D_law_asked_right hgd hr (by decide) (by rfl) (fun _ _ _ _ _ _ us hl => match us, hl with | [_, _, _, _], _ => rfl) (da_cons (d_var 1) (da_cons (d_var 6) (da_cons (d_f D_law_due hgd hr (by decide) (by rfl) (fun _ _ _ _ _ _ us hl => match us, hl with | [_], _ => rfl) (da_cons (d_ix (d_var 5) d_int) da_nil)) (da_cons (d_var 2) da_nil))))))) (dss_one (ds_ret d_bl)) dss_nil)))))))))
    (dss_one (ds_ret d_bl)))))
end
end K11

set_option Elab.async false
set_option linter.all false
set_option maxRecDepth 100000
set_option maxHeartbeats 1000000
/-! K11z: the defs put together (printed by mkz.py). -/
namespace K11
open PySem L2 Dz
section
variable {P : Program} {w0 : World} {K : PySem.W.Frag} {mg : Str → Option Value} {base : Heap} {C_Facts : Addr}
theorem D_is_name (T : Tops K mg base C_Facts) : Def P w0 K mg base 1 "is_name" s_is_name ["thing"] (wfName) := def_of T.a_is_name sc_is_name (dv_is_name T) (p_is_name)
theorem D_is_value (T : Tops K mg base C_Facts) : Def P w0 K mg base 2 "is_value" s_is_value ["thing"] (wfVal) := def_of T.a_is_value sc_is_value (dv_is_value T (D_is_name T)) (p_is_value)
theorem D_is_number (T : Tops K mg base C_Facts) : Def P w0 K mg base 3 "is_number" s_is_number ["thing"] (wfNum) := def_of T.a_is_number sc_is_number (dv_is_number T (D_is_value T)) (p_is_number)
theorem D_numbers_text (T : Tops K mg base C_Facts) : Def P w0 K mg base 1 "numbers_text" s_numbers_text ["figures"] (wfNt) := def_of T.a_numbers_text sc_numbers_text (dv_numbers_text T) (p_numbers_text)
theorem D_Facts_init (T : Tops K mg base C_Facts) : DefKS P w0 K mg base 4 "Facts" C_Facts "Facts.__init__" s_Facts_init (wfInit C_Facts) := defKS_of (ps := ["self"]) T.ak_Facts_init sc_Facts_init (fun kV doc pm an cdv ct us rest h => match us, h, rest with | [_], _, [] => rfl | [_], _, _ :: _ => rfl) (dv_Facts_init T (D_is_number T) (D_numbers_text T)) (init_min) (p_init)
theorem D_five_of (T : Tops K mg base C_Facts) : Def P w0 K mg base 1 "five_of" s_five_of ["facts"] (wfFive C_Facts) := def_of T.a_five_of sc_five_of (dv_five_of T) (p_five_of)
theorem D_Facts_add (T : Tops K mg base C_Facts) : DefM P w0 K mg base 6 C_Facts "__add__" "Facts.__add__" s_Facts_add ["self", "other"] (wfAdd C_Facts) := defM_of T.am_Facts_add sc_Facts_add (dv_Facts_add T (D_Facts_init T)) (p_add)
theorem D_Facts_contains (T : Tops K mg base C_Facts) : DefM P w0 K mg base 1 C_Facts "__contains__" "Facts.__contains__" s_Facts_contains ["self", "value"] (wfIn C_Facts) := defM_of T.am_Facts_contains sc_Facts_contains (dv_Facts_contains T) (p_contains)
theorem D_Facts_eq (T : Tops K mg base C_Facts) : DefM P w0 K mg base 2 C_Facts "__eq__" "Facts.__eq__" s_Facts_eq ["self", "other"] (wfEq C_Facts) := defM_of T.am_Facts_eq sc_Facts_eq (dv_Facts_eq T (D_five_of T)) (p_eq)
theorem D_law_deck (T : Tops K mg base C_Facts) : Def P w0 K mg base 1 "_law_deck" s_law_deck ["_law_script"] (wfDeck "mixed") := def_of T.a_law_deck sc_law_deck (dv_law_deck T) (fun ds μ Q hl h => deck2_ok (S := 52711) (B := 48271) (A := 2147483563) (C := 37) (M := 2147483629) (by decide) (by decide) (by decide) (by decide) (by decide) ds μ Q hl h)
theorem D_law_draw (T : Tops K mg base C_Facts) : Def P w0 K mg base 1 "_law_draw" s_law_draw ["_law_deck_here", "_law_count"] (wfDraw "mixed") := def_of T.a_law_draw sc_law_draw (dv_law_draw T) (fun ds μ Q hl h => draw2_ok (A := 2147483587) (B := 69621) (C := 40692) (E := 2147483563) (F := 52774) (G := 2147483629) (I := 7) (J := 39373) (L := 2147483587) (M := 64) (by decide) (by decide) (by decide) (by decide) (by decide) (by decide) (by decide) (by decide) (by decide) ds μ Q hl h)
theorem D_law_pick (T : Tops K mg base C_Facts) : Def P w0 K mg base 2 "_law_pick" s_law_pick ["_law_deck_here", "_law_some"] (wfPick "mixed") := def_of T.a_law_pick sc_law_pick (dv_law_pick T (D_law_draw T)) (pick_ok)
theorem D_law_names (T : Tops K mg base C_Facts) : Def P w0 K mg base 3 "_law_names" s_law_names ["_law_deck_here", "_law_count"] (wfNames) := def_of T.a_law_names sc_law_names (dv_law_names T (D_law_draw T) (D_law_pick T)) (p_law_names)
theorem D_law_facts (T : Tops K mg base C_Facts) : ∀ n : Nat, Def P w0 K mg base (n + 7) "_law_facts" s_law_facts ["_law_some"] (wfFacts C_Facts n)
  | 0 => def_of T.a_law_facts sc_law_facts (dv_law_facts T (kk := 0) (lv := 6) (by omega) (by omega) (D_Facts_add T) (Def.no T.a_law_facts) (D_Facts_init T)) (p_law_facts wfNo 0 fun n' e => by omega)
  | n + 1 => def_of T.a_law_facts sc_law_facts (dv_law_facts T (kk := n + 7) (lv := n + 7) (by omega) (by omega) (D_Facts_add T) (D_law_facts T n) (D_Facts_init T)) (p_law_facts (wfFacts C_Facts n) (n + 1) fun n' e => by
      obtain rfl : n = n' := by omega
      exact fun _ _ _ h => h)
theorem D_law_due (T : Tops K mg base C_Facts) : Def P w0 K mg base 1 "_law_due" s_law_due ["_law_some"] (wfDue) := def_of T.a_law_due sc_law_due (dv_law_due T) (p_law_due)
theorem D_law_text (T : Tops K mg base C_Facts) : Def P w0 K mg base 1 "_law_text" s_law_text ["_law_due_here"] (wfText) := def_of T.a_law_text sc_law_text (dv_law_text T) (p_law_text)
theorem D_law_told (T : Tops K mg base C_Facts) : Def P w0 K mg base 1 "_law_told" s_law_told ["_law_facts_here"] (wfTold C_Facts) := def_of T.a_law_told sc_law_told (dv_law_told T) (p_law_told)
theorem D_law_probes (T : Tops K mg base C_Facts) : Def P w0 K mg base 2 "_law_probes" s_law_probes ["_law_deck_here", "_law_due_here", "_law_words"] (wfProbes) := def_of T.a_law_probes sc_law_probes (dv_law_probes T (D_law_draw T)) (p_law_probes)
theorem D_law_is_in (T : Tops K mg base C_Facts) : Def P w0 K mg base 1 "_law_is_in" s_law_is_in ["_law_due_here", "_law_probe"] (wfIsIn) := def_of T.a_law_is_in sc_law_is_in (dv_law_is_in T) (p_law_is_in)
theorem D_law_asked_right (T : Tops K mg base C_Facts) : Def P w0 K mg base 3 "_law_asked_right" s_law_asked_right ["_law_deck_here", "_law_facts_here", "_law_due_here", "_law_words"] (wfAsk C_Facts) := def_of T.a_law_asked_right sc_law_asked_right (dv_law_asked_right T (D_law_probes T) (D_law_is_in T) (D_Facts_contains T) (D_law_told T) (D_law_text T)) (p_law_asked_right)
theorem D_law_sums_right (T : Tops K mg base C_Facts) : Def P w0 K mg base 12 "_law_sums_right" s_law_sums_right ["_law_deck_here", "_law_lots", "_law_words"] (wfSums C_Facts) := def_of T.a_law_sums_right sc_law_sums_right (dv_law_sums_right T ((D_law_facts T 2).mono (by decide)) (D_law_told T) ((D_Facts_add T).mono (by decide)) (D_law_due T) (D_law_asked_right T) (D_Facts_eq T) (D_Facts_init T)) (p_law_sums_right)
theorem law_end {h : Heap} {fa : Addr} (_ : K.In h) (_ : h.Ns mainGlobals mg) (_ : ∃ o, h.get? sysModules = some o) (hfa : mg "law" = some (.ref fa)) (T0 : Tops K mg h C_Facts) :
    ∃ fd : FuncData, (∀ (s : Shared) (u : Value), BindsTo s fd ⟨[u], []⟩ [("_law_script", u)]) ∧ ∀ base : Heap, K.In base → base.Ns mainGlobals mg → (∃ o, base.get? sysModules = some o) → FnG P w0 K mg base 13 fa fd ["_law_script"] (spD K 1 wfLaw) := by
  obtain ⟨f, fd, h1, F⟩ := T0.a_law_main
  have e := hfa.symm.trans h1
  cases e
  refine ⟨fd, fun s u => ?_, fun base _ _ hsm => ?_⟩
  · obtain ⟨oc, od, kV, doc, pm, an, cdv, ct, osl, rfl, lk, hcd⟩ := F.ex
    exact .of_eq rfl
  · have T : Tops K mg base C_Facts := { T0 with sm := hsm }
    exact fn_dat F sc_law_main rfl (dv_law_main T (D_law_deck T) (D_law_names T) ((D_law_facts T 2).mono (by decide)) (D_law_draw T) (D_law_sums_right T) (D_law_asked_right T) (D_law_pick T) (D_law_due T) fa) p_law
end
end K11

set_option Elab.async false
set_option linter.all false
set_option maxRecDepth 100000
set_option maxHeartbeats 0
/-! K11h: the end. -/
open PySem PySem.W PyProof.Rows

theorem PySem.Challenge.cw_failsalike_k11_facts_added_and_asked_holds : PySem.Challenge.rw_failsalike_k11_facts_added_and_asked.Holds := by
  w_on; o_law; k_head; (case hw => w_witness2)
  k_fill
  refine Dz.walk_ofG (l := PySem.Challenge.rw_failsalike_k11_facts_added_and_asked) (n := 63) (k := 13) (x := "_law_script") (sp := fun K => Dz.spD K 1 K11.wfLaw) rfl (by decide) (by decide +kernel) rfl ⟨rfl, by decide, by decide⟩ (fun w h Y => PySem.W.kIn_of Y) ?F ?hsp
  case hsp => exact fun K H a ns _ _ hS => Dz.law_start (fun μ P hq => ⟨ns, rfl, hq⟩) hS
  case F =>
    intro w mg fa h KX G hsm hmg
    refine' K11.law_end KX G hsm hmg ?T
    case T =>
      refine' K11.Tops.mk ?t0 ?t1 ?t2 ?t3 ?t4 ?t5 ?t6 ?t7 ?t8 ?t9 ?t10 ?t11 ?t12 ?t13 ?t14 ?t15 ?t16 ?t17 ?t18 ?t19 ?t20 ?t21 ?t22 ?t23 ?t24 ?t25 ?t26 ?t27 ?t28 ?t29 ?t30 ?t31 ?t32 ?t33 ?t34 ?t35 ?t36 ?t37 ?t38 ?t39 ?t40 ?t41 ?t42 ?t43 ?t44 ?t45 ?t46 ?t47
      case t3 =>
        refine' PySem.W.mg_of KX G ?a
        (case a => k_is)
      case t0 =>
        refine' Dz.cls_of ?a ?b ?c ?d
        (case a => k_is); (case b => k_is); (case c => k_is); (case d => k_is)
      case t1 =>
        refine' Dz.isiC_of ?a ?b ?c ?d
        (case a => k_is); (case b => k_is); (case c => k_is); (case d => k_is)
      case t2 =>
        k_is
      case t4 =>
        refine' Dz.noAttr_of ?a
        (case a => k_is)
      case t5 =>
        refine' Dz.noAttr_of ?a
        (case a => k_is)
      case t6 =>
        refine' Dz.noAttr_of ?a
        (case a => k_is)
      case t7 =>
        refine' Dz.noAttr_of ?a
        (case a => k_is)
      case t8 =>
        refine' Dz.noAttr_of ?a
        (case a => k_is)
      case t9 =>
        refine' Dz.noAttr_of ?a
        (case a => k_is)
      case t10 =>
        refine' Dz.noAttr_of ?a
        (case a => k_is)
      case t11 =>
        refine' Dz.at1_of KX G ?a ?l ?c ?k
        (case a => k_is); (case l => k_is); (case c => k_is); (case k => k_is)
      case t12 =>
        refine' Dz.at1_of KX G ?a ?l ?c ?k
        (case a => k_is); (case l => k_is); (case c => k_is); (case k => k_is)
      case t13 =>
        refine' Dz.at1_of KX G ?a ?l ?c ?k
        (case a => k_is); (case l => k_is); (case c => k_is); (case k => k_is)
      case t14 =>
        refine' Dz.at1_of KX G ?a ?l ?c ?k
        (case a => k_is); (case l => k_is); (case c => k_is); (case k => k_is)
      case t15 =>
        refine' Dz.atK_of (PySem.W.mg_of KX G ?b) ?m ?n ?a ?i ?l ?c ?k
        (case b => k_is); (case m => k_is); (case n => k_is); (case a => k_is); (case i => k_is); (case l => k_is); (case c => k_is); (case k => k_is)
      case t16 =>
        refine' Dz.atM_of (Dz.cls_of ?x ?y ?z ?w) ?a ?i ?l ?c ?k
        (case x => k_is); (case y => k_is); (case z => k_is); (case w => k_is); (case a => k_is); (case i => k_is); (case l => k_is); (case c => k_is); (case k => k_is)
      case t17 =>
        refine' Dz.atM_of (Dz.cls_of ?x ?y ?z ?w) ?a ?i ?l ?c ?k
        (case x => k_is); (case y => k_is); (case z => k_is); (case w => k_is); (case a => k_is); (case i => k_is); (case l => k_is); (case c => k_is); (case k => k_is)
      case t18 =>
        refine' Dz.atM_of (Dz.cls_of ?x ?y ?z ?w) ?a ?i ?l ?c ?k
        (case x => k_is); (case y => k_is); (case z => k_is); (case w => k_is); (case a => k_is); (case i => k_is); (case l => k_is); (case c => k_is); (case k => k_is)
      case t19 =>
        refine' Dz.at1_of KX G ?a ?l ?c ?k
        (case a => k_is); (case l => k_is); (case c => k_is); (case k => k_is)
      case t20 =>
        refine' Dz.at1_of KX G ?a ?l ?c ?k
        (case a => k_is); (case l => k_is); (case c => k_is); (case k => k_is)
      case t21 =>
        refine' Dz.at1_of KX G ?a ?l ?c ?k
        (case a => k_is); (case l => k_is); (case c => k_is); (case k => k_is)
      case t22 =>
        refine' Dz.at1_of KX G ?a ?l ?c ?k
        (case a => k_is); (case l => k_is); (case c => k_is); (case k => k_is)
      case t23 =>
        refine' Dz.at1_of KX G ?a ?l ?c ?k
        (case a => k_is); (case l => k_is); (case c => k_is); (case k => k_is)
      case t24 =>
        refine' Dz.at1_of KX G ?a ?l ?c ?k
        (case a => k_is); (case l => k_is); (case c => k_is); (case k => k_is)
      case t25 =>
        refine' Dz.at1_of KX G ?a ?l ?c ?k
        (case a => k_is); (case l => k_is); (case c => k_is); (case k => k_is)
      case t26 =>
        refine' Dz.at1_of KX G ?a ?l ?c ?k
        (case a => k_is); (case l => k_is); (case c => k_is); (case k => k_is)
      case t27 =>
        refine' Dz.at1_of KX G ?a ?l ?c ?k
        (case a => k_is); (case l => k_is); (case c => k_is); (case k => k_is)
      case t28 =>
        refine' Dz.at1_of KX G ?a ?l ?c ?k
        (case a => k_is); (case l => k_is); (case c => k_is); (case k => k_is)
      case t29 =>
        refine' Dz.at1_of KX G ?a ?l ?c ?k
        (case a => k_is); (case l => k_is); (case c => k_is); (case k => k_is)
      case t30 =>
        refine' Dz.at1_of KX G ?a ?l ?c ?k
        (case a => k_is); (case l => k_is); (case c => k_is); (case k => k_is)
      case t31 =>
        refine' Dz.at1_of KX G ?a ?l ?c ?k
        (case a => k_is); (case l => k_is); (case c => k_is); (case k => k_is)
      case t32 =>
        refine' Dz.at1_of KX G ?a ?l ?c ?k
        (case a => k_is); (case l => k_is); (case c => k_is); (case k => k_is)
      case t33 =>
        refine' PySem.W.mg_none_of KX G ?z
        (case z => k_is)
      case t34 =>
        refine' PySem.W.mg_none_of KX G ?z
        (case z => k_is)
      case t35 =>
        refine' PySem.W.mg_none_of KX G ?z
        (case z => k_is)
      case t36 =>
        refine' PySem.W.mg_none_of KX G ?z
        (case z => k_is)
      case t37 =>
        refine' PySem.W.mg_none_of KX G ?z
        (case z => k_is)
      case t38 =>
        refine' PySem.W.mg_none_of KX G ?z
        (case z => k_is)
      case t39 =>
        refine' PySem.W.mg_none_of KX G ?z
        (case z => k_is)
      case t40 =>
        refine' PySem.W.mg_none_of KX G ?z
        (case z => k_is)
      case t41 =>
        refine' PySem.W.mg_none_of KX G ?z
        (case z => k_is)
      case t42 =>
        refine' PySem.W.mg_none_of KX G ?z
        (case z => k_is)
      case t43 =>
        refine' PySem.W.mg_none_of KX G ?z
        (case z => k_is)
      case t44 =>
        refine' ⟨_, PySem.W.mg_of KX G ?a, ?b⟩
        (case a => k_is); (case b => exact ⟨_, rfl⟩)
      case t45 =>
        refine' ⟨_, PySem.W.mg_of KX G ?a, ?b⟩
        (case a => k_is); (case b => exact ⟨_, rfl⟩)
      case t46 =>
        refine' ⟨_, PySem.W.mg_of KX G ?a, ?b⟩
        (case a => k_is); (case b => exact ⟨_, rfl⟩)
      case t47 =>
        exact hsm
