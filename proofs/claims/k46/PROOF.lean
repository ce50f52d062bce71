import PyProof.Rows.All
import Wide.All
import OpenK.AllK
import Wide.FinOn
import HandS.ForMost
import HandS.IsInst
import HandS.TupLe
import HandS.TupAny
import HandS.Deep
import HandS.Wide
import KE.KeyNested
import HandS.Style
import PyProof.ReprBulk
import PyProof.FitsInt
import PyProof.Rows.StrReprJoin
import HandS.Star
import HandS.Iter
import KE.SortData
import KE.GoesMore
import KE.GoesEnum
import PyProof.EnumMake
import PyProof.Draws
import PyProof.RulesMatch
import HandS.More
import HandS.NoneIn
import PyProof.AutoSeq1
import HandS.Small
import HandS.TupMul
import HandS.Strs
import KE.KDictPairs
import KE.KDictCopyH
import HandS.DictTup
import HandS.ReCall
import PyProof.Rows.TupDisplay
import HandS.DictComp
import KE.KDictWalk
import HandS.TupLen
import HandS.Conv
import PyProof.DictMoreH
import PyProof.IsRules
import KE.LtData
import PySem.Challenge.RW_failsalike_k46_atoms_by_hand
import HandS.Set
import HandS.SetTxt0
import HandS.SetBool
set_option Elab.async false
set_option linter.all false
set_option maxRecDepth 100000
set_option maxHeartbeats 4000000
/-! DzT0: tuples that are known to have no dict of their own: laid as .frz o (.tup xs). -/
namespace Dz
open PySem PySem.Spec L2 PyProof.Rows

/-- a new tuple's object: of the class tuple, without a dict of its own -/
def NewT (o : Obj) : Prop := o.cls = .type "tuple" ∧ o.dict = none
/-- a tuple known to have no dict of its own -/
def SqN (K : PySem.W.Frag) (H : Hp) (a : Addr) (xs : List V) : Prop :=
  (∃ o : Obj, H a = some (.frz o (.tup xs)) ∧ NewT o) ∨
    ∃ (o : Obj) (its : Array Value) (n : Nat), K.lookup a = some o ∧ NewT o ∧ o.data = .seq its n ∧ its.size ≤ sizeLine ∧ Vals xs its.toList
theorem SqN.t {K : PySem.W.Frag} {H : Hp} {a : Addr} {xs : List V} (h : SqN K H a xs) : SqT K H a xs := by
  rcases h with ⟨o, h, _⟩ | ⟨o, its, n, h1, h2, h3⟩
  · exact .inl (.inr ⟨o, h⟩)
  · exact .inr ⟨o, its, n, h1, h2.1, h3⟩
section
variable {X : Cx}
theorem newT_ok {P : Program} {w : World} {H : Hp} {h : Heap} {us : List Value} {xs : List V} (r : Vals xs us) (z : xs.length ≤ sizeLine) :
    ObjOk P w H (h.push { cls := .type "tuple", data := .seq us.toArray }) h.objs.size (.frz { cls := .type "tuple", data := .seq us.toArray } (.tup xs)) :=
  ⟨Heap.get?_push_size _ rfl, z, us, r, ⟨_, Heap.get?_push_size _ rfl, rfl, _, rfl⟩⟩
variable {e : Expr} {es : List Expr} {te : TE} {t : TA} {pos : Pos}
def tTupN (t : TA) : TE := fun σ H Q => t σ H fun xs H1 => xs.length ≤ sizeLine ∧ ∀ p o, H1 p = none → NewT o → Q (.ref p) (upd H1 p (.frz o (.tup xs)))
theorem pe_tupN {x1} (h : PA X es t) : PE X (.Tuple es x1 pos) (tTupN t) := by
  refine ⟨fun pins s σ H Q I hq => ?_⟩
  refine wpAny_Tuple_spliced (thn (h.run pos pins s σ H _ I hq) fun us s1 ⟨xs, H1, I1, r, z, q⟩ => ⟨by rw [← r.length]; exact z, ?_⟩)
  have hf : H1 s1.heap.objs.size = none := I1.hok.fresh (Nat.le_refl _)
  exact ⟨.ref s1.heap.objs.size, upd H1 s1.heap.objs.size (.frz { cls := .type "tuple", data := .seq us.toArray } (.tup xs)), I1.laid (t' := s1.toks) (fun b u e => Heap.get?_push_of_some _ e) (Nat.le_refl _) (newT_ok r z), rfl, q _ _ hf ⟨rfl, rfl⟩⟩
theorem call_tupleN : CallR X (.type "tuple") (fun xs H Q => ∃ p ys, xs = [.ref p] ∧ ((SqL X.K H p ys ∧ ∀ l o, H l = none → NewT o → Q (.ref l) (upd H l (.frz o (.tup ys)))) ∨ (SqT X.K H p ys ∧ Q (.ref p) H))) := by
  intro pins s σ H xs us Q I r h
  obtain ⟨p, ys, rfl, h⟩ := h
  obtain ⟨u, rfl, rx⟩ := vals1 r
  cases rx
  rcases h with ⟨hq, q⟩ | ⟨hq, q⟩
  · obtain ⟨its, r', pl, hz⟩ := I.list hq
    have hlen := r'.length
    refine call_tuple_list pl.isList (fun h' kp => ?_) (by simp only [List.size_toArray] <;> omega)
    have I1 : Inv X pins σ H { s with heap := h' } := I.kept (t' := s.toks) kp
    exact ⟨.ref h'.objs.size, _, I1.laid (t' := s.toks) (fun b o e => Heap.get?_push_of_some _ e) (Nat.le_refl _) (newT_ok r' hz), rfl, q _ _ (I1.hok.fresh (Nat.le_refl _)) ⟨rfl, rfl⟩⟩
  · obtain ⟨its, r', pl, hz⟩ := I.tuple hq
    exact call_tuple_same pl ⟨.ref p, H, I, rfl, q⟩
/-- t + u -/
def rCatN (K : PySem.W.Frag) : R2 := fun x y H Q => ∃ a b xs ys, x = .ref a ∧ y = .ref b ∧ SqT K H a xs ∧ SqT K H b ys ∧ xs.length + ys.length ≤ sizeLine ∧
  (xs = [] → Q (.ref b) H) ∧ (xs ≠ [] → ys = [] → Q (.ref a) H) ∧ (xs ≠ [] → ys ≠ [] → ∀ p o, H p = none → NewT o → Q (.ref p) (upd H p (.frz o (.tup (xs ++ ys)))))
theorem op_catN : OpR X (binaryOp .Add) (rCatN X.K) := by
  intro pins s σ H x y v u Q I rx ry h
  obtain ⟨a, b, xs, ys, rfl, rfl, ha, hb, hz, q0, q1, q2⟩ := h
  cases rx
  cases ry
  obtain ⟨its, r1, p1, _⟩ := I.tuple ha
  obtain ⟨its2, r2, p2, _⟩ := I.tuple hb
  by_cases hx : xs = []
  · subst hx
    cases r1
    exact cat_tup0 p1 p2 ⟨.ref b, H, I, rfl, q0 rfl⟩
  · refine HT.cat_tup p1 p2 (fun z => hx (r1.nil_iff.mp z)) (fun z => ⟨.ref a, H, I, rfl, q1 hx (r2.nil_iff.mp z)⟩) (fun z => ?_) (by rw [← r1.length, ← r2.length]; exact hz)
    exact ⟨.ref s.heap.objs.size, _, I.laid (t' := s.toks) (fun b ob q => Heap.get?_push_of_some _ q) (Nat.le_refl _) (newT_ok (r1.append r2) (by rw [List.length_append]; exact hz)), rfl, q2 hx (fun w => z (r2.nil_iff.mpr w)) _ _ (I.hok.fresh (Nat.le_refl _)) ⟨rfl, rfl⟩⟩
/-- t[lo:hi]: the whole of it is t itself -/
def rSlN (K : PySem.W.Frag) : V → Option Int → Option Int → Hp → VK → Prop := fun x lo hi H Q => ∃ a xs, x = .ref a ∧ SqT K H a xs ∧
  (HT.sIx xs.length 0 lo = 0 ∧ HT.sIx xs.length xs.length hi = xs.length → Q (.ref a) H) ∧ (¬ (HT.sIx xs.length 0 lo = 0 ∧ HT.sIx xs.length xs.length hi = xs.length) → ∀ p o, H p = none → NewT o → Q (.ref p) (upd H p (.frz o (.tup (cutV xs lo hi)))))
theorem sl_tupN : SlR X (rSlN X.K) := by
  intro pins s σ H x v vl vu lo hi sl Q I rx hs pl pu h
  obtain ⟨a, xs, rfl, hx, q1, q2⟩ := h
  cases rx
  obtain ⟨its, r, ht, hz⟩ := I.tuple hx
  have hlen : its.toArray.size = xs.length := by rw [List.size_toArray]; exact r.length.symm
  refine ⟨"tuple", _, PyProof.Rows.slot_tuple_getitem.lookup, ht.typeIs, ?_⟩
  by_cases hw : HT.sIx xs.length 0 lo = 0 ∧ HT.sIx xs.length xs.length hi = xs.length
  · exact getItem_tuple_whole ht hs pl pu (by rw [hlen]; exact hw) ⟨.ref a, H, I, rfl, q1 hw⟩
  · refine HT.getItem_tuple_cut ht hs pl pu (by rw [hlen]; exact hw) ?_ (by rw [hlen]; exact hz)
    rw [hlen]
    exact ⟨.ref s.heap.objs.size, _, I.laid (t' := s.toks) (fun b ob q => Heap.get?_push_of_some _ q) (Nat.le_refl _) (newT_ok ((r.drop (HT.sIx xs.length 0 lo)).take (HT.sIx xs.length xs.length hi - HT.sIx xs.length 0 lo)) (Nat.le_trans (cutV_length xs lo hi) hz)), rfl, q2 hw _ _ (I.hok.fresh (Nat.le_refl _)) ⟨rfl, rfl⟩⟩
end
end Dz

set_option Elab.async false
set_option linter.all false
set_option maxRecDepth 100000
set_option maxHeartbeats 4000000
/-! Dz1: values as plain data, the objects that may change beside them, and what a reading over data says. -/
namespace Dz
open PySem L2

/-- plain data; obj: an object that may change, by its address -/
inductive DV where
  | none | bool (b : Bool) | int (i : Int) | str (x : Str)
  | tup (ds : List DV) | lst (ds : List DV) | dct (kvs : List (Key × DV)) | obj (a : Addr)
  /-- a list that is read alone (the script) -/
  | fix (ds : List DV)
  /-- a dict that changes no more, whose keys are of any depth; hs: the keys' hash, as this run has it -/
  | dn (hs : NestedKey → Int) (ks vs : List DV)

mutual
/-- data that can be a key of any depth -/
def nkey : DV → Option NestedKey
  | .none => some .none
  | .int i => some (.num i)
  | .str x => some (.text x)
  | .tup ds => (nkeys ds).map .tup
  | _ => none
def nkeys : List DV → Option (List NestedKey)
  | [] => some []
  | d :: ds => match nkey d, nkeys ds with
    | some k, some ks => some (k :: ks)
    | _, _ => none
end
/-- the object of a dict with keys at addresses -/
def rawN (a : Addr) (hs : NestedKey → Int) (es : List (NestedKey × Addr × V)) : HO := .ext fun h => es.length ≤ sizeLine ∧ (a == sysModules) = false ∧ ∃ xs : List (NestedKey × Addr × Value),
  xs.map (fun x => (x.1, x.2.1)) = es.map (fun e => (e.1, e.2.1)) ∧ Vals (es.map (·.2.2)) (xs.map (·.2.2)) ∧
  ∃ o ds ep, h.get? a = some o ∧ o.ExactDict ∧ o.data = .dict ds ep ∧ ds.toList = xs.map fun x => ⟨hs x.1, .ref x.2.1, x.2.2⟩

mutual
/-- the value v is the data d, as the heap stands -/
inductive Is (K : PySem.W.Frag) (H : Hp) : V → DV → Prop
  | none : Is K H .non .none
  | bool (b : Bool) : Is K H (.bl b) (.bool b)
  | int (i : Int) : Is K H (.int i) (.int i)
  | str (x : Str) : Is K H (.str x) (.str x)
  | tup {a : Addr} {xs : List V} {ds : List DV} : SqN K H a xs → Iss K H xs ds → Is K H (.ref a) (.tup ds)
  | lst {a : Addr} {xs : List V} {ds : List DV} : H a = some (.lst xs) → Iss K H xs ds → Is K H (.ref a) (.lst ds)
  | dct {a : Addr} {kvs : List (Key × V)} {ds : List (Key × DV)} : H a = some (.dK kvs) → kvs.map (·.1) = ds.map (·.1) → Iss K H (kvs.map (·.2)) (ds.map (·.2)) → Is K H (.ref a) (.dct ds)
  | obj (a : Addr) : Is K H (.ref a) (.obj a)
  | fix {a : Addr} {xs : List V} {ds : List DV} : SqL K H a xs → Iss K H xs ds → Is K H (.ref a) (.fix ds)
  | dn {a : Addr} {o : Obj} {hs : NestedKey → Int} {es : List (NestedKey × Addr × V)} {ks vs : List DV} : H a = some (.frz o (rawN a hs es)) → nkeys ks = some (es.map (·.1)) → (∀ e ∈ es, e.1.depth ≤ 8) → (es.map (·.1)).Nodup → Iss K H (es.map fun e => .ref e.2.1) ks → Iss K H (es.map (·.2.2)) vs → Is K H (.ref a) (.dn hs ks vs)
inductive Iss (K : PySem.W.Frag) (H : Hp) : List V → List DV → Prop
  | nil : Iss K H [] []
  | cons {v : V} {vs : List V} {d : DV} {ds : List DV} : Is K H v d → Iss K H vs ds → Iss K H (v :: vs) (d :: ds)
end

theorem Same.seqT {K : PySem.W.Frag} {H H' : Hp} {a : Addr} {xs : List V} (e : Same H H') (h : SqT K H a xs) : SqT K H' a xs := by
  rcases h with (h | ⟨o, h⟩) | h
  · exact .inl (.inl (e _ _ h))
  · exact .inl (.inr ⟨o, e _ _ h⟩)
  · exact .inr h

theorem Same.seqN {K : PySem.W.Frag} {H H' : Hp} {a : Addr} {xs : List V} (e : Same H H') (h : SqN K H a xs) : SqN K H' a xs := by
  rcases h with ⟨o, h, n⟩ | h
  · exact .inl ⟨o, e _ _ h, n⟩
  · exact .inr h

mutual
theorem Is.mono {K : PySem.W.Frag} {H H' : Hp} (e : Same H H') : ∀ {v : V} {d : DV}, Is K H v d → Is K H' v d
  | _, _, .none => .none
  | _, _, .bool b => .bool b
  | _, _, .int i => .int i
  | _, _, .str x => .str x
  | _, _, .tup h r => .tup (Same.seqN e h) (Iss.mono e r)
  | _, _, .lst h r => .lst (e _ _ h) (Iss.mono e r)
  | _, _, .dct h k r => .dct (e _ _ h) k (Iss.mono e r)
  | _, _, .obj a => .obj a
  | _, _, .fix h r => .fix (e.seq h) (Iss.mono e r)
  | _, _, .dn h n dp nd r r2 => .dn (e _ _ h) n dp nd (Iss.mono e r) (Iss.mono e r2)
theorem Iss.mono {K : PySem.W.Frag} {H H' : Hp} (e : Same H H') : ∀ {vs : List V} {ds : List DV}, Iss K H vs ds → Iss K H' vs ds
  | _, _, .nil => .nil
  | _, _, .cons h r => .cons (Is.mono e h) (Iss.mono e r)
end
theorem Iss.length {K : PySem.W.Frag} {H : Hp} : ∀ {vs : List V} {ds : List DV}, Iss K H vs ds → vs.length = ds.length
  | _, _, .nil => rfl
  | _, _, .cons _ r => congrArg (· + 1) (Iss.length r)
theorem Iss.append {K : PySem.W.Frag} {H : Hp} : ∀ {vs us : List V} {ds es : List DV}, Iss K H vs ds → Iss K H us es → Iss K H (vs ++ us) (ds ++ es)
  | _, _, _, _, .nil, s => s
  | _, _, _, _, .cons h r, s => .cons h (Iss.append r s)
theorem Iss.take {K : PySem.W.Frag} {H : Hp} : ∀ {vs : List V} {ds : List DV} (n : Nat), Iss K H vs ds → Iss K H (vs.take n) (ds.take n)
  | _, _, 0, _ => .nil
  | _, _, _ + 1, .nil => .nil
  | _, _, n + 1, .cons h r => .cons h (Iss.take n r)
theorem Iss.drop {K : PySem.W.Frag} {H : Hp} : ∀ {vs : List V} {ds : List DV} (n : Nat), Iss K H vs ds → Iss K H (vs.drop n) (ds.drop n)
  | _, _, 0, r => r
  | _, _, _ + 1, .nil => .nil
  | _, _, n + 1, .cons _ r => Iss.drop n r
theorem Iss.get {K : PySem.W.Frag} {H : Hp} : ∀ {vs : List V} {ds : List DV} {i : Nat} {d : DV}, Iss K H vs ds → ds[i]? = some d → ∃ v, vs[i]? = some v ∧ Is K H v d
  | _, _, _, _, .nil, e => by simp at e
  | _, _, 0, d, .cons h _, e => by simp at e; subst e; exact ⟨_, rfl, h⟩
  | _, _, i + 1, d, .cons _ r, e => by
    obtain ⟨v, h1, h2⟩ := Iss.get (i := i) (d := d) r (by simpa using e)
    exact ⟨v, by simpa using h1, h2⟩
theorem Iss.getV {K : PySem.W.Frag} {H : Hp} : ∀ {vs : List V} {ds : List DV} {i : Nat} {v : V}, Iss K H vs ds → vs[i]? = some v → ∃ d, ds[i]? = some d ∧ Is K H v d
  | _, _, _, _, .nil, e => by simp at e
  | _, _, 0, v, .cons h _, e => by simp at e; subst e; exact ⟨_, rfl, h⟩
  | _, _, i + 1, v, .cons _ r, e => by
    obtain ⟨d, h1, h2⟩ := Iss.getV (i := i) (v := v) r (by simpa using e)
    exact ⟨d, by simpa using h1, h2⟩
theorem Iss.set {K : PySem.W.Frag} {H : Hp} {v : V} {d : DV} (h : Is K H v d) : ∀ {vs : List V} {ds : List DV} (i : Nat), Iss K H vs ds → Iss K H (vs.set i v) (ds.set i d)
  | _, _, _, .nil => .nil
  | _, _, 0, .cons _ r => .cons h r
  | _, _, i + 1, .cons q r => .cons q (Iss.set h i r)
theorem Iss.replicate {K : PySem.W.Frag} {H : Hp} {vs : List V} {ds : List DV} (r : Iss K H vs ds) : ∀ n : Nat, Iss K H (List.replicate n vs).flatten (List.replicate n ds).flatten
  | 0 => .nil
  | n + 1 => by
    rw [List.replicate_succ, List.replicate_succ, List.flatten_cons, List.flatten_cons]
    exact r.append (Iss.replicate r n)
theorem Iss.reverse {K : PySem.W.Frag} {H : Hp} : ∀ {vs : List V} {ds : List DV}, Iss K H vs ds → Iss K H vs.reverse ds.reverse
  | _, _, .nil => .nil
  | _, _, .cons h r => by
    rw [List.reverse_cons, List.reverse_cons]
    exact (Iss.reverse r).append (.cons h .nil)

/-! ### objects that change -/
inductive MO where
  /-- a dict whose keys are tuples, of any depth; hs: the keys' hash, as this run has it -/
  | dcN (hs : NestedKey → Int) (kvs : List (NestedKey × DV))
  | lst (ds : List DV) | dct (kvs : List (Key × DV)) | ins (C : Addr) (fs : List (Str × DV))
  /-- an object of which only φ is known: it stays so as long as it and the addresses near stay -/
  | ext (near : List Addr) (φ : Hp → Prop)
  /-- an object that belongs to another one -/
  | inner
abbrev Mh := Addr → Option MO
def updM (μ : Mh) (a : Addr) (o : MO) : Mh := fun b => if b = a then some o else μ b
theorem updM_same {μ : Mh} {a : Addr} {o : MO} : updM μ a o a = some o := by unfold updM; rw [if_pos rfl]
theorem updM_ne {μ : Mh} {a b : Addr} {o : MO} (h : b ≠ a) : updM μ a o b = μ b := by unfold updM; rw [if_neg h]

/-- what is neither framed nor an object -/
def hid (R : Hp) (μ : Mh) (H : Hp) : Hp := fun a => if (R a).isNone = true ∧ (μ a).isNone = true then H a else none
theorem hid_at {R : Hp} {μ : Mh} {H : Hp} {a : Addr} (h1 : R a = none) (h2 : μ a = none) : hid R μ H a = H a := by
  unfold hid
  rw [if_pos ⟨by rw [h1]; rfl, by rw [h2]; rfl⟩]
theorem hid_some {R : Hp} {μ : Mh} {H : Hp} {a : Addr} {o : HO} (h : hid R μ H a = some o) : R a = none ∧ μ a = none ∧ H a = some o := by
  unfold hid at h
  split at h
  · rename_i c
    exact ⟨by simpa using c.1, by simpa using c.2, h⟩
  · cases h
theorem hid_le {R : Hp} {μ : Mh} {H : Hp} : Same (hid R μ H) H := fun _ _ h => (hid_some h).2.2

def MOk (K : PySem.W.Frag) (Hm H : Hp) (μ : Mh) (a : Addr) : MO → Prop
  | .dcN hs ks => ∃ es : List (NestedKey × Addr × V), H a = some (rawN a hs es) ∧ (∀ e ∈ es, e.1.depth ≤ 8 ∧ ∃ d, Is K Hm (.ref e.2.1) d ∧ nkey d = some e.1) ∧ (es.map (·.1)).Nodup ∧ es.map (·.1) = ks.map (·.1) ∧ Iss K Hm (es.map (·.2.2)) (ks.map (·.2))
  | .lst ds => ∃ xs, H a = some (.lst xs) ∧ Iss K Hm xs ds
  | .dct ks => ∃ kvs : List (Key × V), H a = some (.dK kvs) ∧ kvs.map (·.1) = ks.map (·.1) ∧ Iss K Hm (kvs.map (·.2)) (ks.map (·.2))
  | .ins C fs => ∃ dx gs, H a = some (.ins C dx gs) ∧ gs.map (·.1) = fs.map (·.1) ∧ Iss K Hm (gs.map (·.2)) (fs.map (·.2))
  | .ext near φ => φ H ∧ (∃ o, H a = some o) ∧ (∀ b ∈ near, μ b = some .inner) ∧ ∀ H1 H2 : Hp, φ H1 → (∀ b, b = a ∨ b ∈ near → H2 b = H1 b) → φ H2
  | .inner => ∃ o, H a = some o

structure Ok (K : PySem.W.Frag) (R : Hp) (μ : Mh) (H : Hp) : Prop where
  fr : ∀ a o, R a = some o → H a = some o
  dj : ∀ a o, R a = some o → μ a = none
  ob : ∀ a o, μ a = some o → MOk K (hid R μ H) H μ a o
theorem MOk.here {K : PySem.W.Frag} {Hm H : Hp} {μ : Mh} {a : Addr} : ∀ {o : MO}, MOk K Hm H μ a o → ∃ u, H a = some u
  | .dcN _ _, h => let ⟨_, e, _⟩ := h; ⟨_, e⟩
  | .lst _, h => let ⟨_, e, _⟩ := h; ⟨_, e⟩
  | .dct _, h => let ⟨_, e, _⟩ := h; ⟨_, e⟩
  | .ins _ _, h => let ⟨_, _, e, _⟩ := h; ⟨_, e⟩
  | .ext _ _, h => h.2.1
  | .inner, h => h
section
variable {K : PySem.W.Frag} {R : Hp} {μ μ' : Mh} {H H' : Hp} {p : Addr} {o : HO}
theorem Ok.freeM (k : Ok K R μ H) (h : H p = none) : μ p = none := by
  cases e : μ p with
  | none => rfl
  | some q => obtain ⟨u, z⟩ := (k.ob p q e).here; rw [h] at z; cases z
theorem Ok.freeR (k : Ok K R μ H) (h : H p = none) : R p = none := by
  cases e : R p with
  | none => rfl
  | some q => have z := k.fr p q e; rw [h] at z; cases z
theorem Ok.hidNew (k : Ok K R μ H) (h : H p = none) : hid R μ (upd H p o) = upd (hid R μ H) p o := by
  funext b
  by_cases e : b = p
  · subst e
    rw [upd_same, hid_at (k.freeR h) (k.freeM h), upd_same]
  · unfold hid
    rw [upd_ne e, upd_ne e]
theorem Ok.sameNew (k : Ok K R μ H) (h : H p = none) : Same (hid R μ H) (hid R μ (upd H p o)) := fun b u e => by
  rw [k.hidNew h, upd_ne (fun z => ?_)]
  · exact e
  · subst z
    have := hid_le b u e
    rw [h] at this
    cases this
theorem MOk.mono {Hm Hm' : Hp} {a : Addr} (s : Same Hm Hm') (e : H' a = H a) (en : ∀ b ∈ (match μ a with | some (.ext near _) => near | _ => []), H' b = H b) : ∀ {o : MO}, μ a = some o → (∀ b, μ b = some .inner → μ' b = some .inner) → MOk K Hm H μ a o → MOk K Hm' H' μ' a o
  | .dcN _ _, _, _, ⟨es, h, ks, nd, q, r⟩ => ⟨es, e.trans h, fun x hx => let ⟨z, d, i, n⟩ := ks x hx; ⟨z, d, i.mono s, n⟩, nd, q, r.mono s⟩
  | .lst _, _, _, ⟨xs, h, r⟩ => ⟨xs, e.trans h, r.mono s⟩
  | .dct _, _, _, ⟨xs, h, q, r⟩ => ⟨xs, e.trans h, q, r.mono s⟩
  | .ins _ _, _, _, ⟨dx, gs, h, q, r⟩ => ⟨dx, gs, e.trans h, q, r.mono s⟩
  | .ext near φ, hm, hi, ⟨h, ⟨u, hu⟩, hn, st⟩ => by
    rw [hm] at en
    refine ⟨st H H' h (fun b hb => ?_), ⟨u, e.trans hu⟩, fun b hb => hi b (hn b hb), st⟩
    rcases hb with rfl | hb
    · exact e
    · exact en b hb
  | .inner, _, _, ⟨u, h⟩ => ⟨u, e.trans h⟩
/-- a new thing, not an object that changes -/
theorem Ok.new (k : Ok K R μ H) (h : H p = none) : Ok K R μ (upd H p o) := by
  have ne : ∀ {b u}, H b = some u → b ≠ p := fun e z => by subst z; rw [h] at e; cases e
  refine ⟨fun a u e => ?_, k.dj, fun a u e => ?_⟩
  · rw [upd_ne (ne (k.fr a u e))]
    exact k.fr a u e
  · obtain ⟨w, hw⟩ := (k.ob a u e).here
    refine (k.ob a u e).mono (k.sameNew h) (upd_ne (ne hw)) (fun b hb => ?_) e (fun _ z => z)
    rw [e] at hb
    cases u with
    | ext near φ =>
      obtain ⟨_, _, hn, _⟩ := k.ob a _ e
      obtain ⟨v, hv⟩ := (k.ob b _ (hn b hb)).here
      exact upd_ne (ne hv)
    | _ => cases hb
/-- a new object that may change -/
theorem Ok.newM {m : MO} (k : Ok K R μ H) (h : H p = none) (hm : MOk K (hid R (updM μ p m) (upd H p o)) (upd H p o) (updM μ p m) p m) (hne : m ≠ .inner) : Ok K R (updM μ p m) (upd H p o) ∧ Same (hid R μ H) (hid R (updM μ p m) (upd H p o)) := by
  have ne : ∀ {b u}, H b = some u → b ≠ p := fun e z => by subst z; rw [h] at e; cases e
  have fm := k.freeM h
  have hs : Same (hid R μ H) (hid R (updM μ p m) (upd H p o)) := fun b u e => by
    obtain ⟨e1, e2, e3⟩ := hid_some e
    rw [hid_at e1 (by rw [updM_ne (ne e3)]; exact e2), upd_ne (ne e3)]
    exact e3
  refine ⟨⟨fun a u e => ?_, fun a u e => ?_, fun a u e => ?_⟩, hs⟩
  · rw [upd_ne (ne (k.fr a u e))]
    exact k.fr a u e
  · rw [updM_ne (ne (k.fr a u e))]
    exact k.dj a u e
  · by_cases z : a = p
    · subst z
      rw [updM_same] at e
      cases e
      exact hm
    · rw [updM_ne z] at e
      refine (k.ob a u e).mono hs (upd_ne z) (fun b hb => ?_) e (fun b q => ?_)
      · rw [e] at hb
        cases u with
        | ext near φ =>
          obtain ⟨_, _, hn, _⟩ := k.ob a _ e
          obtain ⟨v, hv⟩ := (k.ob b _ (hn b hb)).here
          exact upd_ne (ne hv)
        | _ => cases hb
      · rw [updM_ne (fun w => by subst w; rw [fm] at q; cases q)]
        exact q
end

/-! ### names -/
abbrev Rho := List (Option DV)
structure Sl (K : PySem.W.Frag) (H : Hp) (σ : St) (ρ : Rho) : Prop where
  len : σ.length = ρ.length
  at_ : ∀ (i : Nat) (d : DV), ρ[i]? = some (some d) → ∃ v, σ[i]? = some (some v) ∧ Is K H v d
section
variable {K : PySem.W.Frag} {H H' : Hp} {σ : St} {ρ : Rho}
theorem Sl.mono (s : Same H H') (h : Sl K H σ ρ) : Sl K H' σ ρ := ⟨h.len, fun i d e => let ⟨v, a, b⟩ := h.at_ i d e; ⟨v, a, b.mono s⟩⟩
theorem Sl.set {v : V} {d : DV} (h : Sl K H σ ρ) (i : Nat) (r : Is K H v d) : Sl K H (σ.set i (some v)) (ρ.set i (some d)) := by
  refine ⟨by rw [List.length_set, List.length_set, h.len], fun j e he => ?_⟩
  by_cases z : i = j
  · subst z
    by_cases hl : i < ρ.length
    · rw [List.getElem?_set_self hl] at he
      cases he
      exact ⟨v, by rw [List.getElem?_set_self (by rw [h.len]; exact hl)], r⟩
    · rw [List.getElem?_eq_none (by rw [List.length_set]; omega)] at he
      cases he
  · rw [List.getElem?_set_ne z] at he ⊢
    exact h.at_ j e he
theorem Sl.unset (h : Sl K H σ ρ) (i : Nat) : Sl K H (σ.set i none) (ρ.set i none) := by
  refine ⟨by rw [List.length_set, List.length_set, h.len], fun j e he => ?_⟩
  by_cases z : i = j
  · subst z
    by_cases hl : i < ρ.length
    · rw [List.getElem?_set_self hl] at he
      cases he
    · rw [List.getElem?_eq_none (by rw [List.length_set]; omega)] at he
      cases he
  · rw [List.getElem?_set_ne z] at he ⊢
    exact h.at_ j e he
/-- the slots of a block's own names forgotten -/
def wipeD (ρ : Rho) : List Nat → Rho
  | [] => ρ
  | v :: vs => (wipeD ρ vs).set v none
theorem Sl.wipe (h : Sl K H σ ρ) : ∀ vs : List Nat, Sl K H (L2.wipe σ vs) (wipeD ρ vs)
  | [] => h
  | v :: vs => (Sl.wipe h vs).unset v
theorem Sl.start {N : List Str} {vs : List V} {ds : List DV} (h : Iss K H vs ds) : Sl K H (L2.start N vs) (ds.map some ++ List.replicate (N.length - ds.length) none) := by
  have hl := h.length
  unfold L2.start
  refine ⟨by simp [hl], fun i d e => ?_⟩
  by_cases hi : i < ds.length
  · rw [List.getElem?_append_left (by simpa using hi), List.getElem?_map] at e
    cases q : ds[i]? with
    | none => rw [q] at e; cases e
    | some d' =>
      rw [q] at e
      cases e
      obtain ⟨v, h1, h2⟩ := h.get q
      refine ⟨v, ?_, h2⟩
      rw [List.getElem?_append_left (by simp; omega), List.getElem?_map, h1]
      rfl
  · rw [List.getElem?_append_right (by simpa using hi), List.getElem?_replicate] at e
    split at e <;> cases e
end

/-! ### readings over data -/
abbrev WE := Rho → Mh → (DV → Mh → Prop) → Prop
abbrev WT := Rho → Mh → (Bool → Mh → Prop) → Prop
abbrev WA := Rho → Mh → (List DV → Mh → Prop) → Prop
structure DEnds where
  nx : Rho → Mh → Prop
  rt : DV → Mh → Prop
  bk : Rho → Mh → Prop := fun _ _ => False
  ct : Rho → Mh → Prop := fun _ _ => False
abbrev WS := DEnds → Rho → Mh → Prop
/-- a def over data -/
abbrev WF := List DV → Mh → (DV → Mh → Prop) → Prop
/-- a target -/
abbrev WG := DV → Rho → (Rho → Prop) → Prop

structure At (K : PySem.W.Frag) (R : Hp) (σ : St) (ρ : Rho) (μ : Mh) (H : Hp) : Prop where
  ok : Ok K R μ H
  sl : Sl K (hid R μ H) σ ρ
def Nxt (K : PySem.W.Frag) (R : Hp) (μ : Mh) (H : Hp) (P : DV → Mh → Prop) (Q : VK) : Prop :=
  ∀ d μ' v H', P d μ' → Ok K R μ' H' → Same (hid R μ H) (hid R μ' H') → Is K (hid R μ' H') v d → Q v H'
def NxtT (K : PySem.W.Frag) (R : Hp) (μ : Mh) (H : Hp) (P : Bool → Mh → Prop) (Q : Bool → Hp → Prop) : Prop :=
  ∀ b μ' H', P b μ' → Ok K R μ' H' → Same (hid R μ H) (hid R μ' H') → Q b H'
def NxtA (K : PySem.W.Frag) (R : Hp) (μ : Mh) (H : Hp) (P : List DV → Mh → Prop) (Q : List V → Hp → Prop) : Prop :=
  ∀ ds μ' vs H', P ds μ' → Ok K R μ' H' → Same (hid R μ H) (hid R μ' H') → Iss K (hid R μ' H') vs ds → Q vs H'
def NxtS (K : PySem.W.Frag) (R : Hp) (μ : Mh) (H : Hp) (P : Rho → Mh → Prop) (Q : St → Hp → Prop) : Prop :=
  ∀ ρ' μ' σ' H', P ρ' μ' → At K R σ' ρ' μ' H' → Same (hid R μ H) (hid R μ' H') → Q σ' H'
section
variable {K : PySem.W.Frag} {R : Hp} {μ μ' : Mh} {H H' : Hp} {σ : St} {ρ : Rho}
theorem At.step (a : At K R σ ρ μ H) (k : Ok K R μ' H') (s : Same (hid R μ H) (hid R μ' H')) : At K R σ ρ μ' H' := ⟨k, a.sl.mono s⟩
theorem Nxt.step {P : DV → Mh → Prop} {Q : VK} (k : Nxt K R μ H P Q) (s : Same (hid R μ H) (hid R μ' H')) : Nxt K R μ' H' P Q := fun d m v h p o s' i => k d m v h p o (s.trans s') i
theorem NxtT.step {P : Bool → Mh → Prop} {Q : Bool → Hp → Prop} (k : NxtT K R μ H P Q) (s : Same (hid R μ H) (hid R μ' H')) : NxtT K R μ' H' P Q := fun d m h p o s' => k d m h p o (s.trans s')
theorem NxtA.step {P : List DV → Mh → Prop} {Q : List V → Hp → Prop} (k : NxtA K R μ H P Q) (s : Same (hid R μ H) (hid R μ' H')) : NxtA K R μ' H' P Q := fun d m v h p o s' i => k d m v h p o (s.trans s') i
theorem NxtS.step {P : Rho → Mh → Prop} {Q : St → Hp → Prop} (k : NxtS K R μ H P Q) (s : Same (hid R μ H) (hid R μ' H')) : NxtS K R μ' H' P Q := fun d m v h p o s' => k d m v h p o (s.trans s')
end
def tD (K : PySem.W.Frag) (w : WE) : TE := fun σ H Q => ∃ R ρ μ P, At K R σ ρ μ H ∧ w ρ μ P ∧ Nxt K R μ H P Q
def tDT (K : PySem.W.Frag) (w : WT) : TT := fun σ H Q => ∃ R ρ μ P, At K R σ ρ μ H ∧ w ρ μ P ∧ NxtT K R μ H P Q
def tDA (K : PySem.W.Frag) (w : WA) : TA := fun σ H Q => ∃ R ρ μ P, At K R σ ρ μ H ∧ w ρ μ P ∧ NxtA K R μ H P Q
structure NxtD (K : PySem.W.Frag) (R : Hp) (μ : Mh) (H : Hp) (E : DEnds) (D : Ends) : Prop where
  nx : NxtS K R μ H E.nx D.nx
  rt : Nxt K R μ H E.rt D.rt
  bk : NxtS K R μ H E.bk D.bk
  ct : NxtS K R μ H E.ct D.ct
theorem NxtD.step {K : PySem.W.Frag} {R : Hp} {μ μ' : Mh} {H H' : Hp} {E : DEnds} {D : Ends} (k : NxtD K R μ H E D) (s : Same (hid R μ H) (hid R μ' H')) : NxtD K R μ' H' E D := ⟨k.nx.step s, k.rt.step s, k.bk.step s, k.ct.step s⟩
def tDS (K : PySem.W.Frag) (w : WS) : TS := fun D σ H => ∃ R ρ μ E, At K R σ ρ μ H ∧ w E ρ μ ∧ NxtD K R μ H E D
/-- the promise of a def over data, n its parameters -/
def spD (K : PySem.W.Frag) (n : Nat) (w : WF) : Sp := fun vs H Q _ => ∃ R ds μ P, Ok K R μ H ∧ Iss K (hid R μ H) vs ds ∧ ds.length = n ∧ w ds μ P ∧ Nxt K R μ H P Q

/-! ### weaker readings -/
section
variable {X : Cx}
theorem PE.imp {e : Expr} {t t' : TE} (h : PE X e t) (i : ∀ σ H Q, t' σ H Q → t σ H Q) : PE X e t' := ⟨fun pins s σ H Q I w => h.run pins s σ H Q I (i _ _ _ w)⟩
theorem PT.imp {e : Expr} {t t' : TT} (h : PT X e t) (i : ∀ σ H Q, t' σ H Q → t σ H Q) : PT X e t' := ⟨fun pins s σ H Q I w => h.run pins s σ H Q I (i _ _ _ w)⟩
theorem PW.imp {e : Expr} {t t' : TT} (h : PW X e t) (i : ∀ σ H Q, t' σ H Q → t σ H Q) : PW X e t' := ⟨fun wh pins s σ H Q I w => h.run wh pins s σ H Q I (i _ _ _ w)⟩
theorem PA.imp {es : List Expr} {t t' : TA} (h : PA X es t) (i : ∀ σ H Q, t' σ H Q → t σ H Q) : PA X es t' := ⟨fun pos pins s σ H Q I w => h.run pos pins s σ H Q I (i _ _ _ w)⟩
theorem PK.imp {es : List Keyword} {t t' : TA} (h : PK X es t) (i : ∀ σ H Q, t' σ H Q → t σ H Q) : PK X es t' := ⟨fun pos pins s σ H Q I w => h.run pos pins s σ H Q I (i _ _ _ w)⟩
theorem PS.imp {st : Stmt} {t t' : TS} (h : PS X st t) (i : ∀ D σ H, t' D σ H → t D σ H) : PS X st t' := ⟨fun pins s σ H D I w => h.run pins s σ H D I (i _ _ _ w)⟩
theorem PSs.imp {st : List Stmt} {t t' : TS} (h : PSs X st t) (i : ∀ D σ H, t' D σ H → t D σ H) : PSs X st t' := ⟨fun pins s σ H D I w => h.run pins s σ H D I (i _ _ _ w)⟩
end
end Dz

set_option Elab.async false
set_option linter.all false
set_option maxRecDepth 100000
set_option maxHeartbeats 4000000
/-! Dz2: rules over data: expressions, tests, comparisons, displays, subscripts. -/
namespace Dz
open PySem L2
section
variable {K : PySem.W.Frag} {R : Hp} {μ μ' : Mh} {H H' : Hp} {σ : St} {ρ : Rho} {P : DV → Mh → Prop} {Q : VK} {d : DV} {v : V} {p : Addr}
theorem Nxt.val (k : Nxt K R μ H P Q) (o : Ok K R μ H) (h : P d μ) (i : Is K (hid R μ H) v d) : Q v H := k d μ v H h o (Same.refl _) i
theorem hid_new {o : HO} (k : Ok K R μ H) (h : H p = none) : hid R μ (upd H p o) p = some o := by rw [k.hidNew h, upd_same]
theorem isLst {xs : List V} {ds : List DV} (k : Ok K R μ H) (h : H p = none) (r : Iss K (hid R μ H) xs ds) : Is K (hid R μ (upd H p (.lst xs))) (.ref p) (.lst ds) :=
  .lst (hid_new k h) (r.mono (k.sameNew h))
theorem isTup {xs : List V} {ds : List DV} {t : Obj} (n : NewT t) (k : Ok K R μ H) (h : H p = none) (r : Iss K (hid R μ H) xs ds) : Is K (hid R μ (upd H p (.frz t (.tup xs)))) (.ref p) (.tup ds) :=
  .tup (.inl ⟨t, hid_new k h, n⟩) (r.mono (k.sameNew h))
theorem Nxt.lst {xs : List V} {ds : List DV} (k : Nxt K R μ H P Q) (o : Ok K R μ H) (h : P (.lst ds) μ) (r : Iss K (hid R μ H) xs ds) (n : H p = none) : Q (.ref p) (upd H p (.lst xs)) :=
  k _ μ _ _ h (o.new n) (o.sameNew n) (isLst o n r)
theorem Nxt.tup {xs : List V} {ds : List DV} {t : Obj} (k : Nxt K R μ H P Q) (nt : NewT t) (o : Ok K R μ H) (h : P (.tup ds) μ) (r : Iss K (hid R μ H) xs ds) (n : H p = none) : Q (.ref p) (upd H p (.frz t (.tup xs))) :=
  k _ μ _ _ h (o.new n) (o.sameNew n) (isTup nt o n r)
end

/-! ### names and constants -/
def wVar (i : Nat) : WE := fun ρ μ P => match ρ[i]? with | some (some d) => P d μ | _ => False
def wC (d : DV) : WE := fun _ μ P => P d μ
section
variable {X : Cx} {e a b : Expr} {pos : Pos} {w wa wb wc : WE}
theorem d_of_var {i : Nat} (h : PE X e (tVar i)) : PE X e (tD X.K (wVar i)) := PE.imp h fun σ H Q ⟨R, ρ, μ, P, a, w, k⟩ => by
  unfold wVar at w
  split at w
  · rename_i d e
    obtain ⟨v, h1, h2⟩ := a.sl.at_ i d e
    exact ⟨v, h1, k.val a.ok w h2⟩
  · exact w.elim
theorem d_of_c {v : V} {d : DV} (h : PE X e (tC v)) (i : ∀ H, Is X.K H v d) : PE X e (tD X.K (wC d)) := PE.imp h fun σ H Q ⟨R, ρ, μ, P, a, w, k⟩ => k.val a.ok w (i _)
theorem d_var (i : Nat) {x : Str} (hN : X.N[i]? = some x := by rfl) (hv : Vis X.env.scope x := by first | exact Or.inl rfl | exact Or.inr (Or.inl rfl) | exact Or.inr (Or.inr rfl)) (hd : (x == ("__debug__" : Str)) = false := by decide)
    (hcd : (x == ("__classdict__" : Str)) = false := by decide) : PE X (.Name x pos) (tD X.K (wVar i)) := d_of_var (pv i hN hv hd hcd)
theorem d_int {i : Int} {j} : PE X (.Constant (.int i) j pos) (tD X.K (wC (.int i))) := d_of_c pe_int fun _ => .int i
theorem d_bl {b : Bool} {j} : PE X (.Constant (.bool b) j pos) (tD X.K (wC (.bool b))) := d_of_c pe_bl fun _ => .bool b
theorem d_non {j} : PE X (.Constant .none j pos) (tD X.K (wC .none)) := d_of_c pe_non fun _ => .none
theorem d_str {x : Str} {j} : PE X (.Constant (.str x) j pos) (tD X.K (wC (.str x))) := d_of_c pe_str fun _ => .str x
/-- a constant of the module -/
theorem d_glob {x : Str} {v : V} {d : DV} (hg : Gl X x) (hm : ∃ u, X.mg x = some u ∧ RelV v u) (i : ∀ H, Is X.K H v d) (hd : (x == ("__debug__" : Str)) = false := by decide) : PE X (.Name x pos) (tD X.K (wC d)) := by
  obtain ⟨u, hu, r⟩ := hm
  exact d_of_c (pe_glob hg hu r hd) i

/-! ### two-place operations by values -/
abbrev W2 := DV → DV → Mh → (DV → Mh → Prop) → Prop
abbrev W1 := DV → Mh → (DV → Mh → Prop) → Prop
def R2D (K : PySem.W.Frag) (r : R2) (w : W2) : Prop := ∀ R μ H x y dx dy P Q, Ok K R μ H → Is K (hid R μ H) x dx → Is K (hid R μ H) y dy → w dx dy μ P → Nxt K R μ H P Q → r x y H Q
def R1D (K : PySem.W.Frag) (r : V → Hp → VK → Prop) (w : W1) : Prop := ∀ R μ H x dx P Q, Ok K R μ H → Is K (hid R μ H) x dx → w dx μ P → Nxt K R μ H P Q → r x H Q
def wBin (w2 : W2) (wa wb : WE) : WE := fun ρ μ P => wa ρ μ fun x μ1 => wb ρ μ1 fun y μ2 => w2 x y μ2 P
def wUn (w1 : W1) (wa : WE) : WE := fun ρ μ P => wa ρ μ fun x μ1 => w1 x μ1 P
theorem bin_imp {K : PySem.W.Frag} {r : R2} {w2 : W2} (hr : R2D K r w2) : ∀ σ H Q, tD K (wBin w2 wa wb) σ H Q → tOp r (tD K wa) (tD K wb) σ H Q := fun σ H Q ⟨R, ρ, μ, P, a, w, k⟩ =>
  ⟨R, ρ, μ, _, a, w, fun x μ1 v H1 p1 o1 s1 i1 => ⟨R, ρ, μ1, _, a.step o1 s1, p1, fun y μ2 u H2 p2 o2 s2 i2 => hr R μ2 H2 v u x y P Q o2 (i1.mono s2) i2 p2 (k.step (s1.trans s2))⟩⟩
theorem d_op {op : Operator} {r : R2} {w2 : W2} (ho : OpR X (binaryOp op) r) (hr : R2D X.K r w2) (ha : PE X a (tD X.K wa)) (hb : PE X b (tD X.K wb)) : PE X (.BinOp a op b pos) (tD X.K (wBin w2 wa wb)) :=
  PE.imp (pe_op ho ha hb) (bin_imp hr)
theorem d_un {op : UnaryOp} {r : V → Hp → VK → Prop} {w1 : W1} (ho : UnR X (unaryOp op) r) (hr : R1D X.K r w1) (ha : PE X a (tD X.K wa)) : PE X (.UnaryOp op a pos) (tD X.K (wUn w1 wa)) :=
  PE.imp (pe_un ho ha) fun σ H Q ⟨R, ρ, μ, P, a, w, k⟩ => ⟨R, ρ, μ, _, a, w, fun x μ1 v H1 p1 o1 s1 i1 => hr R μ1 H1 v x P Q o1 i1 p1 (k.step s1)⟩
theorem d_cmp {op : CmpOp} {r : R2} {w2 : W2} (ho : OpR X (compareOp op) r) (hr : R2D X.K r w2) (ha : PE X a (tD X.K wa)) (hb : PE X b (tD X.K wb)) (hm : behindInMarks op b = false) : PE X (.Compare a [op] [b] pos) (tD X.K (wBin w2 wa wb)) :=
  PE.imp (pe_cmpR ho ha hb hm) (bin_imp hr)
/-- a reading of a True or False as a test -/
def wTest (w : WE) : WT := fun ρ μ P => w ρ μ fun d μ1 => match d with | .bool b => P b μ1 | _ => False
theorem test_imp {K : PySem.W.Frag} {t : TE} {w : WE} (h : ∀ σ H Q, tD K w σ H Q → t σ H Q) : ∀ σ H Q, tDT K (wTest w) σ H Q → tTest t σ H Q := fun σ H Q ⟨R, ρ, μ, P, a, w, k⟩ =>
  h σ H _ ⟨R, ρ, μ, _, a, w, fun x μ1 v H1 p1 o1 s1 i1 => by
    cases i1 with
    | bool b => exact ⟨b, rfl, k b μ1 H1 p1 o1 s1⟩
    | _ => exact (show False from p1).elim⟩
theorem dt_cmp {op : CmpOp} {r : R2} {w2 : W2} (ho : OpR X (compareOp op) r) (hr : R2D X.K r w2) (ha : PE X a (tD X.K wa)) (hb : PE X b (tD X.K wb)) (hm : behindInMarks op b = false) : PT X (.Compare a [op] [b] pos) (tDT X.K (wTest (wBin w2 wa wb))) :=
  PT.imp (pt_cmpR ho ha hb hm) (test_imp (bin_imp hr))
def wChain (w2 w2' : W2) (wa wb wc : WE) : WE := fun ρ μ P => wa ρ μ fun x μ1 => wb ρ μ1 fun y μ2 => w2 x y μ2 fun z μ3 => match z with
  | .bool true => wc ρ μ3 fun u μ4 => w2' y u μ4 P
  | .bool false => P (.bool false) μ3
  | _ => False
theorem chain_imp {K : PySem.W.Frag} {r r' : R2} {w2 w2' : W2} (hr : R2D K r w2) (hr' : R2D K r' w2') : ∀ σ H Q, tD K (wChain w2 w2' wa wb wc) σ H Q → tChain r r' (tD K wa) (tD K wb) (tD K wc) σ H Q := fun σ H Q ⟨R, ρ, μ, P, a, w, k⟩ => by
  refine ⟨R, ρ, μ, _, a, w, fun x μ1 v H1 p1 o1 s1 i1 => ⟨R, ρ, μ1, _, a.step o1 s1, p1, fun y μ2 u H2 p2 o2 s2 i2 => hr R μ2 H2 v u x y _ _ o2 (i1.mono s2) i2 p2 fun z μ3 z' H3 p3 o3 s3 i3 => ?_⟩⟩
  cases i3 with
  | bool b =>
    refine ⟨b, rfl, ?_⟩
    cases b with
    | true =>
      refine iteT ⟨R, ρ, μ3, _, a.step o3 ((s1.trans s2).trans s3), p3, fun u4 μ4 v4 H4 p4 o4 s4 i4 => hr' R μ4 H4 u v4 y u4 P Q o4 (i2.mono (s3.trans s4)) i4 p4 (k.step (((s1.trans s2).trans s3).trans s4))⟩
    | false => exact iteF (k _ μ3 _ H3 p3 o3 ((s1.trans s2).trans s3) (.bool false))
  | _ => exact (show False from p3).elim
theorem d_chain {c : Expr} {op op' : CmpOp} {r r' : R2} {w2 w2' : W2} (ho : OpR X (compareOp op) r) (hr : R2D X.K r w2) (ho' : OpR X (compareOp op') r') (hr' : R2D X.K r' w2') (ha : PE X a (tD X.K wa)) (hb : PE X b (tD X.K wb)) (hc : PE X c (tD X.K wc))
    (hm : lastMarks [op, op'] [b, c] = false := by with_unfolding_all rfl) : PE X (.Compare a [op, op'] [b, c] pos) (tD X.K (wChain w2 w2' wa wb wc)) := PE.imp (pe_chain ho ho' ha hb hc hm) (chain_imp hr hr')
theorem dt_chain {c : Expr} {op op' : CmpOp} {r r' : R2} {w2 w2' : W2} (ho : OpR X (compareOp op) r) (hr : R2D X.K r w2) (ho' : OpR X (compareOp op') r') (hr' : R2D X.K r' w2') (ha : PE X a (tD X.K wa)) (hb : PE X b (tD X.K wb)) (hc : PE X c (tD X.K wc))
    (hm : lastMarks [op, op'] [b, c] = false := by with_unfolding_all rfl) : PT X (.Compare a [op, op'] [b, c] pos) (tDT X.K (wTest (wChain w2 w2' wa wb wc))) := PT.imp (pt_chain ho ho' ha hb hc hm) (test_imp (chain_imp hr hr'))

/-! ### not, and, or, if .. else -/
theorem dt_val (h : PE X e (tD X.K w)) (he : ∀ whole, isTrue e X.env whole = (do let v ← whole; standAt e.pos; holding [v] (truthy v)) := by intro _; rfl) : PT X e (tDT X.K (wTest w)) :=
  PT.imp (pt_val h he) fun σ H Q ⟨R, ρ, μ, P, a, w, k⟩ => ⟨R, ρ, μ, _, a, w, fun x μ1 v H1 p1 o1 s1 i1 => by
    cases i1 with
    | bool b => exact ⟨b, rfl, k b μ1 H1 p1 o1 s1⟩
    | _ => exact (show False from p1).elim⟩
/-- truth of any value -/
def truD : DV → Mh → (Bool → Prop) → Prop
  | .none, _, P => P false
  | .bool b, _, P => P b
  | .int i, _, P => P (i != 0)
  | .str x, _, P => x.length ≤ sizeLine ∧ P ((x.length : Int) != 0)
  | .lst ds, _, P => P (!ds.isEmpty)
  | .tup ds, _, P => P (!ds.isEmpty)
  | .dct ds, _, P => P (!ds.isEmpty)
  | .obj a, μ, P => match μ a with
    | some (.lst ds) => P (!ds.isEmpty)
    | some (.dct ds) => P (!ds.isEmpty)
    | _ => False
  | .fix ds, _, P => P (!ds.isEmpty)
  | .dn _ _ _, _, _ => False
theorem Iss.isEmpty {K : PySem.W.Frag} {H : Hp} {vs : List V} {ds : List DV} (r : Iss K H vs ds) : vs.isEmpty = ds.isEmpty := by cases r <;> rfl
def wTru (w : WE) : WT := fun ρ μ P => w ρ μ fun d μ1 => truD d μ1 fun b => P b μ1
theorem map_isEmpty {α β γ : Type} {l : List (α × β)} {m : List (α × γ)} (h : l.map (·.1) = m.map (·.1)) : l.isEmpty = m.isEmpty := by
  cases l <;> cases m <;> first | rfl | cases h
theorem dt_tru (h : PE X e (tD X.K w)) (he : ∀ whole, isTrue e X.env whole = (do let v ← whole; standAt e.pos; holding [v] (truthy v)) := by intro _; rfl) : PT X e (tDT X.K (wTru w)) :=
  PT.imp (pt_truth h he) fun σ H Q ⟨R, ρ, μ, P, a, w, k⟩ => ⟨R, ρ, μ, _, a, w, fun x μ1 v H1 p1 o1 s1 i1 => by
    cases i1 with
    | none => exact ⟨false, rfl, k _ μ1 H1 p1 o1 s1⟩
    | bool b => exact ⟨b, rfl, k _ μ1 H1 p1 o1 s1⟩
    | int i => exact ⟨_, rfl, k _ μ1 H1 p1 o1 s1⟩
    | str x => exact ⟨_, ⟨p1.1, rfl⟩, k _ μ1 H1 p1.2 o1 s1⟩
    | lst hl r => exact ⟨_, .inl ⟨_, SqL.of (hid_le _ _ hl), rfl⟩, k _ μ1 H1 (by rw [r.isEmpty]; exact p1) o1 s1⟩
    | fix hl r => exact ⟨_, .inl ⟨_, hid_le.seq hl, rfl⟩, k _ μ1 H1 (by rw [r.isEmpty]; exact p1) o1 s1⟩
    | tup hl r => exact ⟨_, .inr (.inl ⟨_, Same.seqT hid_le hl.t, rfl⟩), k _ μ1 H1 (by rw [r.isEmpty]; exact p1) o1 s1⟩
    | dct hl q r => exact ⟨_, .inr (.inr ⟨_, hid_le _ _ hl, rfl⟩), k _ μ1 H1 (by rw [map_isEmpty q]; exact p1) o1 s1⟩
    | obj a =>
      have p2 : (match μ1 a with | some (.lst ds) => P (!ds.isEmpty) μ1 | some (.dct ds) => P (!ds.isEmpty) μ1 | _ => False) := p1
      split at p2
      · rename_i ds e
        obtain ⟨xs, h1, r⟩ := o1.ob a _ e
        exact ⟨_, .inl ⟨_, SqL.of h1, rfl⟩, k _ μ1 H1 (by rw [r.isEmpty]; exact p2) o1 s1⟩
      · rename_i ds e
        obtain ⟨xs, h1, q, r⟩ := o1.ob a _ e
        exact ⟨_, .inr (.inr ⟨_, h1, rfl⟩), k _ μ1 H1 (by rw [map_isEmpty q]; exact p2) o1 s1⟩
      · exact p2.elim
    | dn _ _ _ _ _ _ => exact (show False from p1).elim⟩
def wNotT (w : WT) : WT := fun ρ μ P => w ρ μ fun b μ1 => P (!b) μ1
def wAndT (wa wb : WT) : WT := fun ρ μ P => wa ρ μ fun b μ1 => match b with | true => wb ρ μ1 P | false => P false μ1
def wOrT (wa wb : WT) : WT := fun ρ μ P => wa ρ μ fun b μ1 => match b with | true => P true μ1 | false => wb ρ μ1 P
variable {ta tb : WT}
theorem dt_not (h : PT X a (tDT X.K ta)) : PT X (.UnaryOp .Not a pos) (tDT X.K (wNotT ta)) :=
  PT.imp (pt_not h) fun σ H Q ⟨R, ρ, μ, P, a, w, k⟩ => ⟨R, ρ, μ, _, a, w, fun b μ1 H1 p1 o1 s1 => k _ μ1 H1 p1 o1 s1⟩
theorem dw_and1 (h : PT X a (tDT X.K ta)) : PW X (.BoolOp .And [a] pos) (tDT X.K ta) := pw_and1 h
theorem dw_or1 (h : PT X a (tDT X.K ta)) : PW X (.BoolOp .Or [a] pos) (tDT X.K ta) := pw_or1 h
theorem dw_and {rest : List Expr} (h : PT X a (tDT X.K ta)) (h2 : PW X (.BoolOp .And (b :: rest) pos) (tDT X.K tb)) : PW X (.BoolOp .And (a :: b :: rest) pos) (tDT X.K (wAndT ta tb)) :=
  PW.imp (pw_and h h2) fun σ H Q ⟨R, ρ, μ, P, a, w, k⟩ => ⟨R, ρ, μ, _, a, w, fun c μ1 H1 p1 o1 s1 => by
    cases c with
    | true => exact iteT ⟨R, ρ, μ1, P, a.step o1 s1, p1, k.step s1⟩
    | false => exact iteF (k _ μ1 H1 p1 o1 s1)⟩
theorem dw_or {rest : List Expr} (h : PT X a (tDT X.K ta)) (h2 : PW X (.BoolOp .Or (b :: rest) pos) (tDT X.K tb)) : PW X (.BoolOp .Or (a :: b :: rest) pos) (tDT X.K (wOrT ta tb)) :=
  PW.imp (pw_or h h2) fun σ H Q ⟨R, ρ, μ, P, a, w, k⟩ => ⟨R, ρ, μ, _, a, w, fun c μ1 H1 p1 o1 s1 => by
    cases c with
    | true => exact iteT (k _ μ1 H1 p1 o1 s1)
    | false => exact iteF ⟨R, ρ, μ1, P, a.step o1 s1, p1, k.step s1⟩⟩
def wAndV (wa wb : WE) : WE := fun ρ μ P => wa ρ μ fun d μ1 => match d with | .bool true => wb ρ μ1 P | .bool false => P (.bool false) μ1 | _ => False
def wOrV (wa wb : WE) : WE := fun ρ μ P => wa ρ μ fun d μ1 => match d with | .bool true => P (.bool true) μ1 | .bool false => wb ρ μ1 P | _ => False
def wNotV (wa : WE) : WE := fun ρ μ P => wa ρ μ fun d μ1 => match d with | .bool b => P (.bool (!b)) μ1 | _ => False
def wIf (t : WT) (wa wb : WE) : WE := fun ρ μ P => t ρ μ fun b μ1 => match b with | true => wa ρ μ1 P | false => wb ρ μ1 P
theorem d_one {op} (h : PE X a (tD X.K wa)) : PE X (.BoolOp op [a] pos) (tD X.K wa) := pe_one h
theorem d_and {rest : List Expr} (h : PE X a (tD X.K wa)) (h2 : PE X (.BoolOp .And (b :: rest) pos) (tD X.K wb)) : PE X (.BoolOp .And (a :: b :: rest) pos) (tD X.K (wAndV wa wb)) :=
  PE.imp (pe_and h h2) fun σ H Q ⟨R, ρ, μ, P, a, w, k⟩ => ⟨R, ρ, μ, _, a, w, fun x μ1 v H1 p1 o1 s1 i1 => by
    cases i1 with
    | bool c =>
      refine ⟨c, rfl, ?_⟩
      cases c with
      | true => exact iteT ⟨R, ρ, μ1, P, a.step o1 s1, p1, k.step s1⟩
      | false => exact iteF (k _ μ1 _ H1 p1 o1 s1 (.bool false))
    | _ => exact (show False from p1).elim⟩
theorem d_or {rest : List Expr} (h : PE X a (tD X.K wa)) (h2 : PE X (.BoolOp .Or (b :: rest) pos) (tD X.K wb)) : PE X (.BoolOp .Or (a :: b :: rest) pos) (tD X.K (wOrV wa wb)) :=
  PE.imp (pe_or h h2) fun σ H Q ⟨R, ρ, μ, P, a, w, k⟩ => ⟨R, ρ, μ, _, a, w, fun x μ1 v H1 p1 o1 s1 i1 => by
    cases i1 with
    | bool c =>
      refine ⟨c, rfl, ?_⟩
      cases c with
      | true => exact iteT (k _ μ1 _ H1 p1 o1 s1 (.bool true))
      | false => exact iteF ⟨R, ρ, μ1, P, a.step o1 s1, p1, k.step s1⟩
    | _ => exact (show False from p1).elim⟩
theorem d_not (h : PE X a (tD X.K wa)) : PE X (.UnaryOp .Not a pos) (tD X.K (wNotV wa)) :=
  PE.imp (pe_not h) fun σ H Q ⟨R, ρ, μ, P, a, w, k⟩ => ⟨R, ρ, μ, _, a, w, fun x μ1 v H1 p1 o1 s1 i1 => by
    cases i1 with
    | bool c => exact ⟨c, rfl, k _ μ1 _ H1 p1 o1 s1 (.bool _)⟩
    | _ => exact (show False from p1).elim⟩
theorem d_if {c : Expr} (hc : PT X c (tDT X.K ta)) (ha : PE X a (tD X.K wa)) (hb : PE X b (tD X.K wb)) : PE X (.IfExp c a b pos) (tD X.K (wIf ta wa wb)) :=
  PE.imp (pe_ifExp hc ha hb) fun σ H Q ⟨R, ρ, μ, P, a, w, k⟩ => ⟨R, ρ, μ, _, a, w, fun c μ1 H1 p1 o1 s1 => by
    cases c with
    | true => exact iteT ⟨R, ρ, μ1, P, a.step o1 s1, p1, k.step s1⟩
    | false => exact iteF ⟨R, ρ, μ1, P, a.step o1 s1, p1, k.step s1⟩⟩

/-! ### argument lists, displays -/
def wNil : WA := fun _ μ P => P [] μ
def wCons (wa : WE) (wr : WA) : WA := fun ρ μ P => wa ρ μ fun x μ1 => wr ρ μ1 fun xs μ2 => P (x :: xs) μ2
variable {es : List Expr} {wr : WA}
theorem cons_imp {K : PySem.W.Frag} : ∀ σ H Q, tDA K (wCons wa wr) σ H Q → tCons (tD K wa) (tDA K wr) σ H Q := fun σ H Q ⟨R, ρ, μ, P, a, w, k⟩ =>
  ⟨R, ρ, μ, _, a, w, fun x μ1 v H1 p1 o1 s1 i1 => ⟨R, ρ, μ1, _, a.step o1 s1, p1, fun xs μ2 vs H2 p2 o2 s2 i2 => k _ μ2 _ H2 p2 o2 (s1.trans s2) (.cons (i1.mono s2) i2)⟩⟩
theorem nil_imp {K : PySem.W.Frag} : ∀ σ H Q, tDA K wNil σ H Q → tNil σ H Q := fun σ H Q ⟨R, ρ, μ, P, a, w, k⟩ => k [] μ [] H w a.ok (Same.refl _) .nil
theorem da_nil : PA X [] (tDA X.K wNil) := PA.imp pa_nil nil_imp
theorem da_cons (ha : PE X e (tD X.K wa)) (hr : PA X es (tDA X.K wr)) (hs : starEach (e :: es) X.env = (false, eval e X.env) :: starEach es X.env := by rfl) : PA X (e :: es) (tDA X.K (wCons wa wr)) :=
  PA.imp (pa_cons ha hr hs) cons_imp
theorem dk_nil : PK X [] (tDA X.K wNil) := PK.imp pk_nil nil_imp
theorem dk_cons {kws : List Keyword} {nm : Option Str} {kpos : Pos} (ha : PE X e (tD X.K wa)) (hr : PK X kws (tDA X.K wr)) : PK X (⟨nm, e, kpos⟩ :: kws) (tDA X.K (wCons wa wr)) := PK.imp (pk_cons ha hr) cons_imp
def wTup (wa : WA) : WE := fun ρ μ P => wa ρ μ fun ds μ1 => ds.length ≤ sizeLine ∧ P (.tup ds) μ1
def wLst (wa : WA) : WE := fun ρ μ P => wa ρ μ fun ds μ1 => ds.length ≤ sizeLine ∧ P (.lst ds) μ1
theorem d_tup {x1} (h : PA X es (tDA X.K wr)) : PE X (.Tuple es x1 pos) (tD X.K (wTup wr)) :=
  PE.imp (pe_tupN h) fun σ H Q ⟨R, ρ, μ, P, a, w, k⟩ => ⟨R, ρ, μ, _, a, w, fun ds μ1 vs H1 p1 o1 s1 i1 => ⟨by rw [i1.length]; exact p1.1, fun p t n nt => (k.step s1).tup nt o1 p1.2 i1 n⟩⟩
theorem d_lst (h : PA X es (tDA X.K wr)) : PE X (.List es pos) (tD X.K (wLst wr)) :=
  PE.imp (pe_lst h) fun σ H Q ⟨R, ρ, μ, P, a, w, k⟩ => ⟨R, ρ, μ, _, a, w, fun ds μ1 vs H1 p1 o1 s1 i1 => ⟨by rw [i1.length]; exact p1.1, fun p n => (k.step s1).lst o1 p1.2 i1 n⟩⟩
/-- a list that will change -/
def wLstM (wa : WA) : WE := fun ρ μ P => wa ρ μ fun ds μ1 => ds.length ≤ sizeLine ∧ ∀ p, μ1 p = none → P (.obj p) (updM μ1 p (.lst ds))
theorem d_lstM (h : PA X es (tDA X.K wr)) : PE X (.List es pos) (tD X.K (wLstM wr)) :=
  PE.imp (pe_lst h) fun σ H Q ⟨R, ρ, μ, P, a, w, k⟩ => ⟨R, ρ, μ, _, a, w, fun ds μ1 vs H1 p1 o1 s1 i1 => ⟨by rw [i1.length]; exact p1.1, fun p n => by
    have fm := o1.freeM n
    have hs : Same (hid R μ1 H1) (hid R (updM μ1 p (.lst ds)) (upd H1 p (.lst vs))) := fun b u e => by
      obtain ⟨e1, e2, e3⟩ := hid_some e
      have ne := ne_of_none e3 n
      rw [hid_at e1 (by rw [updM_ne ne]; exact e2), upd_ne ne]
      exact e3
    obtain ⟨o2, s2⟩ := o1.newM (o := .lst vs) (m := .lst ds) n ⟨vs, upd_same, i1.mono hs⟩ (by intro z; cases z)
    exact (k.step s1) _ _ _ _ (p1.2 p fm) o2 s2 (.obj p)⟩⟩
end
end Dz

set_option Elab.async false
set_option linter.all false
set_option maxRecDepth 100000
set_option maxHeartbeats 4000000
/-! Dz3: operators and comparisons of data, plain data as PyData, subscripts and slices. -/
namespace Dz
open PySem L2

/-! ### arithmetic -/
def wAdd : W2
  | .int i, .int j, μ, P => P (.int (i + j)) μ
  | .str s, .str t, μ, P => s.length + t.length ≤ sizeLine ∧ P (.str (s ++ t)) μ
  | .lst xs, .lst ys, μ, P => xs.length + ys.length ≤ sizeLine ∧ P (.lst (xs ++ ys)) μ
  | .tup xs, .tup ys, μ, P => xs.length + ys.length ≤ sizeLine ∧ P (.tup (xs ++ ys)) μ
  | _, _, _, _ => False
def wSub : W2
  | .int i, .int j, μ, P => P (.int (i - j)) μ
  | _, _, _, _ => False
def strRep (x : Str) (n : Nat) : Str := ⟨(List.replicate n x.cps).foldl (· ++ ·) #[]⟩
def wMul : W2
  | .int i, .int j, μ, P => CMul i j ∧ P (.int (i * j)) μ
  | .lst xs, .int k, μ, P => 0 ≤ k ∧ k < 2 ^ 63 ∧ xs.length * k.toNat ≤ sizeLine ∧ P (.lst (List.replicate k.toNat xs).flatten) μ
  | .str x, .int k, μ, P => 2 ≤ k ∧ 0 < x.length ∧ x.length * k.toNat ≤ sizeLine ∧ P (.str (strRep x k.toNat)) μ
  | _, _, _, _ => False
def wDiv : W2
  | .int i, .int j, μ, P => CDivW i j ∧ P (.int (i / j)) μ
  | _, _, _, _ => False
def wMod : W2
  | .int i, .int j, μ, P => 0 < j ∧ P (.int (i % j)) μ
  | _, _, _, _ => False
def wPow : W2
  | .int i, .int j, μ, P => CPow i j ∧ P (.int (i ^ j.toNat)) μ
  | _, _, _, _ => False
def wNeg : W1
  | .int i, μ, P => P (.int (-i)) μ
  | _, _, _ => False
section
variable {K : PySem.W.Frag} {X : Cx}
def rAddD (K : PySem.W.Frag) : R2 := fun x y H Q => rI0 (fun i j => .int (i + j)) x y H Q ∨ (∃ i j, x = .str i ∧ y = .str j ∧ i.length + j.length ≤ sizeLine ∧ Q (.str (i ++ j)) H) ∨ rCat x y H Q ∨ rCatN K x y H Q
theorem op_addD : OpR X (binaryOp .Add) (rAddD X.K) := op_add.or (op_add_str.or (op_cat.or op_catN))
theorem add_rd : R2D K (rAddD K) wAdd := by
  intro R μ H x y dx dy P Q ok ix iy w k
  cases ix with
  | int i => cases iy with
    | int j => exact .inl ⟨i, j, rfl, rfl, k.val ok w (.int _)⟩
    | _ => exact (show False from w).elim
  | str s => cases iy with
    | str t => exact .inr (.inl ⟨s, t, rfl, rfl, w.1, k.val ok w.2 (.str _)⟩)
    | _ => exact (show False from w).elim
  | lst hx rx => cases iy with
    | lst hy ry => exact .inr (.inr (.inl ⟨_, _, _, _, rfl, rfl, hid_le _ _ hx, hid_le _ _ hy, by rw [rx.length, ry.length]; exact w.1, fun p n => k.lst ok w.2 (rx.append ry) n⟩))
    | _ => exact (show False from w).elim
  | @tup a xs ds hx rx => cases iy with
    | @tup b ys es hy ry =>
      refine .inr (.inr (.inr ⟨_, _, _, _, rfl, rfl, Same.seqT hid_le hx.t, Same.seqT hid_le hy.t, by rw [rx.length, ry.length]; exact w.1, fun z => ?_, fun _ z => ?_, fun _ _ p t n nt => k.tup nt ok w.2 (rx.append ry) n⟩))
      · subst z
        cases rx
        exact k.val ok w.2 (.tup hy ry)
      · subst z
        cases ry
        exact k.val ok (by have := w.2; rwa [List.append_nil] at this) (.tup hx rx)
    | _ => exact (show False from w).elim
  | _ => exact (show False from w).elim
theorem sub_rd : R2D K (rI0 fun i j => .int (i - j)) wSub := by
  intro R μ H x y dx dy P Q ok ix iy w k
  cases ix with
  | int i => cases iy with
    | int j => exact ⟨i, j, rfl, rfl, k.val ok w (.int _)⟩
    | _ => exact (show False from w).elim
  | _ => exact (show False from w).elim
theorem div_rd : R2D K (rI CDivW fun i j => .int (i / j)) wDiv := by
  intro R μ H x y dx dy P Q ok ix iy w k
  cases ix with
  | int i => cases iy with
    | int j => exact ⟨i, j, rfl, rfl, w.1, k.val ok w.2 (.int _)⟩
    | _ => exact (show False from w).elim
  | _ => exact (show False from w).elim
theorem mod_rd : R2D K (rI (fun _ j => 0 < j) fun i j => .int (i % j)) wMod := by
  intro R μ H x y dx dy P Q ok ix iy w k
  cases ix with
  | int i => cases iy with
    | int j => exact ⟨i, j, rfl, rfl, w.1, k.val ok w.2 (.int _)⟩
    | _ => exact (show False from w).elim
  | _ => exact (show False from w).elim
theorem pow_rd : R2D K (rI CPow fun i j => .int (i ^ j.toNat)) wPow := by
  intro R μ H x y dx dy P Q ok ix iy w k
  cases ix with
  | int i => cases iy with
    | int j => exact ⟨i, j, rfl, rfl, w.1, k.val ok w.2 (.int _)⟩
    | _ => exact (show False from w).elim
  | _ => exact (show False from w).elim
theorem neg_rd : R1D K (rU fun i => .int (-i)) wNeg := by
  intro R μ H x dx P Q ok ix w k
  cases ix with
  | int i => exact ⟨i, rfl, k.val ok w (.int _)⟩
  | _ => exact (show False from w).elim
def rRepS : R2 := fun x y H Q => ∃ (z : Str) (k : Int), x = .str z ∧ y = .int k ∧ 2 ≤ k ∧ 0 < z.length ∧ z.length * k.toNat ≤ sizeLine ∧ Q (.str (strRep z k.toNat)) H
theorem op_repS : OpR X (binaryOp .Mult) rRepS := by
  intro pins s σ H x y v u Q I rx ry h
  obtain ⟨z, k, rfl, rfl, h2, h0, hz, q⟩ := h
  obtain ⟨t, rfl⟩ := rx
  obtain ⟨t', rfl⟩ := ry
  have hs : sizeLine = 16777216 := sizeLine_eq
  have hk : k.toNat ≤ z.length * k.toNat := Nat.le_mul_of_pos_left _ h0
  have hzl : z.length ≤ z.length * k.toNat := Nat.le_mul_of_pos_right _ (by omega)
  refine PySem.P.mul_str (by rw [decide_eq_false (by omega), decide_eq_false (by omega)]; rfl) (fun _ _ => ?_) (fun _ _ => ?_) ?_
  · have h3 : (1 : Int) ≤ k := by omega
    have h4 : (z.length : Int) * k ≤ 16777216 := by
      have : ((z.length * k.toNat : Nat) : Int) ≤ ((16777216 : Nat) : Int) := Int.ofNat_le.mpr (by rw [← hs]; exact hz)
      rw [Int.natCast_mul] at this
      rw [Int.toNat_of_nonneg (by omega)] at this
      exact this
    have h5 : (z.length : Int) ≤ (2 ^ 63 - 1) / k := by
      rw [Int.le_ediv_iff_mul_le (by omega)]
      omega
    omega
  · unfold Builtin.Str.tooLong
    simp only [decide_eq_false_iff_not]
    omega
  · rw [if_neg (by omega)]
    have e : (k == 1 || z.length == 0) = false := by
      rw [Bool.or_eq_false_iff]
      exact ⟨beq_eq_false_iff_ne.mpr (by omega), beq_eq_false_iff_ne.mpr (by omega)⟩
    rw [e]
    refine ⟨?_, ⟨.str (strRep z k.toNat), H, I.tok _, ⟨_, rfl⟩, q⟩⟩
    have el : (⟨(List.replicate k.toNat z.cps).foldl (· ++ ·) #[]⟩ : Str).length = z.length * k.toNat := by
      unfold Str.length
      have : ∀ (n : Nat) (acc : Array Nat), ((List.replicate n z.cps).foldl (· ++ ·) acc).size = acc.size + z.cps.size * n := by
        intro n
        induction n with
        | zero => intro acc; simp
        | succ n ih => intro acc; rw [List.replicate_succ, List.foldl_cons, ih, Array.size_append, Nat.mul_succ]; omega
      rw [this]
      simp
    rw [el]
    exact hz
def rMulD : R2 := fun x y H Q => rI CMul (fun i j => .int (i * j)) x y H Q ∨ rRep x y H Q ∨ rRepS x y H Q
theorem op_mulD : OpR X (binaryOp .Mult) rMulD := op_mul.or (op_rep.or op_repS)
theorem mul_rd : R2D K rMulD wMul := by
  intro R μ H x y dx dy P Q ok ix iy w k
  cases ix with
  | int i => cases iy with
    | int j => exact .inl ⟨i, j, rfl, rfl, w.1, k.val ok w.2 (.int _)⟩
    | _ => exact (show False from w).elim
  | str s => cases iy with
    | int j => exact .inr (.inr ⟨s, j, rfl, rfl, w.1, w.2.1, w.2.2.1, k.val ok w.2.2.2 (.str _)⟩)
    | _ => exact (show False from w).elim
  | lst hx rx => cases iy with
    | int j => exact .inr (.inl ⟨_, j, _, rfl, rfl, hid_le _ _ hx, by have := w.1; omega, w.2.1, by rw [rx.length]; exact w.2.2.1, fun p n => k.lst ok w.2.2.2 (rx.replicate _) n⟩)
    | _ => exact (show False from w).elim
  | _ => exact (show False from w).elim
variable {a b : Expr} {wa wb : WE} {pos : Pos}
theorem d_add (ha : PE X a (tD X.K wa)) (hb : PE X b (tD X.K wb)) : PE X (.BinOp a .Add b pos) (tD X.K (wBin wAdd wa wb)) := d_op op_addD add_rd ha hb
theorem d_sub (ha : PE X a (tD X.K wa)) (hb : PE X b (tD X.K wb)) : PE X (.BinOp a .Sub b pos) (tD X.K (wBin wSub wa wb)) := d_op op_sub sub_rd ha hb
theorem d_mul (ha : PE X a (tD X.K wa)) (hb : PE X b (tD X.K wb)) : PE X (.BinOp a .Mult b pos) (tD X.K (wBin wMul wa wb)) := d_op op_mulD mul_rd ha hb
theorem d_div (ha : PE X a (tD X.K wa)) (hb : PE X b (tD X.K wb)) : PE X (.BinOp a .FloorDiv b pos) (tD X.K (wBin wDiv wa wb)) := d_op op_fdivW div_rd ha hb
theorem d_mod (ha : PE X a (tD X.K wa)) (hb : PE X b (tD X.K wb)) : PE X (.BinOp a .Mod b pos) (tD X.K (wBin wMod wa wb)) := d_op op_mod mod_rd ha hb
theorem d_pow (ha : PE X a (tD X.K wa)) (hb : PE X b (tD X.K wb)) : PE X (.BinOp a .Pow b pos) (tD X.K (wBin wPow wa wb)) := d_op op_pow pow_rd ha hb
theorem d_neg (ha : PE X a (tD X.K wa)) : PE X (.UnaryOp .USub a pos) (tD X.K (wUn wNeg wa)) := d_un un_neg neg_rd ha
end

/-! ### order -/
def ltS (s t : Str) : Bool := decide (s.cps.toList < t.cps.toList)
def wLt : W2
  | .int i, .int j, μ, P => P (.bool (decide (i < j))) μ
  | .str s, .str t, μ, P => P (.bool (ltS s t)) μ
  | _, _, _, _ => False
def wLe : W2
  | .int i, .int j, μ, P => P (.bool (decide (i ≤ j))) μ
  | .str s, .str t, μ, P => P (.bool (!ltS t s)) μ
  | _, _, _, _ => False
def wGt : W2
  | .int i, .int j, μ, P => P (.bool (decide (j < i))) μ
  | .str s, .str t, μ, P => P (.bool (ltS t s)) μ
  | _, _, _, _ => False
def wGe : W2
  | .int i, .int j, μ, P => P (.bool (decide (j ≤ i))) μ
  | .str s, .str t, μ, P => P (.bool (!ltS s t)) μ
  | _, _, _, _ => False
section
variable {K : PySem.W.Frag} {X : Cx}
def rOrd (f : Int → Int → Bool) (g : Str → Str → Bool) : R2 := fun x y H Q => rI0 (fun i j => .bl (f i j)) x y H Q ∨ ∃ i j, x = .str i ∧ y = .str j ∧ Q (.bl (g i j)) H
theorem op_ltD : OpR X (compareOp .Lt) (rOrd (fun i j => decide (i < j)) fun s t => decide (s.cps.toList < t.cps.toList)) := op_lt.or op_lt_str
theorem op_leD : OpR X (compareOp .LtE) (rOrd (fun i j => decide (i ≤ j)) fun s t => !decide (t.cps.toList < s.cps.toList)) := op_le.or op_le_str
theorem op_gtD : OpR X (compareOp .Gt) (rOrd (fun i j => decide (j < i)) fun s t => decide (t.cps.toList < s.cps.toList)) := op_gt.or op_gt_str
theorem op_geD : OpR X (compareOp .GtE) (rOrd (fun i j => decide (j ≤ i)) fun s t => !decide (s.cps.toList < t.cps.toList)) := op_ge.or op_ge_str
theorem ord_rd {f : Int → Int → Bool} {g : Str → Str → Bool} {w2 : W2} (h1 : ∀ i j μ P, w2 (.int i) (.int j) μ P → P (.bool (f i j)) μ) (h2 : ∀ i j μ P, w2 (.str i) (.str j) μ P → P (.bool (g i j)) μ)
    (h3 : ∀ x y μ P, (∀ i j, ¬ (x = .int i ∧ y = .int j)) → (∀ i j, ¬ (x = .str i ∧ y = .str j)) → w2 x y μ P → False) : R2D K (rOrd f g) w2 := by
  intro R μ H x y dx dy P Q ok ix iy w k
  cases ix with
  | int i => cases iy with
    | int j => exact .inl ⟨i, j, rfl, rfl, k.val ok (h1 _ _ _ _ w) (.bool _)⟩
    | _ => exact (h3 _ _ _ _ (fun i j h => by cases h.2) (fun i j h => by cases h.1) w).elim
  | str s => cases iy with
    | str t => exact .inr ⟨s, t, rfl, rfl, k.val ok (h2 _ _ _ _ w) (.bool _)⟩
    | _ => exact (h3 _ _ _ _ (fun i j h => by cases h.1) (fun i j h => by cases h.2) w).elim
  | _ => exact (h3 _ _ _ _ (fun i j h => by cases h.1) (fun i j h => by cases h.1) w).elim
theorem lt_rd : R2D K (rOrd (fun i j => decide (i < j)) fun s t => decide (s.cps.toList < t.cps.toList)) wLt := ord_rd (fun _ _ _ _ h => h) (fun _ _ _ _ h => h) fun x y μ P h1 h2 w => by
  unfold wLt at w; split at w
  · exact h1 _ _ ⟨rfl, rfl⟩
  · exact h2 _ _ ⟨rfl, rfl⟩
  · exact w
theorem le_rd : R2D K (rOrd (fun i j => decide (i ≤ j)) fun s t => !decide (t.cps.toList < s.cps.toList)) wLe := ord_rd (fun _ _ _ _ h => h) (fun _ _ _ _ h => h) fun x y μ P h1 h2 w => by
  unfold wLe at w; split at w
  · exact h1 _ _ ⟨rfl, rfl⟩
  · exact h2 _ _ ⟨rfl, rfl⟩
  · exact w
theorem gt_rd : R2D K (rOrd (fun i j => decide (j < i)) fun s t => decide (t.cps.toList < s.cps.toList)) wGt := ord_rd (fun _ _ _ _ h => h) (fun _ _ _ _ h => h) fun x y μ P h1 h2 w => by
  unfold wGt at w; split at w
  · exact h1 _ _ ⟨rfl, rfl⟩
  · exact h2 _ _ ⟨rfl, rfl⟩
  · exact w
theorem ge_rd : R2D K (rOrd (fun i j => decide (j ≤ i)) fun s t => !decide (s.cps.toList < t.cps.toList)) wGe := ord_rd (fun _ _ _ _ h => h) (fun _ _ _ _ h => h) fun x y μ P h1 h2 w => by
  unfold wGe at w; split at w
  · exact h1 _ _ ⟨rfl, rfl⟩
  · exact h2 _ _ ⟨rfl, rfl⟩
  · exact w
end

/-! ### plain data -/
def keyPy : Key → PyData
  | .inl i => .int i
  | .inr x => .str x
mutual
def toPy : DV → PyData
  | .none => .none
  | .bool b => .bool b
  | .int i => .int i
  | .str x => .str x
  | .tup ds => .tuple (toPys ds)
  | .lst ds => .list (toPys ds)
  | .dct kvs => .dict (toPyKv kvs)
  | .obj _ => .none
  | .fix _ => .none
  | .dn _ _ _ => .none
def toPys : List DV → List PyData
  | [] => []
  | d :: ds => toPy d :: toPys ds
def toPyKv : List (Key × DV) → List (PyData × PyData)
  | [] => []
  | (k, d) :: r => (keyPy k, toPy d) :: toPyKv r
end
mutual
/-- without objects -/
def noObj : DV → Bool
  | .tup ds => noObjs ds
  | .lst ds => noObjs ds
  | .dct kvs => noObjKv kvs
  | .obj _ => false
  | .fix _ => false
  | .dn _ _ _ => false
  | _ => true
def noObjs : List DV → Bool
  | [] => true
  | d :: ds => noObj d && noObjs ds
def noObjKv : List (Key × DV) → Bool
  | [] => true
  | (_, d) :: r => noObj d && noObjKv r
end
theorem toPys_map : ∀ ds : List DV, toPys ds = ds.map toPy
  | [] => rfl
  | d :: ds => by rw [toPys, toPys_map ds]; rfl
mutual
theorem Is.dp {K : PySem.W.Frag} {H : Hp} : ∀ {v : V} {d : DV}, Is K H v d → noObj d = true → (toPy d).canLay0 = true → Dp K H v (toPy d)
  | _, _, .none, _, _ => .non
  | _, _, .bool b, _, _ => .bl b
  | _, _, .int i, _, _ => .int i
  | _, _, .str x, _, _ => .str x
  | _, _, .tup h r, n, c => .tup h.t (Iss.dp r n c)
  | _, _, .lst h r, n, c => .lst (SqL.of h) (Iss.dp r n c)
  | _, _, .dct _ _ _, _, c => absurd (show false = true from c) Bool.false_ne_true
  | _, _, .obj _, n, _ => absurd (show false = true from n) Bool.false_ne_true
  | _, _, .fix _ _, n, _ => absurd (show false = true from n) Bool.false_ne_true
  | _, _, .dn _ _ _ _ _ _, n, _ => absurd (show false = true from n) Bool.false_ne_true
theorem Iss.dp {K : PySem.W.Frag} {H : Hp} : ∀ {vs : List V} {ds : List DV}, Iss K H vs ds → noObjs ds = true → PyData.canLayAll0 (toPys ds) = true → DpAll K H vs (toPys ds)
  | _, _, .nil, _, _ => .nil
  | _, _, .cons h r, n, c => by
    have n' := (Bool.and_eq_true_iff.mp n)
    have c' := (Bool.and_eq_true_iff.mp c)
    exact .cons (Is.dp h n'.1 c'.1) (Iss.dp r n'.2 c'.2)
end
/-- data that == and in may compare at any depth -/
def shapedD (d : DV) : Bool := noObj d && SeqAt.shaped (toPy d)
theorem Is.dpS {K : PySem.W.Frag} {H : Hp} {v : V} {d : DV} (h : Is K H v d) (s : shapedD d = true) : Dp K H v (toPy d) ∧ SeqAt.shaped (toPy d) = true := by
  have s' := Bool.and_eq_true_iff.mp s
  exact ⟨h.dp s'.1 (SeqAt.canLay_of_shaped s'.2), s'.2⟩
def deepEq (x y : DV) : Bool := PyData.eqv (toPy x) (toPy y)
def wEq : W2
  | .none, .none, μ, P => P (.bool true) μ
  | .none, .int _, μ, P => P (.bool false) μ
  | .none, .str _, μ, P => P (.bool false) μ
  | .none, .bool _, μ, P => P (.bool false) μ
  | .int _, .none, μ, P => P (.bool false) μ
  | .str _, .none, μ, P => P (.bool false) μ
  | .bool _, .none, μ, P => P (.bool false) μ
  | .int i, .int j, μ, P => P (.bool (decide (i = j))) μ
  | .bool i, .bool j, μ, P => P (.bool (decide (i = j))) μ
  | .str i, .str j, μ, P => P (.bool (decide (i = j))) μ
  | .int _, .str _, μ, P => P (.bool false) μ
  | .str _, .int _, μ, P => P (.bool false) μ
  | .bool _, .str _, μ, P => P (.bool false) μ
  | .str _, .bool _, μ, P => P (.bool false) μ
  | .lst xs, .lst ys, μ, P => shapedD (.lst xs) = true ∧ shapedD (.lst ys) = true ∧ P (.bool (deepEq (.lst xs) (.lst ys))) μ
  | .tup xs, .tup ys, μ, P => shapedD (.tup xs) = true ∧ shapedD (.tup ys) = true ∧ P (.bool (deepEq (.tup xs) (.tup ys))) μ
  | _, _, _, _ => False
def notB (w2 : W2) : W2 := fun x y μ P => w2 x y μ fun d μ1 => match d with | .bool b => P (.bool (!b)) μ1 | _ => False
section
variable {K : PySem.W.Frag} {X : Cx}
def rEqA (K : PySem.W.Frag) : R2 := fun x y H Q => rEq x y H Q ∨ rEqD K x y H Q
def rNeA (K : PySem.W.Frag) : R2 := fun x y H Q => rNe x y H Q ∨ rNeD K x y H Q
theorem op_eqA (hu : X.A.units + 64 < cLine) : OpR X (compareOp .Eq) (rEqA X.K) := op_eq.or (op_eqD hu)
theorem op_neA (hu : X.A.units + 64 < cLine) : OpR X (compareOp .NotEq) (rNeA X.K) := op_ne.or (op_neD hu)
theorem Is.up {R : Hp} {μ : Mh} {H : Hp} {v : V} {d : DV} (h : Is K (hid R μ H) v d) : Is K H v d := h.mono hid_le
theorem eq_core {x y : V} {dx dy : DV} {μ : Mh} {H : Hp} {P : DV → Mh → Prop} (ix : Is K H x dx) (iy : Is K H y dy) (w : wEq dx dy μ P) :
    (∃ b, scal x y = true ∧ decide (x = y) = b ∧ P (.bool b) μ) ∨ (∃ d e, Dp K H x d ∧ Dp K H y e ∧ SeqAt.shaped d = true ∧ SeqAt.shaped e = true ∧ P (.bool (PyData.eqv d e)) μ) := by
  cases ix with
  | none => cases iy with
    | none => exact .inl ⟨_, rfl, rfl, w⟩
    | int j => exact .inl ⟨_, rfl, rfl, w⟩
    | bool j => exact .inl ⟨_, rfl, rfl, w⟩
    | str j => exact .inl ⟨_, rfl, rfl, w⟩
    | _ => exact (show False from w).elim
  | int i => cases iy with
    | none => exact .inl ⟨_, rfl, rfl, w⟩
    | int j => exact .inl ⟨_, rfl, dec_int, (by rw [Bool.beq_eq_decide_eq]; exact w)⟩
    | str j => exact .inl ⟨_, rfl, rfl, w⟩
    | _ => exact (show False from w).elim
  | bool i => cases iy with
    | none => exact .inl ⟨_, rfl, rfl, w⟩
    | bool j => exact .inl ⟨_, rfl, dec_bl, (by rw [Bool.beq_eq_decide_eq]; exact w)⟩
    | str j => exact .inl ⟨_, rfl, rfl, w⟩
    | _ => exact (show False from w).elim
  | str i => cases iy with
    | none => exact .inl ⟨_, rfl, rfl, w⟩
    | int j => exact .inl ⟨_, rfl, rfl, w⟩
    | bool j => exact .inl ⟨_, rfl, rfl, w⟩
    | str j => exact .inl ⟨_, rfl, dec_str, (by rw [Bool.beq_eq_decide_eq]; exact w)⟩
    | _ => exact (show False from w).elim
  | lst hx rx => cases iy with
    | lst hy ry =>
      obtain ⟨s1, s2, w⟩ := w
      obtain ⟨p1, q1⟩ := (Is.lst (K := K) hx rx).dpS s1
      obtain ⟨p2, q2⟩ := (Is.lst (K := K) hy ry).dpS s2
      exact .inr ⟨_, _, p1, p2, q1, q2, w⟩
    | _ => exact (show False from w).elim
  | tup hx rx => cases iy with
    | tup hy ry =>
      obtain ⟨s1, s2, w⟩ := w
      obtain ⟨p1, q1⟩ := (Is.tup (K := K) hx rx).dpS s1
      obtain ⟨p2, q2⟩ := (Is.tup (K := K) hy ry).dpS s2
      exact .inr ⟨_, _, p1, p2, q1, q2, w⟩
    | _ => exact (show False from w).elim
  | _ => exact (show False from w).elim
/-- an object as it stands -/
def lookO (a : Addr) : Option MO → DV
  | some (.lst ds) => .lst ds
  | some (.dct kvs) => .dct kvs
  | _ => .obj a
def look (μ : Mh) : DV → DV
  | .obj a => lookO a (μ a)
  | d => d
theorem Is.look {R : Hp} {μ : Mh} {H : Hp} {v : V} {d : DV} (o : Ok K R μ H) (i : Is K (hid R μ H) v d) : Is K H v (Dz.look μ d) := by
  cases i with
  | obj a =>
    show Is K H (.ref a) (lookO a (μ a))
    cases e : μ a with
    | none => exact .obj a
    | some m =>
      cases m with
      | lst ds =>
        obtain ⟨xs, h, r⟩ := o.ob a _ e
        exact .lst h (r.mono hid_le)
      | dct ds =>
        obtain ⟨xs, h, q, r⟩ := o.ob a _ e
        exact .dct h q (r.mono hid_le)
      | _ => exact .obj a
  | none => exact .none
  | bool b => exact .bool b
  | int i => exact .int i
  | str s => exact .str s
  | lst h r => exact (Is.lst h r).mono hid_le
  | tup h r => exact (Is.tup h r).mono hid_le
  | dct h q r => exact (Is.dct h q r).mono hid_le
  | fix h r => exact (Is.fix h r).mono hid_le
  | dn h n dp nd r r2 => exact (Is.dn h n dp nd r r2).mono hid_le
def wEqL : W2 := fun x y μ P => wEq (look μ x) (look μ y) μ P
def wNeL : W2 := notB wEqL
theorem eq_rd : R2D K (rEqA K) wEqL := by
  intro R μ H x y dx dy P Q ok ix iy w k
  rcases eq_core (ix.look ok) (iy.look ok) w with ⟨b, h1, h2, h3⟩ | ⟨d, e, p1, p2, q1, q2, h3⟩
  · exact .inl ⟨h1, by rw [h2]; exact k.val ok h3 (.bool b)⟩
  · exact .inr ⟨d, e, p1, p2, q1, q2, k.val ok h3 (.bool _)⟩
theorem ne_rd : R2D K (rNeA K) wNeL := by
  intro R μ H x y dx dy P Q ok ix iy w k
  rcases eq_core (ix.look ok) (iy.look ok) w with ⟨b, h1, h2, h3⟩ | ⟨d, e, p1, p2, q1, q2, h3⟩
  · exact .inl ⟨h1, by rw [h2]; exact k.val ok h3 (.bool _)⟩
  · exact .inr ⟨d, e, p1, p2, q1, q2, k.val ok h3 (.bool _)⟩
/-! is None -/
def isNone : DV → Bool
  | .none => true
  | _ => false
def wIsN : W2 := fun x y μ P => match y with | .none => P (.bool (isNone x)) μ | _ => False
def wNotN : W2 := fun x y μ P => match y with | .none => P (.bool (!isNone x)) μ | _ => False
theorem isNone_of {H : Hp} {v : V} {d : DV} (h : Is K H v d) : decide (v = .non) = isNone d := by cases h <;> rfl
theorem isN_rd : R2D K (fun x y H Q => y = .non ∧ Q (.bl (decide (x = .non))) H) wIsN := by
  intro R μ H x y dx dy P Q ok ix iy w k
  cases iy with
  | none => exact ⟨rfl, by rw [isNone_of ix]; exact k.val ok w (.bool _)⟩
  | _ => exact (show False from w).elim
theorem notN_rd : R2D K (fun x y H Q => y = .non ∧ Q (.bl (!decide (x = .non))) H) wNotN := by
  intro R μ H x y dx dy P Q ok ix iy w k
  cases iy with
  | none => exact ⟨rfl, by rw [isNone_of ix]; exact k.val ok w (.bool _)⟩
  | _ => exact (show False from w).elim
/-! in -/
def flatD : DV → Bool
  | .none | .bool _ | .int _ | .str _ => true
  | _ => false
def eqF : DV → DV → Bool
  | .none, .none => true
  | .bool a, .bool b => a == b
  | .bool a, .int b => (if a then 1 else 0) == b
  | .int a, .bool b => a == (if b then 1 else 0)
  | .int a, .int b => a == b
  | .str a, .str b => a == b
  | _, _ => false
def inF (x : DV) (ds : List DV) : Bool := ds.any fun y => eqF y x
def inDeep (x : DV) (ds : List DV) : Bool := ds.any fun y => PyData.eqv (toPy y) (toPy x)
/-- x in a list or tuple: of flat things, or of data at any depth; a text in a text -/
def wIn : W2 := fun x y μ P => match y with
  | .lst ds => (flatD x = true ∧ ds.all flatD = true ∧ P (.bool (inF x ds)) μ) ∨ (shapedD x = true ∧ shapedD (.lst ds) = true ∧ P (.bool (inDeep x ds)) μ)
  | .tup ds => (flatD x = true ∧ ds.all flatD = true ∧ P (.bool (inF x ds)) μ) ∨ (shapedD x = true ∧ shapedD (.tup ds) = true ∧ P (.bool (inDeep x ds)) μ)
  | .str z => match x with
    | .str s => (∃ c, s = ⟨#[c]⟩ ∧ P (.bool (decide (c ∈ z.cps.toList))) μ) ∨ P (.bool (!(Builtin.Str.occurrences z s 0 z.length 1).isEmpty)) μ
    | _ => False
  | _ => False
def wNotIn : W2 := notB wIn
theorem flat_of {H : Hp} {v : V} {d : DV} (h : Is K H v d) : flatV v = flatD d := by cases h <;> rfl
theorem flats_of {H : Hp} : ∀ {vs : List V} {ds : List DV}, Iss K H vs ds → vs.all flatV = ds.all flatD
  | _, _, .nil => rfl
  | _, _, .cons h r => by rw [List.all_cons, List.all_cons, flat_of h, flats_of r]
theorem eqV_of {H : Hp} {v u : V} {d e : DV} (h : Is K H v d) (h' : Is K H u e) (f : flatD d = true) (f' : flatD e = true) : eqV v u = eqF d e := by
  cases h <;> first | (cases h' <;> first | rfl | exact absurd (show false = true from f') Bool.false_ne_true) | exact absurd (show false = true from f) Bool.false_ne_true
theorem inV_of {H : Hp} {v : V} {d : DV} (h : Is K H v d) (f : flatD d = true) : ∀ {vs : List V} {ds : List DV}, Iss K H vs ds → ds.all flatD = true → inV v vs = inF d ds
  | _, _, .nil, _ => rfl
  | _, _, .cons (v := v1) (vs := vs1) (d := d1) (ds := ds1) h1 r, fs => by
    rw [List.all_cons, Bool.and_eq_true] at fs
    have e := inV_of h f r fs.2
    show (eqV v1 v || inV v vs1) = (eqF d1 d || inF d ds1)
    rw [e, eqV_of h1 h fs.1 f]
def rInTD (K : PySem.W.Frag) : R2 := fun x y H Q => ∃ d ds, Dp K H x d ∧ Dp K H y (.tuple ds) ∧ SeqAt.shaped d = true ∧ SeqAt.shaped (.tuple ds) = true ∧ Q (.bl (ds.any fun z => PyData.eqv z d)) H
def rNotInTD (K : PySem.W.Frag) : R2 := fun x y H Q => ∃ d ds, Dp K H x d ∧ Dp K H y (.tuple ds) ∧ SeqAt.shaped d = true ∧ SeqAt.shaped (.tuple ds) = true ∧ Q (.bl (!ds.any fun z => PyData.eqv z d)) H
theorem room_in_tup {A : Around} {d : PyData} {ds : List PyData} (h : SeqAt.shaped d = true) (hu : A.units + 65 < cLine) : A.units + 1 + min (PyData.depthAll ds) d.depth < cLine := by
  have h1 := SeqAt.depth_of_shaped h
  have h2 : min (PyData.depthAll ds) d.depth ≤ d.depth := Nat.min_le_right _ _
  omega
theorem op_inTD (hu : X.A.units + 65 < cLine) : OpR X (compareOp .In) (rInTD X.K) := by
  intro pins s σ H x y v u Q I rx ry h
  obtain ⟨d, ds, hd, he, sd, se, q⟩ := h
  obtain ⟨as, r1⟩ := Dp.reads I d x v hd rx
  obtain ⟨bs, r2⟩ := Dp.reads I (.tuple ds) y u he ry
  exact SeqAt.in_tuple_reads r2 r1 (SeqAt.canLay_of_shaped se) (SeqAt.canLay_of_shaped sd) (room_in_tup sd hu) ⟨.bl _, H, I, rfl, q⟩
theorem op_notInTD (hu : X.A.units + 65 < cLine) : OpR X (compareOp .NotIn) (rNotInTD X.K) := by
  intro pins s σ H x y v u Q I rx ry h
  obtain ⟨d, ds, hd, he, sd, se, q⟩ := h
  obtain ⟨as, r1⟩ := Dp.reads I d x v hd rx
  obtain ⟨bs, r2⟩ := Dp.reads I (.tuple ds) y u he ry
  exact SeqAt.notIn_tuple_reads r2 r1 (SeqAt.canLay_of_shaped se) (SeqAt.canLay_of_shaped sd) (room_in_tup sd hu) ⟨.bl _, H, I, rfl, q⟩
def rInA (K : PySem.W.Frag) : R2 := fun x y H Q => rIn K false x y H Q ∨ rInD K x y H Q ∨ rInTD K x y H Q ∨ (∃ (c : Nat) (z : Str), x = .str ⟨#[c]⟩ ∧ y = .str z ∧ Q (.bl (decide (c ∈ z.cps.toList))) H) ∨
  (∃ i j, x = .str i ∧ y = .str j ∧ Q (.bl (!(Builtin.Str.occurrences j i 0 j.length 1).isEmpty)) H)
def rNotInA (K : PySem.W.Frag) : R2 := fun x y H Q => rIn K true x y H Q ∨ rNotInD K x y H Q ∨ rNotInTD K x y H Q ∨ (∃ (c : Nat) (z : Str), x = .str ⟨#[c]⟩ ∧ y = .str z ∧ Q (.bl (!decide (c ∈ z.cps.toList))) H) ∨
  (∃ i j, x = .str i ∧ y = .str j ∧ Q (.bl (!(!(Builtin.Str.occurrences j i 0 j.length 1).isEmpty))) H)
theorem op_inA (hu : X.A.units + 65 < cLine) : OpR X (compareOp .In) (rInA X.K) := op_in_seq.or ((op_inD hu).or ((op_inTD hu).or (op_in_sign.or op_in_str)))
theorem op_notInA (hu : X.A.units + 65 < cLine) : OpR X (compareOp .NotIn) (rNotInA X.K) := op_notIn_seq.or ((op_notInD hu).or ((op_notInTD hu).or (op_notIn_sign.or op_notin_str)))
theorem any_toPys (d : PyData) : ∀ ds : List DV, ((toPys ds).any fun z => PyData.eqv z d) = ds.any fun z => PyData.eqv (toPy z) d
  | [] => rfl
  | x :: ds => by rw [toPys, List.any_cons, List.any_cons, any_toPys d ds]
theorem in_rd : R2D K (rInA K) wIn := by
  intro R μ H x y dx dy P Q ok ix iy w k
  cases iy with
  | lst hy ry =>
    rcases w with ⟨f1, f2, w⟩ | ⟨s1, s2, w⟩
    · refine .inl ⟨_, _, rfl, .inl (SqL.of (hid_le _ _ hy)), by rw [flat_of ix]; exact f1, by rw [flats_of ry]; exact f2, ?_⟩
      rw [if_neg Bool.false_ne_true, inV_of ix f1 ry f2]
      exact k.val ok w (.bool _)
    · obtain ⟨p1, q1⟩ := ix.up.dpS s1
      obtain ⟨p2, q2⟩ := (Is.up (K := K) (.lst hy ry)).dpS s2
      exact .inr (.inl ⟨_, _, p1, p2, q1, q2, by rw [any_toPys]; exact k.val ok w (.bool _)⟩)
  | tup hy ry =>
    rcases w with ⟨f1, f2, w⟩ | ⟨s1, s2, w⟩
    · refine .inl ⟨_, _, rfl, .inr (Same.seqT hid_le hy.t), by rw [flat_of ix]; exact f1, by rw [flats_of ry]; exact f2, ?_⟩
      rw [if_neg Bool.false_ne_true, inV_of ix f1 ry f2]
      exact k.val ok w (.bool _)
    · obtain ⟨p1, q1⟩ := ix.up.dpS s1
      obtain ⟨p2, q2⟩ := (Is.up (K := K) (.tup hy ry)).dpS s2
      exact .inr (.inr (.inl ⟨_, _, p1, p2, q1, q2, by rw [any_toPys]; exact k.val ok w (.bool _)⟩))
  | str z => cases ix with
    | str s =>
      rcases w with ⟨c, rfl, w⟩ | w
      · exact .inr (.inr (.inr (.inl ⟨c, z, rfl, rfl, k.val ok w (.bool _)⟩)))
      · exact .inr (.inr (.inr (.inr ⟨s, z, rfl, rfl, k.val ok w (.bool _)⟩)))
    | _ => exact (show False from w).elim
  | _ => exact (show False from w).elim
theorem notIn_rd : R2D K (rNotInA K) wNotIn := by
  intro R μ H x y dx dy P Q ok ix iy w k
  cases iy with
  | lst hy ry =>
    rcases w with ⟨f1, f2, w⟩ | ⟨s1, s2, w⟩
    · refine .inl ⟨_, _, rfl, .inl (SqL.of (hid_le _ _ hy)), by rw [flat_of ix]; exact f1, by rw [flats_of ry]; exact f2, ?_⟩
      rw [if_pos rfl, inV_of ix f1 ry f2]
      exact k.val ok w (.bool _)
    · obtain ⟨p1, q1⟩ := ix.up.dpS s1
      obtain ⟨p2, q2⟩ := (Is.up (K := K) (.lst hy ry)).dpS s2
      exact .inr (.inl ⟨_, _, p1, p2, q1, q2, by rw [any_toPys]; exact k.val ok w (.bool _)⟩)
  | tup hy ry =>
    rcases w with ⟨f1, f2, w⟩ | ⟨s1, s2, w⟩
    · refine .inl ⟨_, _, rfl, .inr (Same.seqT hid_le hy.t), by rw [flat_of ix]; exact f1, by rw [flats_of ry]; exact f2, ?_⟩
      rw [if_pos rfl, inV_of ix f1 ry f2]
      exact k.val ok w (.bool _)
    · obtain ⟨p1, q1⟩ := ix.up.dpS s1
      obtain ⟨p2, q2⟩ := (Is.up (K := K) (.tup hy ry)).dpS s2
      exact .inr (.inr (.inl ⟨_, _, p1, p2, q1, q2, by rw [any_toPys]; exact k.val ok w (.bool _)⟩))
  | str z => cases ix with
    | str s =>
      rcases w with ⟨c, rfl, w⟩ | w
      · exact .inr (.inr (.inr (.inl ⟨c, z, rfl, rfl, k.val ok w (.bool _)⟩)))
      · exact .inr (.inr (.inr (.inr ⟨s, z, rfl, rfl, k.val ok w (.bool _)⟩)))
    | _ => exact (show False from w).elim
  | _ => exact (show False from w).elim

/-! ### subscripts, slices -/
def atW {α : Type} (o : Option α) (f : α → Prop) : Prop := match o with | some d => f d | none => False
theorem atW_of {α : Type} {o : Option α} {f : α → Prop} (h : atW o f) : ∃ d, o = some d ∧ f d := by
  cases o with
  | none => exact h.elim
  | some d => exact ⟨d, rfl, h⟩
def wIx : W2
  | .lst ds, .int i, μ, P => atW (atI ds i) fun d => P d μ
  | .tup ds, .int i, μ, P => atW (atI ds i) fun d => P d μ
  | .str z, .int i, μ, P => z.length ≤ sizeLine ∧ atW (atI z.cps.toList i) fun c => P (.str ⟨#[c]⟩) μ
  | _, _, _, _ => False
theorem Iss.atI {H : Hp} {vs : List V} {ds : List DV} {i : Int} {d : DV} (r : Iss K H vs ds) (h : L2.atI ds i = some d) : ∃ v, L2.atI vs i = some v ∧ Is K H v d := by
  unfold L2.atI at h ⊢
  rw [r.length]
  cases e : ixN ds.length i with
  | none => rw [e] at h; cases h
  | some j =>
    rw [e] at h
    exact r.get h
theorem ix_rd : R2D K (rIx K) wIx := by
  intro R μ H x y dx dy P Q ok ix iy w k
  cases ix with
  | lst hx rx => cases iy with
    | int i =>
      obtain ⟨d, e, w⟩ := atW_of w
      obtain ⟨v, h1, h2⟩ := rx.atI e
      exact .inl ⟨_, _, i, v, rfl, rfl, SqL.of (hid_le _ _ hx), h1, k.val ok w h2⟩
    | _ => exact (show False from w).elim
  | tup hx rx => cases iy with
    | int i =>
      obtain ⟨d, e, w⟩ := atW_of w
      obtain ⟨v, h1, h2⟩ := rx.atI e
      exact .inr (.inl ⟨_, _, i, v, rfl, rfl, Same.seqT hid_le hx.t, h1, k.val ok w h2⟩)
    | _ => exact (show False from w).elim
  | str z => cases iy with
    | int i =>
      obtain ⟨d, e, w'⟩ := atW_of w.2
      exact .inr (.inr ⟨z, i, _, rfl, rfl, w.1, e, k.val ok w' (.str _)⟩)
    | _ => exact (show False from w).elim
  | _ => exact (show False from w).elim
abbrev WO := Rho → Mh → (Option Int → Mh → Prop) → Prop
def NxtO (K : PySem.W.Frag) (R : Hp) (μ : Mh) (H : Hp) (P : Option Int → Mh → Prop) (Q : Option Int → Hp → Prop) : Prop :=
  ∀ b μ' H', P b μ' → Ok K R μ' H' → Same (hid R μ H) (hid R μ' H') → Q b H'
def tDO (K : PySem.W.Frag) (w : WO) : TO := fun σ H Q => ∃ R ρ μ P, At K R σ ρ μ H ∧ w ρ μ P ∧ NxtO K R μ H P Q
def wNoPart : WO := fun _ μ P => P none μ
def wPart (w : WE) : WO := fun ρ μ P => w ρ μ fun d μ1 => match d with | .int i => P (some i) μ1 | _ => False
theorem PO.imp {e : Option Expr} {t t' : TO} (h : PO X e t) (i : ∀ σ H Q, t' σ H Q → t σ H Q) : PO X e t' := ⟨fun pins s σ H Q I w => h.run pins s σ H Q I (i _ _ _ w)⟩
theorem do_none : PO X none (tDO X.K wNoPart) := PO.imp po_none fun σ H Q ⟨R, ρ, μ, P, a, w, k⟩ => k _ μ H w a.ok (Same.refl _)
variable {e a b : Expr} {w wa wb : WE} {lo hi : Option Expr} {wl wh : WO} {pos p2 : Pos}
theorem do_some (h : PE X e (tD X.K w)) : PO X (some e) (tDO X.K (wPart w)) := PO.imp (po_some h) fun σ H Q ⟨R, ρ, μ, P, a, w, k⟩ => ⟨R, ρ, μ, _, a, w, fun d μ1 v H1 p1 o1 s1 i1 => by
  cases i1 with
  | int i => exact ⟨i, rfl, k _ μ1 H1 p1 o1 s1⟩
  | _ => exact (show False from p1).elim⟩
def cutD (ds : List DV) (lo hi : Option Int) : List DV := (ds.drop (HT.sIx ds.length 0 lo)).take (HT.sIx ds.length ds.length hi - HT.sIx ds.length 0 lo)
theorem Iss.cut {H : Hp} {vs : List V} {ds : List DV} (r : Iss K H vs ds) (lo hi : Option Int) : Iss K H (cutV vs lo hi) (cutD ds lo hi) := by
  unfold cutV cutD
  rw [r.length]
  exact (r.drop _).take _
def wCut : DV → Option Int → Option Int → Mh → (DV → Mh → Prop) → Prop
  | .lst ds, l, h, μ, P => P (.lst (cutD ds l h)) μ
  | .tup ds, l, h, μ, P => P (.tup (cutD ds l h)) μ
  | .str z, l, h, μ, P => z.length ≤ sizeLine ∧ P (.str (cutS z l h)) μ
  | .fix ds, l, h, μ, P => P (.lst (cutD ds l h)) μ
  | _, _, _, _, _ => False
def wSl (w : WE) (wl wh : WO) : WE := fun ρ μ P => w ρ μ fun x μ1 => wl ρ μ1 fun l μ2 => wh ρ μ2 fun h μ3 => wCut x l h μ3 P
def rSlX (K : PySem.W.Frag) : V → Option Int → Option Int → Hp → VK → Prop := fun x lo hi H Q => rSlL K x lo hi H Q ∨ rSlN K x lo hi H Q ∨ rSlS x lo hi H Q
theorem sl_any : SlR X (rSlX X.K) := sl_list.or (sl_tupN.or sl_str)
theorem d_slice (he : PE X e (tD X.K w)) (hl : PO X lo (tDO X.K wl)) (hu : PO X hi (tDO X.K wh)) : PE X (.Subscript e (.Slice lo hi none p2) pos) (tD X.K (wSl w wl wh)) :=
  PE.imp (pe_slice sl_any he hl hu) fun σ H Q ⟨R, ρ, μ, P, a, w, k⟩ => ⟨R, ρ, μ, _, a, w, fun x μ1 v H1 p1 o1 s1 i1 => ⟨R, ρ, μ1, _, a.step o1 s1, p1, fun l μ2 H2 p2 o2 s2 => ⟨R, ρ, μ2, _, a.step o2 (s1.trans s2), p2, fun h μ3 H3 p3 o3 s3 => by
    have k3 := k.step ((s1.trans s2).trans s3)
    have i3 := i1.mono (s2.trans s3)
    cases i3 with
    | lst hx rx => exact .inl ⟨_, _, rfl, SqL.of (hid_le _ _ hx), fun p n => k3.lst o3 p3 (rx.cut l h) n⟩
    | @tup a xs ds hx rx =>
      refine .inr (.inl ⟨_, _, rfl, Same.seqT hid_le hx.t, fun z => ?_, fun _ p t n nt => k3.tup nt o3 p3 (rx.cut l h) n⟩)
      have e : cutD ds l h = ds := by
        unfold cutD
        rw [← rx.length, z.1, z.2]
        simp [rx.length]
      exact k3.val o3 (by rw [← e]; exact p3) (.tup hx rx)
    | fix hx rx => exact .inl ⟨_, _, rfl, hid_le.seq hx, fun p n => k3.lst o3 p3 (rx.cut l h) n⟩
    | str z => exact .inr (.inr ⟨z, rfl, p3.1, k3.val o3 p3.2 (.str _)⟩)
    | _ => exact (show False from p3).elim⟩⟩⟩
theorem d_ix (ha : PE X a (tD X.K wa)) (hb : PE X b (tD X.K wb)) (hs : PlainIx b := by exact fun _ _ => rfl) : PE X (.Subscript a b pos) (tD X.K (wBin wIx wa wb)) := PE.imp (pe_ix ix_seq ha hb hs) (bin_imp ix_rd)
end
end Dz

set_option Elab.async false
set_option linter.all false
set_option maxRecDepth 100000
set_option maxHeartbeats 4000000
/-! DzG: a def's promise where nothing around it is being shown (repr): guards stand empty. The law's end for such promises. -/
namespace Dz
open PySem PySem.Spec L2 PyProof.Rows

/-- as FnOk, at places around which no repr runs -/
structure FnG (P : Program) (w : World) (K : PySem.W.Frag) (mg : Str → Option Value) (base : Heap) (k : Nat) (f : Addr) (fd : FuncData) (ps : List Str) (sp : Sp) : Prop where
  len : ∀ vs H Q E, sp vs H Q E → vs.length = ps.length
  run : ∀ (A : Around) (fr : List Env) (s : Shared) (H : Hp) (ar : Args) (us : List Value) (vs : List V) (Q : VK) (E : XK), A.guards = some [] → Room k A → Env0 P w K mg base A fr s H → BindsTo s fd ar (ps.zip us) → Vals vs us → sp vs H Q E →
    codeAny (model P w) A (.call (.ref f) ar) (CR CX0 fr P w H s Q E) s
theorem FnG.mono {P : Program} {w : World} {K : PySem.W.Frag} {mg : Str → Option Value} {base : Heap} {j k : Nat} {f : Addr} {fd : FuncData} {ps : List Str} {sp : Sp} (F : FnG P w K mg base j f fd ps sp) (h : j ≤ k) : FnG P w K mg base k f fd ps sp :=
  ⟨F.len, fun A fr s H ar us vs Q E hg hr => F.run A fr s H ar us vs Q E hg (hr.mono h)⟩
theorem FnOk.g {P : Program} {w : World} {K : PySem.W.Frag} {mg : Str → Option Value} {base : Heap} {k : Nat} {f : Addr} {fd : FuncData} {ps : List Str} {sp : Sp} (F : FnOk P w K mg base CX0 k f fd ps sp) : FnG P w K mg base k f fd ps sp :=
  ⟨F.len, fun A fr s H ar us vs Q E _ hr => F.run A fr s H ar us vs Q E hr⟩

/-- a def of the text keeps a promise by its body -/
theorem fng_of {P : Program} {w : World} {K : PySem.W.Frag} {mg : Str → Option Value} {base : Heap} {x qual : Str} {st : Stmt} {f : Addr} {fd : FuncData} {N ps : List Str} {k : Nat} {sp : Sp} (F : Fun K x qual st f fd) (S : FnScope N ps (defScope st)) (len : ∀ vs H Q E, sp vs H Q E → vs.length = ps.length)
    (body : ∀ (cdv : Value) (A : Around) (fr : List Env) (s : Shared) (H : Hp) (vs : List V) (Q : VK) (E : XK), A.guards = some [] → Room k (A.deeper (envOfC qual (defScope st) s.heap.objs.size f cdv)) → sp vs H Q E →
      ∃ t, PSs (cxOf CX0 P w K mg base N qual (defScope st) f cdv A fr s H E).nox (defBody st) t ∧ t { nx := fun _ H' => Q .non H', rt := Q } (start N vs) H) : FnG P w K mg base (k + 1) f fd ps sp := by
  obtain ⟨oc, od, kV, doc, pm, an, cdv, ct, osl, rfl, lk, hcd⟩ := F.ex
  refine ⟨len, fun A fr s H ar us vs Q E hgd room env bnd rel want => ?_⟩
  have inK : K.In s.heap := env.mod.kin.keeps fun b o q => (env.bs b o q).1
  have nolim : s.heap.NoLimit := env.mod.nolimit.keeps fun b o q => (env.bs b o q).1
  have count := len vs H Q E want
  have kinds : ∀ y ∈ ps.zip us, (defScope st).names.lookup y.1 = some .local ∨ ((defScope st).names.lookup y.1 = some .cell ∧ ((cellsFrom (s.heap.objs.size + 1) (defScope st).names []).lookup y.1).isSome = true) := by
    rintro ⟨nm, vv⟩ hy
    have hp := S.par nm (List.of_mem_zip hy).1
    rcases hp with hp | hp
    · exact Or.inl hp
    · exact Or.inr ⟨hp, PySem.W.cellsFrom_some _ _ _ (Or.inl hp)⟩
  refine codeAny_call_function room.depth (inK _ _ lk) rfl S.co S.gen rfl (PySem.W.codeRec_of inK hcd) (bnd _ _ _ _ ?_)
  refine wpAny_newFunctionEnv_cells S.kind kinds fun ev hev s1 x1 => ?_
  subst hev
  refine ⟨nolim.keeps x1.toInCall.keep, codeAny_func ?_⟩
  obtain ⟨t, ht0, hq⟩ := body cdv A fr s H vs Q E hgd (room.deeper _) want
  have ht := ht0.nox
  have I0 := inv_start (CX := CX0) (E := E) S room.hd env count rel x1
  refine wpAny_mono (ht.run [] s1 (start N vs) H _ I0 hq) (fun flow s2 hs => ?_) fun er s2 hs => hs
  cases flow with
  | next =>
    obtain ⟨σ2, H2, J, q⟩ := hs
    exact ⟨.non, H2, J.os, J.bare, J.base, J.hok, rfl, q⟩
  | ret u =>
    obtain ⟨v, σ2, H2, J, rv, q⟩ := hs
    exact ⟨v, H2, J.os, J.bare, J.base, J.hok, rv, q⟩
  | brk =>
    obtain ⟨_, _, _, q⟩ := hs
    exact q.elim
  | cont =>
    obtain ⟨_, _, _, q⟩ := hs
    exact q.elim

section
variable {X : Cx} {k : Nat} {f : Addr} {fd : FuncData} {ps : List Str} {sp : Sp} {E : XK} {x : Str} {p pos : Pos} {e : Expr} {es : List Expr} {t : TA} {dvs : List V} {ds : List Value}
theorem runG {pins : List (Addr × Obj)} {σ : L2.St} {H : Hp} {s : Shared} {Q : VK} {ar : Args} {us : List Value} {vs : List V} (F : FnG X.prog X.w X.K X.mg X.base k f fd ps sp) (hgd : X.A.guards = some []) (hr : Room k X.A) (I : Inv X pins σ H s) (hb : BindsTo s fd ar (ps.zip us)) (r : Vals vs us) (h : sp vs H Q E) :
    wpAny (model X.prog X.w) X.A (PySem.call (.ref f) ar.pos ar.kw) (EP X pins σ Q) X.xe s := by
  refine wpAny_call (codeAny_mono (F.run X.A X.stack s H ⟨ar.pos, ar.kw⟩ us vs Q E hgd hr I.env0 hb r h) fun res s' hq => ?_)
  match res, hq with
  | .ok (.ret u), hq => exact I.after hq
theorem peg_call (F : FnG X.prog X.w X.K X.mg X.base k f fd ps sp) (hgd : X.A.guards = some []) (hr : Room k X.A) (hg : Gl X x) (hm : X.mg x = some (.ref f)) (hk : PySem.W.keepIn X.K (.ref f) = true) (hb : Binds X.K fd ps ds) (hd : Vals dvs ds)
    (ha : PA X (e :: es) t) (hdb : (x == ("__debug__" : Str)) = false) (he : starEach (e :: es) X.env = (false, eval e X.env) :: starEach es X.env) (hpl : (backTo pos (starEach es X.env)).any (·.1) = false) :
    PE X (.Call (.Name x p) (e :: es) [] pos) (tCall sp dvs E t) := by
  constructor
  intro pins s σ H Q I h
  refine wpAny_Call_Name_kw (ld_glob I hg hm (PySem.W.callWith_K (h₀ := X.base) I.ok.mod.kin hk (thn (ha.run pos pins s σ H _ I h) fun us s1 ⟨vs, H1, I1, r, q⟩ => ⟨I1.kIn, ?_⟩) he hpl) hdb)
  have rr : Vals (vs ++ dvs) (us ++ ds) := r.append hd
  exact runG (ar := ⟨us, []⟩) F hgd hr I1 (hb s1 us I1.kIn (by rw [← rr.length]; exact F.len _ _ _ _ q)) rr q
theorem peg_call0 (F : FnG X.prog X.w X.K X.mg X.base k f fd ps sp) (hgd : X.A.guards = some []) (hr : Room k X.A) (hg : Gl X x) (hm : X.mg x = some (.ref f)) (hk : PySem.W.keepIn X.K (.ref f) = true) (hb : Binds X.K fd ps ds) (hd : Vals dvs ds)
    (hdb : (x == ("__debug__" : Str)) = false) : PE X (.Call (.Name x p) [] [] pos) (tCall sp dvs E tNil) := by
  constructor
  intro pins s σ H Q I h
  refine wpAny_Call_Name_kw (ld_glob I hg hm (PySem.W.callWith_K0 I.kIn hk ?_) hdb)
  exact runG (ar := ⟨[], []⟩) (us := [] ++ ds) (vs := [] ++ dvs) F hgd hr I (hb s [] I.kIn (by rw [← (Vals.append .nil hd).length]; exact F.len _ _ _ _ h)) (Vals.append .nil hd) h
/-- keywords alone -/
theorem peg_callK0 {ks : List Str} {kws : List Keyword} {tk : TA} {g : List Value → List Value → List Value} {gV : List V → List V → List V} (F : FnG X.prog X.w X.K X.mg X.base k f fd ps sp) (hgd : X.A.guards = some []) (hr : Room k X.A) (hg : Gl X x) (hm : X.mg x = some (.ref f)) (hk : PySem.W.keepIn X.K (.ref f) = true)
    (hb : KBinds X.K fd ps ks g gV) (hkw : PK X kws tk) (hall : (backToKw pos (keywordEach kws X.env)).all (·.1.isSome) = true) (hks : (backToKw pos (keywordEach kws X.env)).filterMap (·.1) = ks) (hdb : (x == ("__debug__" : Str)) = false)
    (hpl : ((backTo pos (starEach [] X.env)).any (·.1) || (backToKw pos (keywordEach kws X.env)).any (·.1.isNone)) = false) : PE X (.Call (.Name x p) [] kws pos) (fun σ H Q => tk σ H fun zs H1 => sp (gV [] zs) H1 Q E) := by
  constructor
  intro pins s σ H Q I h
  refine wpAny_Call_Name_kw (ld_glob I hg hm (PySem.W.callWith_KW0 (h₀ := X.base) I.ok.mod.kin hk hall (thn (hkw.run pos pins s σ H _ I h) fun us s1 ⟨zs, H1, I1, r, q⟩ => ⟨I1.kIn, ?_⟩) hpl) hdb)
  rw [hks]
  have rr : Vals (gV [] zs) (g [] us) := hb.rel .nil r
  exact runG (ar := ⟨[], ks.zip us⟩) F hgd hr I1 (hb.to s1 [] us I1.kIn (by rw [← rr.length]; exact F.len _ _ _ _ q)) rr q
end

/-! ### the end -/
/-- the script is there: a list of the ints, locked (or the module's own); nothing else is tracked -/
def Entry (H : Hp) : Prop := ∀ b, H b = none ∨ ∃ o xs, H b = some (.frz o (.lst xs))
theorem law_callG {P : Program} {w : World} {K : PySem.W.Frag} {mg mb : Str → Option Value} {k : Nat} {fa a : Addr} {fd : FuncData} {x : Str} {sp : Sp} {s₁ : Shared} {vs : List Value} {ns : List Int}
    (KX : K.In s₁.heap) (hns : s₁.heap.Ns mainGlobals mg) (hb : s₁.heap.Ns builtinsNs mb) (hbb : ∀ y : Str, y ≠ "__name__" → mb y = bootBuiltins y) (hlim : s₁.heap.NoLimit) (hg : s₁.gens = #[])
    (ha : s₁.heap.get? a = some { cls := .type "list", data := .seq vs.toArray }) (hi : IntsAre vs ns) (hl : ns.length ≤ sizeLine) (hr : Room k callerA)
    (hsys : ∃ m, s₁.heap.Ns sysModules m) (F : ∀ base : Heap, K.In base → base.Ns mainGlobals mg → (∃ o, base.get? sysModules = some o) → FnG P w K mg base k fa fd [x] sp) (hbind : ∀ (s : Shared) (u : Value), BindsTo s fd ⟨[u], []⟩ [(x, u)])
    (hsp : ∀ H : Hp, Entry H → SqL K H a (ns.map V.int) → sp [.ref a] H (fun v _ => v = .bl true) fun _ _ _ => False) :
    codeAny (model P w) callerA (.call (.ref fa) ⟨[.ref a], []⟩) (fun r s' => r = .ok (.ret (.bool true)) ∧ OldK s₁.heap s'.heap ∧ s'.os = s₁.os ∧ AllBare s'.gens) s₁ := by
  have rv := vals_ints hi
  have same : ∀ H : Hp, Entry H → SqL K H a (ns.map V.int) → HOk P w H s₁.heap → (∀ b u, H b = some u → b = a ∧ K.lookup a = none) →
      codeAny (model P w) callerA (.call (.ref fa) ⟨[.ref a], []⟩) (fun r s' => r = .ok (.ret (.bool true)) ∧ OldK s₁.heap s'.heap ∧ s'.os = s₁.os ∧ AllBare s'.gens) s₁ := by
    intro H hE hS hok only
    -- what is no list at a stays below
    have low : ∀ {b : Addr} {o : Obj}, s₁.heap.get? b = some o → (b = a → K.lookup a = none → False) → (hidT s₁.heap H).get? b = some o := fun {b o} e ne => by
      refine hidT_get e ?_
      cases q : H b with
      | none => rfl
      | some u => exact (ne (only b u q).1 (only b u q).2).elim
    have lowNs : ∀ {b : Addr} {m : Str → Option Value}, s₁.heap.Ns b m → (hidT s₁.heap H).Ns b m := fun {b m} h => by
      obtain ⟨o, es, ep, e, d, rest⟩ := h
      refine ⟨o, es, ep, low e fun z _ => ?_, d, rest⟩
      subst z
      rw [ha] at e
      cases e
      exact Data.noConfusion (show Data.seq vs.toArray _ = Data.dict es ep from d)
    have lowK : K.In (hidT s₁.heap H) := fun b o e => low (KX b o e) fun z n => by
      subst z
      rw [n] at e
      cases e
    obtain ⟨ml, hl1, hl2⟩ := hlim
    have env : Env0 P w K mg (hidT s₁.heap H) callerA [] s₁ H :=
      ⟨rfl, ⟨lowK, lowNs hns, ⟨mb, lowNs hb, hbb⟩, ⟨ml, lowNs hl1, hl2⟩⟩, fun b o e => of_hidT e, Nat.le_of_eq (hidT_size _ _), trivial, (fun b z => (List.not_mem_nil (show b ∈ ([] : List Addr) from z)).elim), hok, AllBare.of_eq hg⟩
    refine codeAny_mono ((F (hidT s₁.heap H) lowK (lowNs hns) (let ⟨_, hm⟩ := hsys; let ⟨o, _, _, ho, _⟩ := lowNs hm; ⟨o, ho⟩)).run callerA [] s₁ H ⟨[.ref a], []⟩ [.ref a] [.ref a] _ _ rfl hr env (hbind s₁ (.ref a)) (.cons rfl .nil) (hsp H hE hS)) fun res s' h => ?_
    match res, h with
    | .ok (.ret u), ⟨v, H', os, bare, un, hok', r', q⟩ =>
      have q' : v = V.bl true := q
      subst q'
      obtain rfl : u = Value.bool true := r'
      refine ⟨rfl, OldK.of_keep fun b o e => ?_, os, bare⟩
      rcases hE b with z | ⟨ob, xs, z⟩
      · exact un.keep b o e z (fun y => List.not_mem_nil (show b ∈ ([] : List Addr) from y)) (fun y => List.not_mem_nil y)
      · obtain ⟨e1, _⟩ := hok b _ z
        obtain ⟨e2, _⟩ := hok' b _ (un.frzs b ob _ z)
        have e3 : some o = some ob := e.symm.trans e1
        cases e3
        exact e2
  have lenV := hi.length
  cases hk : K.lookup a with
  | some o =>
    have e := (KX a o hk).symm.trans ha
    cases e
    exact same (fun _ => none) (fun _ => Or.inl rfl) (Or.inr ⟨_, vs.toArray, _, hk, rfl, rfl, rfl, by simpa [lenV] using hl, by simpa using rv⟩) (fun b u z => by cases z) (fun b u z => by cases z)
  | none =>
    let o0 : Obj := { cls := .type "list", data := .seq vs.toArray }
    let H0 : Hp := fun b => if b = a then some (.frz o0 (.lst (ns.map V.int))) else none
    have at0 : ∀ b u, H0 b = some u → b = a ∧ u = .frz o0 (.lst (ns.map V.int)) := fun b u z => by
      by_cases hb : b = a
      · exact ⟨hb, (Option.some.inj ((if_pos hb).symm.trans z)).symm⟩
      · cases (if_neg hb).symm.trans z
    refine same H0 (fun b => ?_) (Or.inl (Or.inr ⟨o0, if_pos rfl⟩)) (fun b u z => ?_) (fun b u z => ⟨(at0 b u z).1, hk⟩)
    · by_cases hb : b = a
      · exact Or.inr ⟨o0, _, if_pos hb⟩
      · exact Or.inl (if_neg hb)
    · obtain ⟨rfl, rfl⟩ := at0 b u z
      exact ⟨ha, by rw [List.length_map]; exact hl, vs, _, rv, ha⟩
/-- the goal that k_head leaves, from the law's promise -/
theorem walk_ofG {l : PySem.W.OpenLaw} {n k : Nat} {q : Program} {loose : List Str} {XP : (Str → Option Value) → Heap → Prop} {YP : World → Heap → Prop} {d : DefRec} {K : Params → PySem.W.Frag} {sp : PySem.W.Frag → Sp} {x : Str}
    (hn : l.most = some n) (hn2 : n ≤ sizeLine) (hi : importsNone q = true) (hdf : d.params.defaults = []) (hr : Room k callerA) (hY : ∀ (w : World) (h : Heap), YP w h → (K w.params).In h)
    (F : ∀ (w : World) (mg : Str → Option Value) (fa : Addr) (h : Heap), (K w.params).In h → h.Ns mainGlobals mg → (∃ o, h.get? sysModules = some o) → mg d.name = some (.ref fa) →
      ∃ fd : FuncData, (∀ (s : Shared) (u : Value), BindsTo s fd ⟨[u], []⟩ [(x, u)]) ∧ ∀ base : Heap, (K w.params).In base → base.Ns mainGlobals mg → (∃ o, base.get? sysModules = some o) → FnG l.prog w (K w.params) mg base k fa fd [x] (sp (K w.params)))
    (hsp : ∀ (K : PySem.W.Frag) (H : Hp) (a : Addr) (ns : List Int), ns.length ≤ n → Entry H → SqL K H a (ns.map V.int) → sp K [.ref a] H (fun v _ => v = .bl true) fun _ _ _ => False) :
    PySem.W.WalkO q loose XP YP l.row.toRowW d [] (fun f vs => PySem.call f vs) := by
  refine Att.attach_call hn hdf fun w s₀ s₁ mg mb fa o pm cd doc a vs ns G Y ho hd hcd hmg hobj hints hlen hgen => ?_
  have KX := hY w _ Y
  have hsys : ∃ m, s₁.heap.Ns sysModules m := let ⟨m, hm, _⟩ := (G.T.seer hi).mods; ⟨m, hm⟩
  obtain ⟨fd, hbd, hF⟩ := F w mg fa _ KX G.T.g (let ⟨_, hm⟩ := hsys; let ⟨o, _, _, ho, _⟩ := hm; ⟨o, ho⟩) hmg
  exact law_callG KX G.T.g G.T.b G.T.builtins G.T.nolimit hgen hobj hints (Nat.le_trans hlen hn2) hr hsys hF hbd fun H hE hS => hsp (K w.params) H a ns hlen hE hS
end Dz

set_option Elab.async false
set_option linter.all false
set_option maxRecDepth 100000
set_option maxHeartbeats 4000000
/-! Dz4: targets, things walked, statements, loops, comprehensions, defs and their calls. -/
namespace Dz
open PySem L2 PyProof.Rows

/-! ### targets -/
theorem wipe_get (σ : L2.St) (j : Nat) : ∀ vs : List Nat, (wipe σ vs)[j]? = if j ∈ vs ∧ j < σ.length then some none else σ[j]?
  | [] => by simp [wipe]
  | v :: vs => by
    unfold wipe
    by_cases h : v = j
    · subst h
      by_cases hl : v < σ.length
      · rw [List.getElem?_set_self (by rw [wipe_length]; exact hl), if_pos ⟨List.mem_cons_self, hl⟩]
      · rw [List.getElem?_eq_none (by rw [List.length_set, wipe_length]; omega), if_neg (fun z => hl z.2), List.getElem?_eq_none (by omega)]
    · rw [List.getElem?_set_ne h, wipe_get σ j vs]
      by_cases c : j ∈ vs ∧ j < σ.length
      · rw [if_pos c, if_pos ⟨List.mem_cons_of_mem _ c.1, c.2⟩]
      · rw [if_neg c, if_neg fun z => c ⟨(List.mem_cons.mp z.1).resolve_left fun q => h q.symm, z.2⟩]
theorem wipe_set {σ : L2.St} {i : Nat} {x : Option V} {vs : List Nat} (h : i ∈ vs) : wipe (σ.set i x) vs = wipe σ vs := by
  apply List.ext_getElem?
  intro j
  rw [wipe_get, wipe_get, List.length_set]
  by_cases c : j ∈ vs ∧ j < σ.length
  · rw [if_pos c, if_pos c]
  · rw [if_neg c, if_neg c]
    by_cases e : i = j
    · subst e
      have hl : ¬ i < σ.length := fun z => c ⟨h, z⟩
      rw [List.getElem?_eq_none (by rw [List.length_set]; omega), List.getElem?_eq_none (by omega)]
    · rw [List.getElem?_set_ne e]
theorem wipe_wipe (σ : L2.St) (vs : List Nat) : wipe (wipe σ vs) vs = wipe σ vs := by
  apply List.ext_getElem?
  intro j
  rw [wipe_get, wipe_get, wipe_length]
  by_cases c : j ∈ vs ∧ j < σ.length
  · rw [if_pos c, if_pos c]
  · rw [if_neg c, if_neg c]
def tDG (K : PySem.W.Frag) (sl : List Nat) (wg : WG) : TG := fun v σ H Q => ∃ R ρ μ d P, At K R σ ρ μ H ∧ Is K (hid R μ H) v d ∧ wg d ρ P ∧
  ∀ ρ' σ', P ρ' → Sl K (hid R μ H) σ' ρ' → (∀ vs, (∀ i ∈ sl, i ∈ vs) → wipe σ' vs = wipe σ vs) → Q σ' H
abbrev WGs := List DV → Rho → (Rho → Prop) → Prop
def tDGs (K : PySem.W.Frag) (sl : List Nat) (wg : WGs) : TGs := fun vs σ H Q => ∃ R ρ μ ds P, At K R σ ρ μ H ∧ Iss K (hid R μ H) vs ds ∧ wg ds ρ P ∧
  ∀ ρ' σ', P ρ' → Sl K (hid R μ H) σ' ρ' → (∀ vs, (∀ i ∈ sl, i ∈ vs) → wipe σ' vs = wipe σ vs) → Q σ' H
theorem PG.imp {X : Cx} {e : Expr} {t t' : TG} (h : PG X e t) (i : ∀ v σ H Q, t' v σ H Q → t v σ H Q) : PG X e t' := ⟨fun pins s σ H v u Q I r w => h.run pins s σ H v u Q I r (i _ _ _ _ w)⟩
theorem PGs.imp {X : Cx} {e : List Expr} {t t' : TGs} (h : PGs X e t) (i : ∀ v σ H Q, t' v σ H Q → t v σ H Q) : PGs X e t' := ⟨fun pins s σ H v u Q I r w => h.run pins s σ H v u Q I r (i _ _ _ _ w)⟩
theorem PI.imp {X : Cx} {tg e : Expr} {t t' : TI} (h : PI X tg e t) (i : ∀ σ H Q, t' σ H Q → t σ H Q) : PI X tg e t' := ⟨fun pins s σ H Q I w => h.run pins s σ H Q I (i _ _ _ w)⟩
def wgName (i : Nat) : WG := fun d ρ P => P (ρ.set i (some d))
def wgNil : WGs := fun ds ρ P => ds = [] ∧ P ρ
def wgCons (g : WG) (gs : WGs) : WGs := fun ds ρ P => match ds with | d :: r => g d ρ fun ρ1 => gs r ρ1 P | [] => False
def wgTup (n : Nat) (gs : WGs) : WG := fun d ρ P => match d with | .tup ds => ds.length = n ∧ gs ds ρ P | _ => False
section
variable {X : Cx} {pos : Pos} {e : Expr} {es : List Expr} {g : WG} {gs : WGs} {s1 s2 : List Nat}
theorem dg_name {i : Nat} {x : Str} (hN : X.N.Nodup) (hi : X.N[i]? = some x) (hx : Loc X.env.scope x) (hf : X.fn x = true ∨ X.env.scope.names.lookup x = some .local := by first | exact .inl rfl | exact .inr rfl | assumption) : PG X (.Name x pos) (tDG X.K [i] (wgName i)) :=
  PG.imp (pg_name hN hi hx hf) fun v σ H Q ⟨R, ρ, μ, d, P, a, r, w, k⟩ => k _ _ w (a.sl.set i r) fun vs h => wipe_set (h i List.mem_cons_self)
theorem dgs_nil : PGs X [] (tDGs X.K [] wgNil) := PGs.imp pgs_nil fun v σ H Q ⟨R, ρ, μ, d, P, a, r, w, k⟩ => by
  obtain ⟨rfl, w⟩ := w
  cases r
  exact ⟨rfl, k _ _ w a.sl fun _ _ => rfl⟩
theorem dgs_cons (h1 : PG X e (tDG X.K s1 g)) (h2 : PGs X es (tDGs X.K s2 gs)) (hs : (assignEach (e :: es) X.env).map (·.2) = assign e X.env :: (assignEach es X.env).map (·.2) := by rfl) : PGs X (e :: es) (tDGs X.K (s1 ++ s2) (wgCons g gs)) :=
  PGs.imp (pgs_cons h1 h2 hs) fun v σ H Q ⟨R, ρ, μ, ds, P, a, r, w, k⟩ => by
    cases r with
    | nil => exact (show False from w).elim
    | cons r rr =>
      refine ⟨_, _, rfl, R, ρ, μ, _, _, a, r, w, fun ρ1 σ1 p1 sl1 w1 => ⟨R, ρ1, μ, _, P, ⟨a.ok, sl1⟩, rr, p1, fun ρ2 σ2 p2 sl2 w2 => k ρ2 σ2 p2 sl2 fun vs h => ?_⟩⟩
      rw [w2 vs fun i hi => h i (List.mem_append_right _ hi), w1 vs fun i hi => h i (List.mem_append_left _ hi)]
theorem dg_tup {k n : Nat} (hc : X.calm = true) (h : PGs X es (tDGs X.K s1 gs)) (hn : (assignEach es X.env).length = n := by rfl) (hst : (assignEach es X.env).findIdx? (·.1) = none := by rfl) : PG X (.Tuple es k pos) (tDG X.K s1 (wgTup n gs)) :=
  PG.imp (pg_tup hc h hn hst) fun v σ H Q ⟨R, ρ, μ, d, P, a, r, w, k⟩ => by
    cases r with
    | tup hx rx => exact ⟨_, _, rfl, Same.seqT hid_le hx.t, by rw [rx.length]; exact w.1, R, ρ, μ, _, P, a, rx, w.2, k⟩
    | _ => exact (show False from w).elim
end

/-! ### what is walked -/
structure ItD (K : PySem.W.Frag) (Hm : Hp) (J : It) (xs : List DV) : Prop where
  go : ∀ R μ H i, Ok K R μ H → Same Hm (hid R μ H) → i < xs.length → J.go i H
  yld : ∀ R μ H i x H', Ok K R μ H → Same Hm (hid R μ H) → J.yld i H x H' → i < xs.length → ∃ d, xs[i]? = some d ∧ Ok K R μ H' ∧ Same (hid R μ H) (hid R μ H') ∧ Is K (hid R μ H') x d
  stop : ∀ R μ H i, Ok K R μ H → Same Hm (hid R μ H) → xs.length ≤ i → J.stop i H
theorem ItD.lst {K : PySem.W.Frag} {Hm : Hp} {a : Addr} {vs : List V} {xs : List DV} (h : Hm a = some (.lst vs)) (r : Iss K Hm vs xs) : ItD K Hm (Itl K a) xs where
  go := fun R μ H i o s hi => by
    obtain ⟨v, e, _⟩ := r.get (List.getElem?_eq_getElem hi)
    exact ⟨vs, v, SqL.of (hid_le _ _ (s _ _ h)), e⟩
  yld := fun R μ H i x H' o s y hi => by
    obtain ⟨rfl, y⟩ := y
    have e := y vs (SqL.of (hid_le _ _ (s _ _ h)))
    obtain ⟨d, e2, k⟩ := r.getV e
    exact ⟨d, e2, o, Same.refl _, k.mono s⟩
  stop := fun R μ H i o s hi => ⟨vs, SqL.of (hid_le _ _ (s _ _ h)), by rw [r.length]; exact hi⟩
theorem ItD.tup {K : PySem.W.Frag} {Hm : Hp} {a : Addr} {vs : List V} {xs : List DV} (h : SqT K Hm a vs) (r : Iss K Hm vs xs) : ItD K Hm (Itt K a) xs where
  go := fun R μ H i o s hi => by
    obtain ⟨v, e, _⟩ := r.get (List.getElem?_eq_getElem hi)
    exact ⟨vs, v, Same.seqT (s.trans hid_le) h, e⟩
  yld := fun R μ H i x H' o s y hi => by
    obtain ⟨rfl, y⟩ := y
    have e := y vs (Same.seqT (s.trans hid_le) h)
    obtain ⟨d, e2, k⟩ := r.getV e
    exact ⟨d, e2, o, Same.refl _, k.mono s⟩
  stop := fun R μ H i o s hi => ⟨vs, Same.seqT (s.trans hid_le) h, by rw [r.length]; exact hi⟩
def signs (z : Str) : List DV := z.cps.toList.map fun c => .str ⟨#[c]⟩
theorem ItD.str {K : PySem.W.Frag} {Hm : Hp} {z : Str} : ItD K Hm (Its z) (signs z) where
  go := fun R μ H i o s hi => by
    unfold signs at hi
    rw [List.length_map, Array.length_toList] at hi
    exact hi
  yld := fun R μ H i x H' o s y hi => by
    obtain ⟨rfl, c, e, rfl⟩ := y
    refine ⟨.str ⟨#[c]⟩, ?_, o, Same.refl _, .str _⟩
    unfold signs
    rw [List.getElem?_map, Array.getElem?_toList, e]
    rfl
  stop := fun R μ H i o s hi => by
    unfold signs at hi
    rw [List.length_map, Array.length_toList] at hi
    exact hi
def rngD (lo : Int) (n : Nat) : List DV := (List.range n).map fun i : Nat => .int (lo + (i : Int))
theorem ItD.rng {K : PySem.W.Frag} {Hm : Hp} {lo : Int} {n : Nat} : ItD K Hm (Itr lo n) (rngD lo n) where
  go := fun R μ H i o s hi => by
    unfold rngD at hi
    rw [List.length_map, List.length_range] at hi
    exact hi
  yld := fun R μ H i x H' o s y hi => by
    obtain ⟨rfl, rfl⟩ := y
    unfold rngD at hi ⊢
    rw [List.length_map, List.length_range] at hi
    refine ⟨.int (lo + (i : Int)), ?_, o, Same.refl _, .int _⟩
    rw [List.getElem?_map, List.getElem?_range hi]
    rfl
  stop := fun R μ H i o s hi => by
    unfold rngD at hi
    rw [List.length_map, List.length_range] at hi
    exact hi
abbrev WI := Rho → Mh → (List DV → Mh → Prop) → Prop
def tDI (K : PySem.W.Frag) (ws : WI) : TI := fun σ H RR => ∃ R ρ μ P, At K R σ ρ μ H ∧ ws ρ μ P ∧ ∀ xs μ' H' J, P xs μ' → Ok K R μ' H' → Same (hid R μ H) (hid R μ' H') → ItD K (hid R μ' H') J xs → RR J H'
def sLst (w : WE) : WI := fun ρ μ P => w ρ μ fun d μ1 => match d with | .lst xs => P xs μ1 | _ => False
def sTup (w : WE) : WI := fun ρ μ P => w ρ μ fun d μ1 => match d with | .tup xs => P xs μ1 | _ => False
def sStr (w : WE) : WI := fun ρ μ P => w ρ μ fun d μ1 => match d with | .str z => P (signs z) μ1 | _ => False
def sRng1 (w : WE) : WI := fun ρ μ P => w ρ μ fun d μ1 => match d with | .int j => j < 2 ^ 62 ∧ -(2 ^ 62) ≤ j ∧ P (rngD 0 j.toNat) μ1 | _ => False
def sRng2 (wa wb : WE) : WI := fun ρ μ P => wa ρ μ fun c μ1 => wb ρ μ1 fun d μ2 => match c, d with | .int i, .int j => (-(2 ^ 62) ≤ i ∧ i < 2 ^ 62 ∧ -(2 ^ 62) ≤ j ∧ j < 2 ^ 62) ∧ P (rngD i (j - i).toNat) μ2 | _, _ => False
section
variable {X : Cx} {tg e a b : Expr} {w wa wb : WE} {p pos : Pos}
theorem di_list (h : PE X e (tD X.K w)) : PI X tg e (tDI X.K (sLst w)) := PI.imp (pi_list h) fun σ H RR ⟨R, ρ, μ, P, a, w, k⟩ => ⟨R, ρ, μ, _, a, w, fun d μ1 v H1 p1 o1 s1 i1 => by
  cases i1 with
  | lst hx rx => exact ⟨_, rfl, ⟨_, SqL.of (hid_le _ _ hx)⟩, k _ μ1 H1 _ p1 o1 s1 (.lst hx rx)⟩
  | _ => exact (show False from p1).elim⟩
theorem di_tup (h : PE X e (tD X.K w)) : PI X tg e (tDI X.K (sTup w)) := PI.imp (pi_tup h) fun σ H RR ⟨R, ρ, μ, P, a, w, k⟩ => ⟨R, ρ, μ, _, a, w, fun d μ1 v H1 p1 o1 s1 i1 => by
  cases i1 with
  | tup hx rx => exact ⟨_, rfl, ⟨_, Same.seqT hid_le hx.t⟩, k _ μ1 H1 _ p1 o1 s1 (.tup hx.t rx)⟩
  | _ => exact (show False from p1).elim⟩
theorem di_str (h : PE X e (tD X.K w)) : PI X tg e (tDI X.K (sStr w)) := PI.imp (pi_str h) fun σ H RR ⟨R, ρ, μ, P, a, w, k⟩ => ⟨R, ρ, μ, _, a, w, fun d μ1 v H1 p1 o1 s1 i1 => by
  cases i1 with
  | str z => exact ⟨_, rfl, k _ μ1 H1 _ p1 o1 s1 .str⟩
  | _ => exact (show False from p1).elim⟩
theorem di_range1 (hg : Gl X "range") (hm : X.mg "range" = none) (h : PE X a (tD X.K w)) (hs : starEach [a] X.env = [(false, eval a X.env)] := by rfl) : PI X tg (.Call (.Name "range" p) [a] [] pos) (tDI X.K (sRng1 w)) :=
  PI.imp (pi_range1 hg hm (pa_cons h pa_nil hs) hs) fun σ H RR ⟨R, ρ, μ, P, a, w, k⟩ => ⟨R, ρ, μ, _, a, w, fun d μ1 v H1 p1 o1 s1 i1 => by
    cases i1 with
    | int j => exact ⟨j, rfl, p1.2.1, p1.1, k _ μ1 H1 _ p1.2.2 o1 s1 .rng⟩
    | _ => exact (show False from p1).elim⟩
theorem di_range2 (hg : Gl X "range") (hm : X.mg "range" = none) (ha : PE X a (tD X.K wa)) (hb : PE X b (tD X.K wb)) (hs : starEach [a, b] X.env = [(false, eval a X.env), (false, eval b X.env)] := by rfl) (hs2 : starEach [b] X.env = [(false, eval b X.env)] := by rfl) :
    PI X tg (.Call (.Name "range" p) [a, b] [] pos) (tDI X.K (sRng2 wa wb)) :=
  PI.imp (pi_range2 hg hm (pa_cons ha (pa_cons hb pa_nil hs2) (by rw [hs, hs2])) hs hs2) fun σ H RR ⟨R, ρ, μ, P, a, w, k⟩ => ⟨R, ρ, μ, _, a, w, fun c μ1 u H1 p1 o1 s1 i1 => ⟨R, ρ, μ1, _, a.step o1 s1, p1, fun d μ2 v H2 p2 o2 s2 i2 => by
    cases i1 with
    | int i =>
      cases i2 with
      | int j => exact ⟨i, j, rfl, p2.1, k _ μ2 H2 _ p2.2 o2 (s1.trans s2) .rng⟩
      | _ => exact (show False from p2).elim
    | _ => exact (show False from p2).elim⟩⟩
end

/-! ### statements -/
def wSeq (t u : WS) : WS := fun E ρ μ => t { E with nx := u E } ρ μ
def wNext : WS := fun E ρ μ => E.nx ρ μ
def wBrk : WS := fun E ρ μ => E.bk ρ μ
def wCnt : WS := fun E ρ μ => E.ct ρ μ
def wAsg (w : WE) (g : WG) : WS := fun E ρ μ => w ρ μ fun d μ1 => g d ρ fun ρ1 => E.nx ρ1 μ1
def wDrop (w : WE) : WS := fun E ρ μ => w ρ μ fun _ μ1 => E.nx ρ μ1
def wRet (w : WE) : WS := fun E ρ μ => w ρ μ fun d μ1 => E.rt d μ1
def wRetN : WS := fun E _ μ => E.rt .none μ
def wIfS (c : WT) (t u : WS) : WS := fun E ρ μ => c ρ μ fun b μ1 => match b with | true => t E ρ μ1 | false => u E ρ μ1
def wPar (i j : Nat) (wa : WA) : WS := fun E ρ μ => wa ρ μ fun ds μ1 => match ds with | [x, y] => E.nx ((ρ.set i (some x)).set j (some y)) μ1 | _ => False
section
variable {X : Cx} {st : Stmt} {rest sa sb : List Stmt} {t u : WS} {e tg : Expr} {w : WE} {g : WG} {sl : List Nat} {pos : Pos}
theorem dss_nil : PSs X [] (tDS X.K wNext) := PSs.imp pss_nil fun D σ H ⟨R, ρ, μ, E, a, w, k⟩ => k.nx ρ μ σ H w a (Same.refl _)
theorem dss_cons (h1 : PS X st (tDS X.K t)) (h2 : PSs X rest (tDS X.K u)) : PSs X (st :: rest) (tDS X.K (wSeq t u)) := PSs.imp (pss_cons h1 h2) fun D σ H ⟨R, ρ, μ, E, a, w, k⟩ =>
  ⟨R, ρ, μ, _, a, w, ⟨fun ρ1 μ1 σ1 H1 p1 a1 s1 => ⟨R, ρ1, μ1, E, a1, p1, k.step s1⟩, k.rt, k.bk, k.ct⟩⟩
theorem dss_one (h : PS X st (tDS X.K t)) : PSs X [st] (tDS X.K t) := pss_one h
theorem ds_pass : PS X (.Pass pos) (tDS X.K wNext) := PS.imp ps_pass fun D σ H ⟨R, ρ, μ, E, a, w, k⟩ => k.nx ρ μ σ H w a (Same.refl _)
theorem ds_break : PS X (.Break pos) (tDS X.K wBrk) := PS.imp ps_break fun D σ H ⟨R, ρ, μ, E, a, w, k⟩ => k.bk ρ μ σ H w a (Same.refl _)
theorem ds_continue : PS X (.Continue pos) (tDS X.K wCnt) := PS.imp ps_continue fun D σ H ⟨R, ρ, μ, E, a, w, k⟩ => k.ct ρ μ σ H w a (Same.refl _)
theorem asg_imp {K : PySem.W.Frag} : ∀ D σ H, tDS K (wAsg w g) D σ H → tAsg (tD K w) (tDG K sl g) D σ H := fun D σ H ⟨R, ρ, μ, E, a, w, k⟩ =>
  ⟨R, ρ, μ, _, a, w, fun d μ1 v H1 p1 o1 s1 i1 => ⟨R, ρ, μ1, d, _, a.step o1 s1, i1, p1, fun ρ' σ' p2 sl2 _ => k.nx ρ' μ1 σ' H1 p2 ⟨o1, sl2⟩ s1⟩⟩
theorem ds_asg (he : PE X e (tD X.K w)) (hg : PG X tg (tDG X.K sl g)) (hs : swapsWithSole [tg] e pos.line X.env = pure false := by rfl) (hw : swappedStores [tg] e X.env = pure none := by rfl) (h1 : (assignEach [tg] X.env).map (·.2) = [assign tg X.env] := by rfl) : PS X (.Assign [tg] e pos) (tDS X.K (wAsg w g)) :=
  PS.imp (ps_asg he hg hs hw h1) asg_imp
theorem ds_set {i : Nat} {x : Str} {pos' : Pos} (hN : X.N.Nodup) (hi : X.N[i]? = some x) (hx : Loc X.env.scope x) (he : PE X e (tD X.K w)) (hs : swapsWith e (some (.Name x pos')) pos.line X.env = pure false := by rfl)
    (hf : X.fn x = true ∨ X.env.scope.names.lookup x = some .local := by first | exact .inl rfl | exact .inr rfl | assumption) : PS X (.Assign [.Name x pos'] e pos) (tDS X.K (wAsg w (wgName i))) :=
  PS.imp (ps_set hN hi hx he hs hf) fun D σ H ⟨R, ρ, μ, E, a, w, k⟩ => ⟨R, ρ, μ, _, a, w, fun d μ1 v H1 p1 o1 s1 i1 => k.nx _ μ1 _ H1 p1 ⟨o1, (a.sl.mono s1).set i i1⟩ s1⟩
theorem ds_par {i j : Nat} {x y : Str} {a b : Expr} {wa : WA} {px py pt : Pos} {kt k2 pt2} (hN : X.N.Nodup) (hi : X.N[i]? = some x) (hj : X.N[j]? = some y) (hij : i ≠ j) (hx : X.env.scope.names.lookup x = some .local) (hy : X.env.scope.names.lookup y = some .local) (ha : PA X [a, b] (tDA X.K wa))
    (hw : swappedStores [.Tuple [.Name x px, .Name y py] kt pt] (.Tuple [a, b] k2 pt2) X.env = pure (some [x, y])) (hc : X.calm = true := by rfl) (hs : swapsWithSole [.Tuple [.Name x px, .Name y py] kt pt] (.Tuple [a, b] k2 pt2) pos.line X.env = pure false := by rfl) :
    PS X (.Assign [.Tuple [.Name x px, .Name y py] kt pt] (.Tuple [a, b] k2 pt2) pos) (tDS X.K (wPar i j wa)) :=
  PS.imp (ps_par hc hN hi hj hij hx hy ha hw hs) fun D σ H ⟨R, ρ, μ, E, a, w, k⟩ => ⟨R, ρ, μ, _, a, w, fun ds μ1 vs H1 p1 o1 s1 i1 => by
    cases i1 with
    | nil => exact (show False from p1).elim
    | cons i1 r => cases r with
      | nil => exact (show False from p1).elim
      | cons i2 r => cases r with
        | nil => exact ⟨_, _, rfl, k.nx _ μ1 _ H1 p1 ⟨o1, ((a.sl.mono s1).set i i1).set j i2⟩ s1⟩
        | cons _ _ => exact (show False from p1).elim⟩
theorem ds_expr (he : PE X e (tD X.K w)) (hs : swapsWith e none pos.line X.env = pure false := by rfl) : PS X (.Expr e pos) (tDS X.K (wDrop w)) :=
  PS.imp (ps_expr he hs) fun D σ H ⟨R, ρ, μ, E, a, w, k⟩ => ⟨R, ρ, μ, _, a, w, fun d μ1 v H1 p1 o1 s1 i1 => k.nx ρ μ1 σ H1 p1 (a.step o1 s1) s1⟩
theorem ds_ret (he : PE X e (tD X.K w)) : PS X (.Return (some e) pos) (tDS X.K (wRet w)) :=
  PS.imp (ps_ret he) fun D σ H ⟨R, ρ, μ, E, a, w, k⟩ => ⟨R, ρ, μ, _, a, w, k.rt⟩
theorem ds_retN : PS X (.Return none pos) (tDS X.K wRetN) := PS.imp ps_retN fun D σ H ⟨R, ρ, μ, E, a, w, k⟩ => k.rt _ μ _ H w a.ok (Same.refl _) .none
theorem ds_if {c : Expr} {tc : WT} (hc : PT X c (tDT X.K tc)) (ha : PSs X sa (tDS X.K t)) (hb : PSs X sb (tDS X.K u)) : PS X (.If c sa sb pos) (tDS X.K (wIfS tc t u)) :=
  PS.imp (ps_if hc ha hb) fun D σ H ⟨R, ρ, μ, E, a, w, k⟩ => ⟨R, ρ, μ, _, a, w, fun b μ1 H1 p1 o1 s1 => by
    cases b with
    | true => exact iteT ⟨R, ρ, μ1, E, a.step o1 s1, p1, k.step s1⟩
    | false => exact iteF ⟨R, ρ, μ1, E, a.step o1 s1, p1, k.step s1⟩⟩

/-! ### loops -/
def forW (g : WG) (b : WS) (E : DEnds) : List DV → Rho → Mh → Prop
  | [], ρ, μ => E.nx ρ μ
  | x :: xs, ρ, μ => g x ρ fun ρ1 => b { nx := forW g b E xs, rt := E.rt, bk := E.nx, ct := forW g b E xs } ρ1 μ
def wFor (ws : WI) (g : WG) (b : WS) : WS := fun E ρ μ => ws ρ μ fun xs μ1 => forW g b E xs ρ μ1
theorem drop_at {α : Type} {xs : List α} {i : Nat} {d : α} (h : xs[i]? = some d) : xs.drop i = d :: xs.drop (i + 1) := by
  obtain ⟨hi, e⟩ := List.getElem?_eq_some_iff.mp h
  rw [List.drop_eq_getElem_cons hi, e]
theorem ds_for {iter : Expr} {body : List Stmt} {ws : WI} {b : WS} (hi : PI X tg iter (tDI X.K ws)) (hg : PG X tg (tDG X.K sl g)) (hb : PSs X body (tDS X.K b)) (hp : PassesOwn (model X.prog X.w) X.A X.env X.xe := by exact PassesOwn.never) (hc : X.calm = true := by rfl)
    (hs : ∀ x, foldedSetIterable iter X.env x = pure x := by intro _; rfl) : PS X (.For tg iter body [] pos) (tDS X.K (wFor ws g b)) :=
  PS.imp (ps_for hp hc hi hg hb hs) fun D σ H ⟨R, ρ, μ, E, a, w, k⟩ => ⟨R, ρ, μ, _, a, w, fun xs μ1 H1 J p1 o1 s1 it => by
    refine ⟨fun i m σ' H' => m = xs.length - i ∧ i ≤ xs.length ∧ ∃ ρ' μ', At X.K R σ' ρ' μ' H' ∧ Same (hid R μ1 H1) (hid R μ' H') ∧ forW g b E (xs.drop i) ρ' μ', ⟨_, rfl, Nat.zero_le _, ρ, μ1, a.step o1 s1, Same.refl _, p1⟩, ?_⟩
    rintro i m σ2 H2 ⟨rfl, hi, ρ2, μ2, a2, s2, w2⟩
    by_cases hlt : i < xs.length
    · refine .inr ⟨it.go R μ2 H2 i a2.ok s2 hlt, fun σ' H' => ∃ ρ' μ', At X.K R σ' ρ' μ' H' ∧ Same (hid R μ1 H1) (hid R μ' H') ∧ forW g b E (xs.drop (i + 1)) ρ' μ', fun σ' H' ⟨ρ', μ', a', s', w'⟩ => ⟨_, ?_, rfl, hlt, ρ', μ', a', s', w'⟩, fun x H3 y => ?_⟩
      · omega
      · obtain ⟨d, hd, o3, s3, r3⟩ := it.yld R μ2 H2 i x H3 a2.ok s2 y hlt
        rw [drop_at hd] at w2
        refine ⟨R, ρ2, μ2, d, _, a2.step o3 s3, r3, w2, fun ρ4 σ4 w4 sl4 _ => ⟨R, ρ4, μ2, _, ⟨o3, sl4⟩, w4, ⟨fun ρ5 μ5 σ5 H5 p5 a5 s5 => ⟨ρ5, μ5, a5, (s2.trans s3).trans s5, p5⟩, ?_, ?_, fun ρ5 μ5 σ5 H5 p5 a5 s5 => ⟨ρ5, μ5, a5, (s2.trans s3).trans s5, p5⟩⟩⟩⟩
        · exact k.rt.step ((s1.trans s2).trans s3)
        · exact k.nx.step ((s1.trans s2).trans s3)
    · have e : i = xs.length := by omega
      subst e
      rw [List.drop_length] at w2
      exact .inl ⟨it.stop R μ2 H2 _ a2.ok s2 (Nat.le_refl _), k.nx ρ2 μ2 σ2 H2 w2 a2 (s1.trans s2)⟩⟩
def wWhile (c : WT) (b : WS) : WS := fun E ρ μ => ∃ W : Nat → Rho → Mh → Prop, (∃ m, W m ρ μ) ∧ ∀ m ρ μ, W m ρ μ → c ρ μ fun z μ1 => match z with
  | true => b { nx := fun ρ' μ' => ∃ m', m' < m ∧ W m' ρ' μ', rt := E.rt, bk := E.nx, ct := fun ρ' μ' => ∃ m', m' < m ∧ W m' ρ' μ' } ρ μ1
  | false => E.nx ρ μ1
theorem ds_while {c : Expr} {body : List Stmt} {tc : WT} {b : WS} (hc : PT X c (tDT X.K tc)) (hb : PSs X body (tDS X.K b)) (hp : PassesOwn (model X.prog X.w) X.A X.env X.xe := by exact PassesOwn.never) : PS X (.While c body [] pos) (tDS X.K (wWhile tc b)) :=
  PS.imp (ps_while hp hc hb) fun D σ H ⟨R, ρ, μ, E, a, ⟨W, ⟨m0, w0⟩, w⟩, k⟩ => by
    refine ⟨fun m σ' H' => ∃ ρ' μ', At X.K R σ' ρ' μ' H' ∧ Same (hid R μ H) (hid R μ' H') ∧ W m ρ' μ', ⟨m0, ρ, μ, a, Same.refl _, w0⟩, ?_⟩
    rintro m σ1 H1 ⟨ρ1, μ1, a1, s1, w1⟩
    refine ⟨R, ρ1, μ1, _, a1, w m ρ1 μ1 w1, fun z μ2 H2 p2 o2 s2 => ?_⟩
    cases z with
    | true =>
      refine ⟨fun σ' H' => ∃ m', m' < m ∧ ∃ ρ' μ', At X.K R σ' ρ' μ' H' ∧ Same (hid R μ H) (hid R μ' H') ∧ W m' ρ' μ', fun σ' H' h => h, R, ρ1, μ2, _, a1.step o2 s2, p2, ⟨?_, k.rt.step (s1.trans s2), k.nx.step (s1.trans s2), ?_⟩⟩
      · rintro ρ3 μ3 σ3 H3 ⟨m', hm, w3⟩ a3 s3
        exact ⟨m', hm, ρ3, μ3, a3, (s1.trans s2).trans s3, w3⟩
      · rintro ρ3 μ3 σ3 H3 ⟨m', hm, w3⟩ a3 s3
        exact ⟨m', hm, ρ3, μ3, a3, (s1.trans s2).trans s3, w3⟩
    | false => exact k.nx ρ1 μ2 σ1 H2 p2 (a1.step o2 s2) (s1.trans s2)
end

/-! ### comprehensions -/
def compW (g : WG) (t : WT) (e : WE) (ρ : Rho) : List DV → List DV → Mh → (List DV → Mh → Prop) → Prop
  | [], acc, μ, P => P acc μ
  | x :: xs, acc, μ, P => g x ρ fun ρ1 => t ρ1 μ fun b μ1 => match b with
    | true => e ρ1 μ1 fun y μ2 => acc.length < sizeLine ∧ compW g t e ρ xs (acc ++ [y]) μ2 P
    | false => compW g t e ρ xs acc μ1 P
def wLc (ws : WI) (g : WG) (t : WT) (e : WE) (vs : List Nat) : WE := fun ρ μ P => ws ρ μ fun xs μ1 => compW g t e (wipeD ρ vs) xs [] μ1 fun acc μ2 => P (.lst acc) μ2
section
variable {K : PySem.W.Frag} {R : Hp} {μ μ' : Mh} {H H' : Hp} {D : Addr} {o o' : HO}
/-- a thing set aside -/
theorem Ok.frame (k : Ok K R μ H) (n : H D = none) : Ok K (upd R D o) μ (upd H D o) ∧ hid (upd R D o) μ (upd H D o) = hid R μ H := by
  have k2 := k.new (o := o) n
  have e : hid (upd R D o) μ (upd H D o) = hid R μ H := by
    funext b
    by_cases z : b = D
    · subst z
      have h1 : hid (upd R b o) μ (upd H b o) b = none := by
        unfold hid
        rw [if_neg fun q => by rw [upd_same] at q; exact Bool.false_ne_true q.1]
      have h2 : hid R μ H b = none := by
        unfold hid
        rw [n]
        split <;> rfl
      rw [h1, h2]
    · unfold hid
      rw [upd_ne z, upd_ne z]
  refine ⟨⟨fun a u h => ?_, fun a u h => ?_, fun a u h => ?_⟩, e⟩
  · by_cases z : a = D
    · subst z
      rw [upd_same] at h ⊢
      exact h
    · rw [upd_ne z] at h ⊢
      exact k.fr a u h
  · by_cases z : a = D
    · subst z
      exact k.freeM n
    · rw [upd_ne z] at h
      exact k.dj a u h
  · have := k2.ob a u h
    rw [e]
    refine MOk.mono ?_ rfl (fun _ _ => rfl) h (fun _ q => q) ?_ (Hm := hid R μ H) (μ := μ) (H := upd H D o)
    · exact Same.refl _
    · have ne : ∀ {b u}, H b = some u → b ≠ D := fun q z => by subst z; rw [n] at q; cases q
      obtain ⟨w, hw⟩ := (k.ob a u h).here
      refine (k.ob a u h).mono (Same.refl _) (upd_ne (ne hw)) (fun b hb => ?_) h (fun _ z => z)
      rw [h] at hb
      cases u with
      | ext near φ =>
        obtain ⟨_, _, hn, _⟩ := k.ob a _ h
        obtain ⟨v, hv⟩ := (k.ob b _ (hn b hb)).here
        exact upd_ne (ne hv)
      | _ => cases hb
/-- what was set aside changes -/
theorem Ok.reframe (k : Ok K (upd R D o) μ H) : Ok K (upd R D o') μ (upd H D o') ∧ hid (upd R D o') μ (upd H D o') = hid (upd R D o) μ H := by
  have hm : μ D = none := k.dj D o upd_same
  have hH : H D = some o := k.fr D o upd_same
  have e : hid (upd R D o') μ (upd H D o') = hid (upd R D o) μ H := by
    funext b
    by_cases z : b = D
    · subst z
      have h1 : ∀ (u : HO) (G : Hp), hid (upd R b u) μ G b = none := fun u G => by
        unfold hid
        rw [if_neg fun q => by rw [upd_same] at q; exact Bool.false_ne_true q.1]
      rw [h1, h1]
    · unfold hid
      rw [upd_ne z, upd_ne z, upd_ne z]
  refine ⟨⟨fun a u h => ?_, fun a u h => ?_, fun a u h => ?_⟩, e⟩
  · by_cases z : a = D
    · subst z
      rw [upd_same] at h ⊢
      exact h
    · rw [upd_ne z] at h ⊢
      exact k.fr a u (by rw [upd_ne z]; exact h)
  · by_cases z : a = D
    · subst z
      exact hm
    · rw [upd_ne z] at h
      exact k.dj a u (by rw [upd_ne z]; exact h)
  · rw [e]
    have ne : ∀ {b m}, μ b = some m → b ≠ D := fun q z => by subst z; rw [hm] at q; cases q
    refine (k.ob a u h).mono (Same.refl _) (upd_ne (ne h)) (fun b hb => ?_) h (fun _ z => z)
    rw [h] at hb
    cases u with
    | ext near φ =>
      obtain ⟨_, _, hn, _⟩ := k.ob a _ h
      exact upd_ne (ne (hn b hb))
    | _ => cases hb
/-- what was set aside is let go -/
theorem Ok.unframe (k : Ok K (upd R D o) μ H) (n : R D = none) : Ok K R μ H ∧ Same (hid (upd R D o) μ H) (hid R μ H) ∧ hid R μ H D = some o := by
  have hm : μ D = none := k.dj D o upd_same
  have hH : H D = some o := k.fr D o upd_same
  have s : Same (hid (upd R D o) μ H) (hid R μ H) := fun b u h => by
    obtain ⟨e1, e2, e3⟩ := hid_some h
    by_cases z : b = D
    · subst z
      rw [upd_same] at e1
      cases e1
    · rw [upd_ne z] at e1
      rw [hid_at e1 e2]
      exact e3
  refine ⟨⟨fun a u h => ?_, fun a u h => ?_, fun a u h => (k.ob a u h).mono s rfl (fun _ _ => rfl) h (fun _ z => z)⟩, s, by rw [hid_at n hm]; exact hH⟩
  · refine k.fr a u ?_
    rw [upd_ne (fun z => by subst z; rw [n] at h; cases h)]
    exact h
  · refine k.dj a u ?_
    rw [upd_ne (fun z => by subst z; rw [n] at h; cases h)]
    exact h
end
section
variable {X : Cx} {elt tg iter : Expr} {ifs : List Expr} {scope : Scope} {own : List (Str × Nat)} {pos : Pos} {ws : WI} {g : WG} {t : WT} {e : WE} {sl : List Nat}
theorem lc_imp {K : PySem.W.Frag} {vs : List Nat} (hv : ∀ i ∈ sl, i ∈ vs) : ∀ σ H Q, tD K (wLc ws g t e vs) σ H Q → tLc (tDI K ws) (tDG K sl g) (tDT K t) (tD K e) vs σ H Q := fun σ H Q ⟨R, ρ, μ, P, a, w, k⟩ =>
  ⟨R, ρ, μ, _, a, w, fun xs μ1 H1 J p1 o1 s1 it => fun D n => by
    have rn := o1.freeR n
    refine ⟨fun i m H' => m = xs.length - i ∧ i ≤ xs.length ∧ ∃ μ' acc accV, Ok K (upd R D (.lst accV)) μ' H' ∧ Same (hid R μ1 H1) (hid (upd R D (.lst accV)) μ' H') ∧ Iss K (hid (upd R D (.lst accV)) μ' H') accV acc ∧
      compW g t e (wipeD ρ vs) (xs.drop i) acc μ' fun acc μ2 => P (.lst acc) μ2, ?_, ?_⟩
    · obtain ⟨o2, e2⟩ := o1.frame (o := .lst []) n
      exact ⟨_, rfl, Nat.zero_le _, μ1, [], [], o2, by rw [e2]; exact Same.refl _, .nil, p1⟩
    rintro i m H2 ⟨rfl, hi, μ2, acc, accV, o2, s2, r2, w2⟩
    by_cases hlt : i < xs.length
    · refine .inr ⟨it.go _ μ2 H2 i o2 s2 hlt, fun H' => ∃ μ' acc accV, Ok K (upd R D (.lst accV)) μ' H' ∧ Same (hid R μ1 H1) (hid (upd R D (.lst accV)) μ' H') ∧ Iss K (hid (upd R D (.lst accV)) μ' H') accV acc ∧
        compW g t e (wipeD ρ vs) (xs.drop (i + 1)) acc μ' fun acc μ2 => P (.lst acc) μ2, fun H' ⟨μ', acc', accV', o', s', r', w'⟩ => ⟨_, ?_, rfl, hlt, μ', acc', accV', o', s', r', w'⟩, fun x H3 y => ?_⟩
      · omega
      · obtain ⟨d, hd, o3, s3, r3⟩ := it.yld _ μ2 H2 i x H3 o2 s2 y hlt
        rw [drop_at hd] at w2
        have sl3 : Sl K (hid (upd R D (.lst accV)) μ2 H3) (wipe σ vs) (wipeD ρ vs) := (a.sl.mono ((s1.trans s2).trans s3)).wipe vs
        refine ⟨_, wipeD ρ vs, μ2, d, _, ⟨o3, sl3⟩, r3, w2, fun ρ4 σ4 w4 sl4 ww => ⟨by rw [ww vs hv, wipe_wipe], _, ρ4, μ2, _, ⟨o3, sl4⟩, w4, fun b μ5 H5 p5 o5 s5 => ?_⟩⟩
        cases b with
        | false => exact iteF ⟨μ5, acc, accV, o5, (s2.trans s3).trans s5, r2.mono (s3.trans s5), p5⟩
        | true =>
          refine iteT ⟨_, ρ4, μ5, _, ⟨o5, sl4.mono s5⟩, p5, fun y μ6 v H6 p6 o6 s6 r6 => ⟨accV, o6.fr D _ upd_same, ?_, ?_⟩⟩
          · rw [r2.length]
            exact p6.1
          · obtain ⟨o7, e7⟩ := o6.reframe (o' := .lst (accV ++ [v]))
            refine ⟨μ6, acc ++ [y], accV ++ [v], o7, ?_, ?_, p6.2⟩
            · rw [e7]
              exact ((s2.trans s3).trans s5).trans s6
            · rw [e7]
              exact (r2.mono ((s3.trans s5).trans s6)).append (.cons r6 .nil)
    · have e' : i = xs.length := by omega
      subst e'
      rw [List.drop_length] at w2
      obtain ⟨o4, s4, h4⟩ := o2.unframe rn
      exact .inl ⟨it.stop _ μ2 H2 _ o2 s2 (Nat.le_refl _), k _ μ2 _ H2 w2 o4 (s1.trans (s2.trans s4)) (.lst h4 (r2.mono s4))⟩⟩
def wYes : WT := fun _ μ P => P true μ
theorem PTs.imp {X : Cx} {es : List Expr} {t t' : TT} (h : PTs X es t) (i : ∀ σ H Q, t' σ H Q → t σ H Q) : PTs X es t' := ⟨fun pins s σ H Q I w => h.run pins s σ H Q I (i _ _ _ w)⟩
theorem dts_nil : PTs X [] (tDT X.K wYes) := PTs.imp pts_nil fun σ H Q ⟨R, ρ, μ, P, a, w, k⟩ => k true μ H w a.ok (Same.refl _)
theorem dts_one {c : Expr} {t : WT} (h : PT X c (tDT X.K t)) : PTs X [c] (tDT X.K t) := pts_one h
theorem d_lc (hi : PI X tg iter (tDI X.K ws)) (ok : BlkOk X.N X.env.scope scope own)
    (hg : ∀ (s : Shared) (H : Hp) (C : Addr) (cl : List (Str × Addr)) (fp : List Addr), PG (X.blk s H scope (compEnvC scope cl C X.env) fp) tg (tDG X.K sl g)) (ht : ∀ (s : Shared) (H : Hp) (C : Addr) (cl : List (Str × Addr)) (fp : List Addr), PTs (X.blk s H scope (compEnvC scope cl C X.env) fp) ifs (tDT X.K t))
    (he : ∀ (s : Shared) (H : Hp) (C : Addr) (cl : List (Str × Addr)) (fp : List Addr), PE (X.blk s H scope (compEnvC scope cl C X.env) fp) elt (tD X.K e)) (hN : X.N.Nodup) (hv : ∀ i ∈ sl, i ∈ own.map (·.2) := by decide) (hc : X.calm = true := by rfl) (hs : ∀ x, foldedSetIterable iter X.env x = pure x := by intro _; rfl) :
    PE X (.ListComp elt [⟨tg, iter, ifs, 0⟩] scope pos) (tD X.K (wLc ws g t e (own.map (·.2)))) := PE.imp (pe_lc hc hN hi ok hg ht he hs) (lc_imp hv)
theorem ds_setLc {i : Nat} {y : Str} {py spos : Pos} (hy : X.N[i]? = some y) (hyl : X.env.scope.names.lookup y = some .local) (hsw : swapsWith (.ListComp elt [⟨tg, iter, ifs, 0⟩] scope pos) (some (.Name y py)) spos.line X.env = pure true) (hi : PI X tg iter (tDI X.K ws)) (ok : BlkOk X.N X.env.scope scope own)
    (hg : ∀ (s : Shared) (H : Hp) (C : Addr) (cl : List (Str × Addr)) (fp : List Addr), PG (X.blk s H scope (compEnvC scope cl C X.env) fp) tg (tDG X.K sl g)) (ht : ∀ (s : Shared) (H : Hp) (C : Addr) (cl : List (Str × Addr)) (fp : List Addr), PTs (X.blk s H scope (compEnvC scope cl C X.env) fp) ifs (tDT X.K t))
    (he : ∀ (s : Shared) (H : Hp) (C : Addr) (cl : List (Str × Addr)) (fp : List Addr), PE (X.blk s H scope (compEnvC scope cl C X.env) fp) elt (tD X.K e)) (hN : X.N.Nodup) (hv : ∀ i ∈ sl, i ∈ own.map (·.2) := by decide) (hc : X.calm = true := by rfl) (hs : ∀ x, foldedSetIterable iter X.env x = pure x := by intro _; rfl) :
    PS X (.Assign [.Name y py] (.ListComp elt [⟨tg, iter, ifs, 0⟩] scope pos) spos) (tDS X.K (wAsg (wLc ws g t e (own.map (·.2))) (wgName i))) :=
  PS.imp (ps_setLc hc hN hy hyl hsw hi ok hg ht he hs) fun D σ H ⟨R, ρ, μ, E, a, w, k⟩ => lc_imp hv σ H _ ⟨R, ρ, μ, _, a, w, fun d μ1 v H1 p1 o1 s1 i1 => k.nx _ μ1 _ H1 p1 ⟨o1, (a.sl.mono s1).set i i1⟩ s1⟩
end

/-! ### defs and their calls -/
section
variable {P : Program} {w0 : World} {K : PySem.W.Frag} {mg : Str → Option Value} {base : Heap}
theorem fn_dat {x qual : Str} {st : Stmt} {f : Addr} {fd : FuncData} {N ps : List Str} {k n : Nat} {w : WS} {wf : WF} (F : Fun K x qual st f fd) (S : FnScope N ps (defScope st)) (hn : ps.length = n)
    (hb : ∀ (cdv : Value) (A : Around) (outer : List Env) (s : Shared) (H : Hp) (E : XK), A.guards = some [] → Room k (A.deeper (envOfC qual (defScope st) s.heap.objs.size f cdv)) →
      PSs (cxOf CX0 P w0 K mg base N qual (defScope st) f cdv A outer s H E).nox (defBody st) (tDS K w))
    (hw : ∀ ds μ Q, ds.length = n → wf ds μ Q → w { nx := fun _ μ' => Q .none μ', rt := Q } (ds.map some ++ List.replicate (N.length - n) none) μ) : FnG P w0 K mg base (k + 1) f fd ps (spD K n wf) := by
  refine fng_of F S (fun vs H Q E h => ?_) (fun cdv A outer s H vs Q E hgd hr h => ?_)
  · obtain ⟨R, ds, μ, P', o, r, l, _⟩ := h
    rw [r.length, l, hn]
  · obtain ⟨R, ds, μ, P', o, r, l, w1, k1⟩ := h
    refine ⟨_, hb cdv A outer s H E hgd hr, R, _, μ, _, ⟨o, ?_⟩, hw ds μ P' l w1, ⟨fun ρ' μ' σ' H' p a' s' => ?_, k1, fun _ _ _ _ p => p.elim, fun _ _ _ _ p => p.elim⟩⟩
    · rw [← l]
      exact Sl.start r
    · exact k1 .none μ' .non H' p a'.ok s' .none
end
section
variable {X : Cx} {k n : Nat} {f : Addr} {fd : FuncData} {ps : List Str} {wf : WF} {x : Str} {p pos : Pos} {e : Expr} {es : List Expr} {wa wk : WA}
def wCall (n : Nat) (wf : WF) (wa : WA) : WE := fun ρ μ P => wa ρ μ fun ds μ1 => ds.length = n ∧ wf ds μ1 P
def wCallD (n : Nat) (wf : WF) (dds : List DV) (wa : WA) : WE := fun ρ μ P => wa ρ μ fun ds μ1 => (ds ++ dds).length = n ∧ wf (ds ++ dds) μ1 P
theorem call_imp {K : PySem.W.Frag} {dvs : List V} {dds : List DV} (hd : ∀ H, Iss K H dvs dds) : ∀ σ H Q, tD K (wCallD n wf dds wa) σ H Q → tCall (spD K n wf) dvs E0 (tDA K wa) σ H Q := fun σ H Q ⟨R, ρ, μ, P, a, w, k⟩ =>
  ⟨R, ρ, μ, _, a, w, fun ds μ1 vs H1 p1 o1 s1 i1 => ⟨R, ds ++ dds, μ1, P, o1, i1.append (hd _), p1.1, p1.2, k.step s1⟩⟩
/-- with the defaults of the last parameters -/
theorem d_callD {dvs : List V} {us : List Value} {dds : List DV} (hd : ∀ H, Iss X.K H dvs dds) (F : FnG X.prog X.w X.K X.mg X.base k f fd ps (spD X.K n wf)) (hgd : X.A.guards = some []) (hr : Room k X.A) (hg : Gl X x) (hm : X.mg x = some (.ref f)) (hk : PySem.W.keepIn X.K (.ref f) = true) (hb : Binds X.K fd ps us) (hv : Vals dvs us) (ha : PA X (e :: es) (tDA X.K wa))
    (hdb : (x == ("__debug__" : Str)) = false := by decide) (he : starEach (e :: es) X.env = (false, eval e X.env) :: starEach es X.env := by rfl) (hpl : (backTo pos (starEach es X.env)).any (·.1) = false := by rfl) :
    PE X (.Call (.Name x p) (e :: es) [] pos) (tD X.K (wCallD n wf dds wa)) :=
  PE.imp (peg_call F hgd hr hg hm hk hb hv ha hdb he hpl) (call_imp hd)
theorem d_call (F : FnG X.prog X.w X.K X.mg X.base k f fd ps (spD X.K n wf)) (hgd : X.A.guards = some []) (hr : Room k X.A) (hg : Gl X x) (hm : X.mg x = some (.ref f)) (hk : PySem.W.keepIn X.K (.ref f) = true) (hb : Binds X.K fd ps []) (ha : PA X (e :: es) (tDA X.K wa)) (hd : (x == ("__debug__" : Str)) = false := by decide)
    (he : starEach (e :: es) X.env = (false, eval e X.env) :: starEach es X.env := by rfl) (hpl : (backTo pos (starEach es X.env)).any (·.1) = false := by rfl) : PE X (.Call (.Name x p) (e :: es) [] pos) (tD X.K (wCall n wf wa)) :=
  PE.imp (d_callD (dvs := []) (dds := []) (fun _ => .nil) F hgd hr hg hm hk hb .nil ha hd he hpl) fun σ H Q ⟨R, ρ, μ, P, a, w, k⟩ => ⟨R, ρ, μ, P, a, by simpa [wCall, wCallD] using w, k⟩
theorem d_call0 (F : FnG X.prog X.w X.K X.mg X.base k f fd ps (spD X.K n wf)) (hgd : X.A.guards = some []) (hr : Room k X.A) (hg : Gl X x) (hm : X.mg x = some (.ref f)) (hk : PySem.W.keepIn X.K (.ref f) = true) (hb : Binds X.K fd ps []) (hd : (x == ("__debug__" : Str)) = false := by decide) : PE X (.Call (.Name x p) [] [] pos) (tD X.K (wCall n wf wNil)) :=
  PE.imp (peg_call0 (E := E0) F hgd hr hg hm hk hb .nil hd) fun σ H Q ⟨R, ρ, μ, P, a, w, k⟩ => ⟨R, [], μ, P, a.ok, .nil, w.1, w.2, k⟩
/-- keywords alone: gD puts them in the parameters' order -/
def wCallK (n : Nat) (wf : WF) (gD : List DV → List DV) (wk : WA) : WE := fun ρ μ P => wk ρ μ fun ds μ1 => (gD ds).length = n ∧ wf (gD ds) μ1 P
theorem d_callK0 {ks : List Str} {kws : List Keyword} {g : List Value → List Value → List Value} {gV : List V → List V → List V} (gD : List DV → List DV) (hg' : ∀ (K : PySem.W.Frag) (H : Hp) (vs : List V) (ds : List DV), Iss K H vs ds → Iss K H (gV [] vs) (gD ds))
    (F : FnG X.prog X.w X.K X.mg X.base k f fd ps (spD X.K n wf)) (hgd : X.A.guards = some []) (hr : Room k X.A) (hg : Gl X x) (hm : X.mg x = some (.ref f)) (hk : PySem.W.keepIn X.K (.ref f) = true) (hb : KBinds X.K fd ps ks g gV) (hkw : PK X kws (tDA X.K wk))
    (hall : (backToKw pos (keywordEach kws X.env)).all (·.1.isSome) = true := by rfl) (hks : (backToKw pos (keywordEach kws X.env)).filterMap (·.1) = ks := by rfl) (hdb : (x == ("__debug__" : Str)) = false := by decide)
    (hpl : ((backTo pos (starEach [] X.env)).any (·.1) || (backToKw pos (keywordEach kws X.env)).any (·.1.isNone)) = false := by rfl) : PE X (.Call (.Name x p) [] kws pos) (tD X.K (wCallK n wf gD wk)) :=
  PE.imp (peg_callK0 (E := E0) F hgd hr hg hm hk hb hkw hall hks hdb hpl) fun σ H Q ⟨R, ρ, μ, P, a, w, k⟩ => ⟨R, ρ, μ, _, a, w, fun ds μ1 vs H1 p1 o1 s1 i1 => ⟨R, gD ds, μ1, P, o1, hg' _ _ _ _ i1, p1.1, p1.2, k.step s1⟩⟩
end
end Dz

set_option Elab.async false
set_option linter.all false
set_option maxRecDepth 100000
set_option maxHeartbeats 4000000
/-! Dz5: calls of built-ins over data: len, isinstance, repr, abs, all, tuple, list, int, str, join; displays of dicts. -/
namespace Dz
open PySem L2
abbrev WB := List DV → Mh → (DV → Mh → Prop) → Prop
def RAD (K : PySem.W.Frag) (r : List V → Hp → VK → Prop) (w : WB) : Prop := ∀ R μ H vs ds P Q, Ok K R μ H → Iss K (hid R μ H) vs ds → w ds μ P → Nxt K R μ H P Q → r vs H Q
def wB (wb : WB) (wa : WA) : WE := fun ρ μ P => wa ρ μ fun ds μ1 => wb ds μ1 P
section
variable {X : Cx} {x : Str} {p pos : Pos} {e : Expr} {es : List Expr} {wa : WA} {id T : String} {r : List V → Hp → VK → Prop} {wb : WB} {w : WE}
theorem cb_imp {K : PySem.W.Frag} (hr : RAD K r wb) : ∀ σ H Q, tD K (wB wb wa) σ H Q → tCB r (tDA K wa) σ H Q := fun σ H Q ⟨R, ρ, μ, P, a, w, k⟩ =>
  ⟨R, ρ, μ, _, a, w, fun ds μ1 vs H1 p1 o1 s1 i1 => hr R μ1 H1 vs ds P Q o1 i1 p1 (k.step s1)⟩
theorem d_callB (hc : CallR X (.builtin id) r) (hr : RAD X.K r wb) (hg : Gl X x) (hm : X.mg x = none) (hv : bootBuiltins x = some (.builtin id)) (ha : PA X (e :: es) (tDA X.K wa)) (hn : x ≠ "__name__" := by decide) (hdb : (x == ("__debug__" : Str)) = false := by decide)
    (he : starEach (e :: es) X.env = (false, eval e X.env) :: starEach es X.env := by rfl) (hpl : (backTo pos (starEach es X.env)).any (·.1) = false := by rfl) : PE X (.Call (.Name x p) (e :: es) [] pos) (tD X.K (wB wb wa)) :=
  PE.imp (pe_callB hc hg hm hv ha hn hdb he hpl) (cb_imp hr)
theorem d_callTy (hc : CallR X (.type T) r) (hr : RAD X.K r wb) (hg : Gl X x) (hm : X.mg x = none) (hv : bootBuiltins x = some (.type T)) (ha : PA X (e :: es) (tDA X.K wa)) (hn : x ≠ "__name__" := by decide) (hdb : (x == ("__debug__" : Str)) = false := by decide)
    (he : starEach (e :: es) X.env = (false, eval e X.env) :: starEach es X.env := by rfl) (hpl : (backTo pos (starEach es X.env)).any (·.1) = false := by rfl) : PE X (.Call (.Name x p) (e :: es) [] pos) (tD X.K (wB wb wa)) :=
  PE.imp (pe_callTy hc hg hm hv ha hn hdb he hpl) (cb_imp hr)
end

/-! ### len, abs, all, any, tuple, list, int -/
def wLen : WB
  | [.lst ds], μ, P => P (.int (ds.length : Int)) μ
  | [.tup ds], μ, P => P (.int (ds.length : Int)) μ
  | [.str z], μ, P => z.length ≤ sizeLine ∧ P (.int (z.length : Int)) μ
  | [.obj a], μ, P => match μ a with | some (.lst ds) => P (.int (ds.length : Int)) μ | _ => False
  | _, _, _ => False
def wAbs : WB
  | [.int i], μ, P => P (.int (if i < 0 then -i else i)) μ
  | _, _, _ => False
def wAll : WB
  | [.lst ds], μ, P => ∃ bs : List Bool, ds = bs.map DV.bool ∧ P (.bool (bs.all id)) μ
  | _, _, _ => False
def wAny : WB
  | [.lst ds], μ, P => ∃ bs : List Bool, ds = bs.map DV.bool ∧ P (.bool (bs.any id)) μ
  | _, _, _ => False
def wTuple : WB
  | [.lst ds], μ, P => P (.tup ds) μ
  | [.tup ds], μ, P => P (.tup ds) μ
  | [.obj a], μ, P => match μ a with | some (.lst ds) => P (.tup ds) μ | _ => False
  | _, _, _ => False
def wList : WB
  | [.lst ds], μ, P => P (.lst ds) μ
  | [.tup ds], μ, P => P (.lst ds) μ
  | [.obj a], μ, P => match μ a with | some (.lst ds) => P (.lst ds) μ | _ => False
  | _, _, _ => False
def wInt1 : WB
  | [.int i], μ, P => P (.int i) μ
  | [.bool b], μ, P => P (.int (if b then 1 else 0)) μ
  | _, _, _ => False
def wStrI : WB
  | [.int i], μ, P => i.natAbs.log2 < 1920 ∧ P (.str (toString i)) μ
  | _, _, _ => False
def wMax2 : WB
  | [.int i, .int j], μ, P => P (.int (if j > i then j else i)) μ
  | _, _, _ => False
def wMin2 : WB
  | [.int i, .int j], μ, P => P (.int (if j < i then j else i)) μ
  | _, _, _ => False
def wMaxL : WB
  | [.lst ds], μ, P => ∃ ns : List Int, ds = ns.map DV.int ∧ 0 < ns.length ∧ ∀ m, m ∈ ns → (∀ y, y ∈ ns → y ≤ m) → P (.int m) μ
  | _, _, _ => False
def wMinL : WB
  | [.lst ds], μ, P => ∃ ns : List Int, ds = ns.map DV.int ∧ 0 < ns.length ∧ ∀ m, m ∈ ns → (∀ y, y ∈ ns → m ≤ y) → P (.int m) μ
  | _, _, _ => False
section
variable {K : PySem.W.Frag} {X : Cx}
theorem Iss.one {H : Hp} {vs : List V} {d : DV} (h : Iss K H vs [d]) : ∃ v, vs = [v] ∧ Is K H v d := by
  cases h with
  | cons a b => cases b; exact ⟨_, rfl, a⟩
theorem Iss.two {H : Hp} {vs : List V} {d e : DV} (h : Iss K H vs [d, e]) : ∃ v u, vs = [v, u] ∧ Is K H v d ∧ Is K H u e := by
  cases h with
  | cons a b => cases b with
    | cons c d => cases d; exact ⟨_, _, rfl, a, c⟩
theorem len_rd : RAD K (fun xs H Q => ∃ x n, xs = [x] ∧ LenV K x H n ∧ Q (.int n) H) wLen := by
  intro R μ H vs ds P Q o i w k
  match ds, w with
  | [.lst ds], w =>
    obtain ⟨v, rfl, i1⟩ := i.one
    cases i1 with | lst hx rx => exact ⟨_, _, rfl, .inl ⟨_, SqL.of (hid_le _ _ hx), rfl⟩, by rw [rx.length]; exact k.val o w (.int _)⟩
  | [.tup ds], w =>
    obtain ⟨v, rfl, i1⟩ := i.one
    cases i1 with | tup hx rx => exact ⟨_, _, rfl, .inr ⟨_, Same.seqT hid_le hx.t, rfl⟩, by rw [rx.length]; exact k.val o w (.int _)⟩
  | [.str z], w =>
    obtain ⟨v, rfl, i1⟩ := i.one
    cases i1 with | str z => exact ⟨_, _, rfl, ⟨w.1, rfl⟩, k.val o w.2 (.int _)⟩
  | [.obj a], w =>
    obtain ⟨v, rfl, i1⟩ := i.one
    have w' : (match μ a with | some (.lst ds) => P (.int (ds.length : Int)) μ | _ => False) := w
    split at w'
    · rename_i ds e
      obtain ⟨xs, h1, r⟩ := o.ob a _ e
      cases i1
      exact ⟨_, _, rfl, .inl ⟨_, SqL.of h1, rfl⟩, by rw [r.length]; exact k.val o w' (.int _)⟩
    · exact w'.elim
theorem abs_rd : RAD K (fun xs H Q => ∃ i, xs = [.int i] ∧ Q (.int (if i < 0 then -i else i)) H) wAbs := by
  intro R μ H vs ds P Q o i w k
  match ds, w with
  | [.int j], w =>
    obtain ⟨v, rfl, i1⟩ := i.one
    cases i1
    exact ⟨j, rfl, k.val o w (.int _)⟩
theorem bools_of {H : Hp} : ∀ {vs : List V} {bs : List Bool}, Iss K H vs (bs.map DV.bool) → vs = bs.map V.bl
  | _, [], h => by cases h; rfl
  | _, b :: bs, h => by
    cases h with
    | cons a r =>
      cases a
      rw [List.map_cons, bools_of r]
theorem nums_of {H : Hp} : ∀ {vs : List V} {ns : List Int}, Iss K H vs (ns.map DV.int) → vs = ns.map V.int
  | _, [], h => by cases h; rfl
  | _, b :: bs, h => by
    cases h with
    | cons a r =>
      cases a
      rw [List.map_cons, nums_of r]
theorem texts_of {H : Hp} : ∀ {vs : List V} {ns : List Str}, Iss K H vs (ns.map DV.str) → vs = ns.map V.str
  | _, [], h => by cases h; rfl
  | _, b :: bs, h => by
    cases h with
    | cons a r =>
      cases a
      rw [List.map_cons, texts_of r]
theorem texts_is {H : Hp} : ∀ ns : List Str, Iss K H (ns.map V.str) (ns.map DV.str)
  | [] => .nil
  | _ :: ns => .cons (.str _) (texts_is ns)
theorem nums_is {H : Hp} : ∀ ns : List Int, Iss K H (ns.map V.int) (ns.map DV.int)
  | [] => .nil
  | _ :: ns => .cons (.int _) (nums_is ns)
theorem all_rd : RAD K (rAll K) wAll := by
  intro R μ H vs ds P Q o i w k
  match ds, w with
  | [.lst ds], ⟨bs, e, w⟩ =>
    subst e
    obtain ⟨v, rfl, i1⟩ := i.one
    cases i1 with | lst hx rx => exact ⟨_, bs, rfl, by rw [← bools_of rx]; exact SqL.of (hid_le _ _ hx), k.val o w (.bool _)⟩
theorem any_rd : RAD K (rAny K) wAny := by
  intro R μ H vs ds P Q o i w k
  match ds, w with
  | [.lst ds], ⟨bs, e, w⟩ =>
    subst e
    obtain ⟨v, rfl, i1⟩ := i.one
    cases i1 with | lst hx rx => exact ⟨_, bs, rfl, by rw [← bools_of rx]; exact SqL.of (hid_le _ _ hx), k.val o w (.bool _)⟩
theorem tuple_rd : RAD K (fun xs H Q => ∃ p ys, xs = [.ref p] ∧ ((SqL K H p ys ∧ ∀ l o, H l = none → NewT o → Q (.ref l) (upd H l (.frz o (.tup ys)))) ∨ (SqT K H p ys ∧ Q (.ref p) H))) wTuple := by
  intro R μ H vs ds P Q o i w k
  match ds, w with
  | [.lst ds], w =>
    obtain ⟨v, rfl, i1⟩ := i.one
    cases i1 with | lst hx rx => exact ⟨_, _, rfl, .inl ⟨SqL.of (hid_le _ _ hx), fun l t n nt => k.tup nt o w rx n⟩⟩
  | [.tup ds], w =>
    obtain ⟨v, rfl, i1⟩ := i.one
    cases i1 with | tup hx rx => exact ⟨_, _, rfl, .inr ⟨Same.seqT hid_le hx.t, k.val o w (.tup hx rx)⟩⟩
  | [.obj a], w =>
    obtain ⟨v, rfl, i1⟩ := i.one
    have w' : (match μ a with | some (.lst ds) => P (.tup ds) μ | _ => False) := w
    split at w'
    · rename_i ds e
      obtain ⟨xs, h1, r⟩ := o.ob a _ e
      cases i1
      exact ⟨_, _, rfl, .inl ⟨SqL.of h1, fun l t n nt => k.tup nt o w' r n⟩⟩
    · exact w'.elim
theorem list_rd : RAD K (fun xs H Q => ∃ p ys, xs = [.ref p] ∧ (SqL K H p ys ∨ SqT K H p ys) ∧ ∀ l, H l = none → Q (.ref l) (upd H l (.lst ys))) wList := by
  intro R μ H vs ds P Q o i w k
  match ds, w with
  | [.lst ds], w =>
    obtain ⟨v, rfl, i1⟩ := i.one
    cases i1 with | lst hx rx => exact ⟨_, _, rfl, .inl (SqL.of (hid_le _ _ hx)), fun l n => k.lst o w rx n⟩
  | [.tup ds], w =>
    obtain ⟨v, rfl, i1⟩ := i.one
    cases i1 with | tup hx rx => exact ⟨_, _, rfl, .inr (Same.seqT hid_le hx.t), fun l n => k.lst o w rx n⟩
  | [.obj a], w =>
    obtain ⟨v, rfl, i1⟩ := i.one
    have w' : (match μ a with | some (.lst ds) => P (.lst ds) μ | _ => False) := w
    split at w'
    · rename_i ds e
      obtain ⟨xs, h1, r⟩ := o.ob a _ e
      cases i1
      exact ⟨_, _, rfl, .inl (SqL.of h1), fun l n => k.lst o w' r n⟩
    · exact w'.elim
theorem int1_rd : RAD K (fun xs H Q => (∃ i, xs = [.int i] ∧ Q (.int i) H) ∨ ∃ k, xs = [.bl k] ∧ Q (.int (if k then 1 else 0)) H) wInt1 := by
  intro R μ H vs ds P Q o i w k
  match ds, w with
  | [.int j], w =>
    obtain ⟨v, rfl, i1⟩ := i.one
    cases i1
    exact .inl ⟨j, rfl, k.val o w (.int _)⟩
  | [.bool b], w =>
    obtain ⟨v, rfl, i1⟩ := i.one
    cases i1
    exact .inr ⟨b, rfl, k.val o w (.int _)⟩
theorem strI_rd : RAD K (fun xs H Q => ∃ i, xs = [.int i] ∧ i.natAbs.log2 < 1920 ∧ Q (.str (toString i)) H) wStrI := by
  intro R μ H vs ds P Q o i w k
  match ds, w with
  | [.int j], w =>
    obtain ⟨v, rfl, i1⟩ := i.one
    cases i1
    exact ⟨j, rfl, w.1, k.val o w.2 (.str _)⟩
theorem max2_rd : RAD K (fun xs H Q => ∃ i j, xs = [.int i, .int j] ∧ Q (.int (if j > i then j else i)) H) wMax2 := by
  intro R μ H vs ds P Q o i w k
  match ds, w with
  | [.int a, .int b], w =>
    obtain ⟨v, u, rfl, i1, j1⟩ := i.two
    cases i1
    cases j1
    exact ⟨a, b, rfl, k.val o w (.int _)⟩
theorem min2_rd : RAD K (fun xs H Q => ∃ i j, xs = [.int i, .int j] ∧ Q (.int (if j < i then j else i)) H) wMin2 := by
  intro R μ H vs ds P Q o i w k
  match ds, w with
  | [.int a, .int b], w =>
    obtain ⟨v, u, rfl, i1, j1⟩ := i.two
    cases i1
    cases j1
    exact ⟨a, b, rfl, k.val o w (.int _)⟩
theorem maxL_rd : RAD K (rMax K) wMaxL := by
  intro R μ H vs ds P Q o i w k
  match ds, w with
  | [.lst ds], ⟨ns, e, h, w⟩ =>
    subst e
    obtain ⟨v, rfl, i1⟩ := i.one
    cases i1 with | lst hx rx => exact ⟨_, ns, rfl, by rw [← nums_of rx]; exact SqL.of (hid_le _ _ hx), h, fun m hm hl => k.val o (w m hm hl) (.int _)⟩
theorem minL_rd : RAD K (rMin K) wMinL := by
  intro R μ H vs ds P Q o i w k
  match ds, w with
  | [.lst ds], ⟨ns, e, h, w⟩ =>
    subst e
    obtain ⟨v, rfl, i1⟩ := i.one
    cases i1 with | lst hx rx => exact ⟨_, ns, rfl, by rw [← nums_of rx]; exact SqL.of (hid_le _ _ hx), h, fun m hm hl => k.val o (w m hm hl) (.int _)⟩
variable {e a b : Expr} {es : List Expr} {wa : WA} {w wx wy : WE} {p pos : Pos}
theorem d_len (hg : Gl X "len") (hm : X.mg "len" = none) (ha : PE X e (tD X.K w)) (hs : starEach [e] X.env = [(false, eval e X.env)] := by rfl) : PE X (.Call (.Name "len" p) [e] [] pos) (tD X.K (wB wLen (wCons w wNil))) :=
  d_callB call_len len_rd hg hm PySem.boot_len (da_cons ha da_nil hs) (by decide) (by decide) hs rfl
theorem d_abs (hg : Gl X "abs") (hm : X.mg "abs" = none) (ha : PE X e (tD X.K w)) (hs : starEach [e] X.env = [(false, eval e X.env)] := by rfl) : PE X (.Call (.Name "abs" p) [e] [] pos) (tD X.K (wB wAbs (wCons w wNil))) :=
  d_callB call_abs abs_rd hg hm (by decide +kernel) (da_cons ha da_nil hs) (by decide) (by decide) hs rfl
theorem d_all (hg : Gl X "all") (hm : X.mg "all" = none) (ha : PE X e (tD X.K w)) (hc : X.calm = true := by rfl) (hs : starEach [e] X.env = [(false, eval e X.env)] := by rfl) : PE X (.Call (.Name "all" p) [e] [] pos) (tD X.K (wB wAll (wCons w wNil))) :=
  d_callB (cr_all hc) all_rd hg hm (by decide +kernel) (da_cons ha da_nil hs) (by decide) (by decide) hs rfl
theorem d_any (hg : Gl X "any") (hm : X.mg "any" = none) (ha : PE X e (tD X.K w)) (hc : X.calm = true := by rfl) (hs : starEach [e] X.env = [(false, eval e X.env)] := by rfl) : PE X (.Call (.Name "any" p) [e] [] pos) (tD X.K (wB wAny (wCons w wNil))) :=
  d_callB (cr_any hc) any_rd hg hm (by decide +kernel) (da_cons ha da_nil hs) (by decide) (by decide) hs rfl
theorem d_tuple (hg : Gl X "tuple") (hm : X.mg "tuple" = none) (ha : PE X e (tD X.K w)) (hs : starEach [e] X.env = [(false, eval e X.env)] := by rfl) : PE X (.Call (.Name "tuple" p) [e] [] pos) (tD X.K (wB wTuple (wCons w wNil))) :=
  d_callTy call_tupleN tuple_rd hg hm (by decide +kernel) (da_cons ha da_nil hs) (by decide) (by decide) hs rfl
theorem d_list (hg : Gl X "list") (hm : X.mg "list" = none) (ha : PE X e (tD X.K w)) (hs : starEach [e] X.env = [(false, eval e X.env)] := by rfl) : PE X (.Call (.Name "list" p) [e] [] pos) (tD X.K (wB wList (wCons w wNil))) :=
  d_callTy call_list_of list_rd hg hm (by decide +kernel) (da_cons ha da_nil hs) (by decide) (by decide) hs rfl
theorem d_int1 (hg : Gl X "int") (hm : X.mg "int" = none) (ha : PE X e (tD X.K w)) (hs : starEach [e] X.env = [(false, eval e X.env)] := by rfl) : PE X (.Call (.Name "int" p) [e] [] pos) (tD X.K (wB wInt1 (wCons w wNil))) :=
  d_callTy call_int1 int1_rd hg hm (by decide +kernel) (da_cons ha da_nil hs) (by decide) (by decide) hs rfl
theorem d_strI (hg : Gl X "str") (hm : X.mg "str" = none) (ha : PE X e (tD X.K w)) (hs : starEach [e] X.env = [(false, eval e X.env)] := by rfl) : PE X (.Call (.Name "str" p) [e] [] pos) (tD X.K (wB wStrI (wCons w wNil))) :=
  d_callTy call_str_int strI_rd hg hm (by decide +kernel) (da_cons ha da_nil hs) (by decide) (by decide) hs rfl
theorem d_maxL (hg : Gl X "max") (hm : X.mg "max" = none) (ha : PE X e (tD X.K w)) (hc : X.calm = true := by rfl) (hs : starEach [e] X.env = [(false, eval e X.env)] := by rfl) : PE X (.Call (.Name "max" p) [e] [] pos) (tD X.K (wB wMaxL (wCons w wNil))) :=
  d_callB (cr_max hc) maxL_rd hg hm (by decide +kernel) (da_cons ha da_nil hs) (by decide) (by decide) hs rfl
theorem d_minL (hg : Gl X "min") (hm : X.mg "min" = none) (ha : PE X e (tD X.K w)) (hc : X.calm = true := by rfl) (hs : starEach [e] X.env = [(false, eval e X.env)] := by rfl) : PE X (.Call (.Name "min" p) [e] [] pos) (tD X.K (wB wMinL (wCons w wNil))) :=
  d_callB (cr_min hc) minL_rd hg hm (by decide +kernel) (da_cons ha da_nil hs) (by decide) (by decide) hs rfl
theorem d_max2 (hg : Gl X "max") (hm : X.mg "max" = none) (ha : PE X a (tD X.K wx)) (hb : PE X b (tD X.K wy)) (hc : X.calm = true := by rfl) (hs : starEach [a, b] X.env = (false, eval a X.env) :: starEach [b] X.env := by rfl) (hs2 : starEach [b] X.env = [(false, eval b X.env)] := by rfl) :
    PE X (.Call (.Name "max" p) [a, b] [] pos) (tD X.K (wB wMax2 (wCons wx (wCons wy wNil)))) :=
  d_callB (call_max2 hc) max2_rd hg hm (by decide +kernel) (da_cons ha (da_cons hb da_nil hs2) hs) (by decide) (by decide) hs (by rw [hs2]; rfl)
theorem d_min2 (hg : Gl X "min") (hm : X.mg "min" = none) (ha : PE X a (tD X.K wx)) (hb : PE X b (tD X.K wy)) (hc : X.calm = true := by rfl) (hs : starEach [a, b] X.env = (false, eval a X.env) :: starEach [b] X.env := by rfl) (hs2 : starEach [b] X.env = [(false, eval b X.env)] := by rfl) :
    PE X (.Call (.Name "min" p) [a, b] [] pos) (tD X.K (wB wMin2 (wCons wx (wCons wy wNil)))) :=
  d_callB (call_min2 hc) min2_rd hg hm (by decide +kernel) (da_cons ha (da_cons hb da_nil hs2) hs) (by decide) (by decide) hs (by rw [hs2]; rfl)

/-! ### isinstance -/
inductive Ty where
  | none | bool | int | str | tup | lst | dct
def Ty.name : Ty → String
  | .none => "NoneType" | .bool => "bool" | .int => "int" | .str => "str" | .tup => "tuple" | .lst => "list" | .dct => "dict"
def tyD : DV → Mh → Option Ty
  | .none, _ => some .none
  | .bool _, _ => some .bool
  | .int _, _ => some .int
  | .str _, _ => some .str
  | .tup _, _ => some .tup
  | .lst _, _ => some .lst
  | .dct _, _ => some .dct
  | .obj a, μ => match μ a with | some (.lst _) => some .lst | some (.dct _) => some .dct | _ => Option.none
  | .fix _, _ => Option.none
  | .dn _ _ _, _ => Option.none
theorem ty_of {R : Hp} {μ : Mh} {H : Hp} {v : V} {d : DV} {t : Ty} (o : Ok K R μ H) (i : Is K (hid R μ H) v d) (h : tyD d μ = some t) : TyX K H v (.type t.name) := by
  cases i with
  | none => cases h; exact .base .non
  | bool b => cases h; exact .base (.bl b)
  | int b => cases h; exact .base (.int b)
  | str b => cases h; exact .base (.str b)
  | lst hx rx => cases h; exact .base (.lst (hid_le _ _ hx))
  | dct hx _ _ => cases h; exact .base (.dK (hid_le _ _ hx))
  | tup hx rx =>
    cases h
    rcases hx with ⟨ob, hx, _⟩ | ⟨ob, its, n, hk, hc, _⟩
    · exact .fTuple (hid_le _ _ hx)
    · exact .kTuple hk hc.1
  | obj a =>
    have h' : (match μ a with | some (.lst _) => some Ty.lst | some (.dct _) => some Ty.dct | _ => Option.none) = some t := h
    split at h'
    · rename_i ds e
      cases h'
      obtain ⟨xs, h1, r⟩ := o.ob a _ e
      exact .base (.lst h1)
    · rename_i ds e
      cases h'
      obtain ⟨xs, h1, r⟩ := o.ob a _ e
      exact .base (.dK h1)
    · cases h'
  | fix _ _ => cases h
  | dn _ _ _ _ _ _ => cases h
def wIsi (f : Ty → Bool) (w : WE) : WE := fun ρ μ P => w ρ μ fun d μ1 => atW (tyD d μ1) fun t => P (.bool (f t)) μ1
theorem d_isi {Tn : Str} {T : String} {p2 : Pos} (f : Ty → Bool) (hf : ∀ t : Ty, kitB t.name T = some (f t)) (hg : Gl X "isinstance") (hm : X.mg "isinstance" = none) (hg2 : Gl X Tn) (hm2 : X.mg Tn = none) (hv2 : bootBuiltins Tn = some (.type T)) (ha : PE X e (tD X.K w))
    (hs : starEach [e, .Name Tn p2] X.env = (false, eval e X.env) :: starEach [.Name Tn p2] X.env := by rfl) (hs2 : starEach [.Name Tn p2] X.env = [(false, eval (.Name Tn p2) X.env)] := by rfl) (hn : Tn ≠ "__name__" := by decide) (hdb : (Tn == ("__debug__" : Str)) = false := by decide) :
    PE X (.Call (.Name "isinstance" p) [e, .Name Tn p2] [] pos) (tD X.K (wIsi f w)) :=
  PE.imp (pe_callB call_isi hg hm (by decide +kernel) (pa_cons ha (pa_cons (pe_bltn (v := .ty T) hg2 hm2 hv2 rfl hn hdb) pa_nil hs2) hs) (by decide) (by decide) hs (by rw [hs2]; rfl)) fun σ H Q ⟨R, ρ, μ, P, a, w, k⟩ =>
    ⟨R, ρ, μ, _, a, w, fun d μ1 v H1 p1 o1 s1 i1 => by
      obtain ⟨t, ht, p2⟩ := atW_of p1
      exact ⟨v, .ty T, _, _, f t, rfl, .ty T, ty_of o1 i1 ht, kit_ty (hf t), k _ μ1 _ H1 p2 o1 s1 (.bool _)⟩⟩
def tyStr : Ty → Bool | .str => true | _ => false
def tyInt : Ty → Bool | .int => true | .bool => true | _ => false
def tyBool : Ty → Bool | .bool => true | _ => false
def tyTup : Ty → Bool | .tup => true | _ => false
def tyLst : Ty → Bool | .lst => true | _ => false
def tyDct : Ty → Bool | .dct => true | _ => false
theorem hf_str : ∀ t : Ty, kitB t.name "str" = some (tyStr t) := by intro t; cases t <;> decide +kernel
theorem hf_int : ∀ t : Ty, kitB t.name "int" = some (tyInt t) := by intro t; cases t <;> decide +kernel
theorem hf_bool : ∀ t : Ty, kitB t.name "bool" = some (tyBool t) := by intro t; cases t <;> decide +kernel
theorem hf_tup : ∀ t : Ty, kitB t.name "tuple" = some (tyTup t) := by intro t; cases t <;> decide +kernel
theorem hf_lst : ∀ t : Ty, kitB t.name "list" = some (tyLst t) := by intro t; cases t <;> decide +kernel
theorem hf_dct : ∀ t : Ty, kitB t.name "dict" = some (tyDct t) := by intro t; cases t <;> decide +kernel
theorem boot_str : bootBuiltins "str" = some (.type "str") := by decide +kernel
theorem boot_int : bootBuiltins "int" = some (.type "int") := by decide +kernel
theorem boot_bool : bootBuiltins "bool" = some (.type "bool") := by decide +kernel
theorem boot_tup : bootBuiltins "tuple" = some (.type "tuple") := by decide +kernel
theorem boot_lst : bootBuiltins "list" = some (.type "list") := by decide +kernel
theorem boot_dct : bootBuiltins "dict" = some (.type "dict") := by decide +kernel

/-! ### sep.join(texts) -/
def joinD (a : Str) (ds : List DV) (μ : Mh) (P : DV → Mh → Prop) : Prop := ∃ ys : List Str, ds = ys.map DV.str ∧ (ys.map (·.length)).sum + ys.length * a.length ≤ 16777216 ∧ P (.str (Txt.join a ys)) μ
def wJoin (wx wy : WE) : WE := fun ρ μ P => wx ρ μ fun x μ1 => match x with
  | .str a => wy ρ μ1 fun y μ2 => match y with
    | .lst ds => joinD a ds μ2 P
    | .tup ds => joinD a ds μ2 P
    | _ => False
  | _ => False
theorem d_join {apos : Pos} (ho : PE X a (tD X.K wx)) (he : PE X b (tD X.K wy)) (hs : starEach [b] X.env = [(false, eval b X.env)] := by rfl) (hbase : attributeBase a "join" X.env (eval a X.env) = eval a X.env := by rfl) (hline : (apos.endLine == pos.line) = true := by rfl) :
    PE X (.Call (.Attribute a "join" apos) [b] [] pos) (tD X.K (wJoin wx wy)) :=
  PE.imp (pe_join ho he hs hbase hline) fun σ H Q ⟨R, ρ, μ, P, a, w, k⟩ => ⟨R, ρ, μ, _, a, w, fun x μ1 v H1 p1 o1 s1 i1 => by
    cases i1 with
    | str z => exact ⟨⟨z, rfl⟩, R, ρ, μ1, _, a.step o1 s1, p1, fun y μ2 u H2 p2 o2 s2 i2 => by
        cases i2 with
        | lst hy ry =>
          obtain ⟨ys, e, h1, h2⟩ := p2
          subst e
          exact ⟨z, _, ys, rfl, rfl, .inl (by rw [← texts_of ry]; exact SqL.of (hid_le _ _ hy)), h1, k _ μ2 _ H2 h2 o2 (s1.trans s2) (.str _)⟩
        | tup hy ry =>
          obtain ⟨ys, e, h1, h2⟩ := p2
          subst e
          exact ⟨z, _, ys, rfl, rfl, .inr (by rw [← texts_of ry]; exact Same.seqT hid_le hy.t), h1, k _ μ2 _ H2 h2 o2 (s1.trans s2) (.str _)⟩
        | _ => exact (show False from p2).elim⟩
    | _ => exact (show False from p1).elim⟩
end
end Dz

set_option Elab.async false
set_option linter.all false
set_option maxRecDepth 100000
set_option maxHeartbeats 4000000
/-! Dz6: repr of data, displays of dicts, order of tuples. -/
namespace Dz
open PySem L2

/-! ### data as the library reads it -/
def ReadsIn (h : Heap) (v : Value) (d : PyData) : Prop := ∃ as, Reads h v d as ∧ sysModules ∉ as
def ReadsInAll (h : Heap) (vs : List Value) (ds : List PyData) : Prop := ∃ as, ReadsAll h vs ds as ∧ sysModules ∉ as
theorem ReadsInAll.cons {h : Heap} {v : Value} {d : PyData} {vs : List Value} {ds : List PyData} (a : ReadsIn h v d) (b : ReadsInAll h vs ds) : ReadsInAll h (v :: vs) (d :: ds) := by
  obtain ⟨as, r1, n1⟩ := a
  obtain ⟨bs, r2, n2⟩ := b
  exact ⟨_, .cons r1 r2, fun m => (List.mem_append.mp m).elim n1 n2⟩
section
variable {X : Cx} {pins : List (Addr × Obj)} {σ : L2.St} {H : Hp} {s : Shared}
theorem ne_sys (I : Inv X pins σ H s) (hs : ∃ o, X.base.get? sysModules = some o) {a : Addr} {u : HO} (h : H a = some u) : sysModules ≠ a := by
  obtain ⟨o, e⟩ := hs
  intro z
  subst z
  rw [(I.bs _ _ e).2] at h
  cases h
theorem key_reads {h : Heap} : ∀ {es : List DictEntry} {vs : List (Key × Value)} {P : Program} {w : World}, Pairs (mixKind P w) es vs → ReadsInAll h (es.map (·.key)) (vs.map fun kv => keyPy kv.1)
  | _, _, _, _, .nil => ⟨[], .nil, by simp⟩
  | _, _, _, _, .cons h1 h2 r => by
    refine ReadsInAll.cons ?_ (key_reads r)
    rcases keyIs_shape h1 with ⟨i, t, e1, e2⟩ | ⟨i, t, e1, e2⟩
    · show ReadsIn h (DictEntry.key _) (keyPy (Prod.fst _))
      rw [e1, e2]
      exact ⟨[], .int i t, by simp⟩
    · show ReadsIn h (DictEntry.key _) (keyPy (Prod.fst _))
      rw [e1, e2]
      exact ⟨[], .str i t, by simp⟩
theorem vals_eq {es : List DictEntry} {vs : List (Key × Value)} {P : Program} {w : World} (r : Pairs (mixKind P w) es vs) : es.map (·.val) = vs.map (·.2) := by
  induction r with
  | nil => rfl
  | cons h1 h2 _ ih => rw [List.map_cons, List.map_cons, h2, ih]
theorem toPyKv_keys : ∀ ds : List (Key × DV), (toPyKv ds).map (·.1) = ds.map fun kv => keyPy kv.1
  | [] => rfl
  | (k, d) :: r => by rw [toPyKv, List.map_cons, List.map_cons, toPyKv_keys r]
theorem toPyKv_vals : ∀ ds : List (Key × DV), (toPyKv ds).map (·.2) = toPys (ds.map (·.2))
  | [] => rfl
  | (k, d) :: r => by rw [toPyKv, List.map_cons, List.map_cons, toPyKv_vals r]; rfl
theorem noObjKv_vals : ∀ ds : List (Key × DV), noObjKv ds = noObjs (ds.map (·.2))
  | [] => rfl
  | (k, d) :: r => by rw [noObjKv, List.map_cons, noObjKv_vals r]; rfl
theorem kv_vals {κ : Type} {kvs : List (κ × V)} {vs : List (κ × Value)} (r : KV kvs vs) : Vals (kvs.map (·.2)) (vs.map (·.2)) := by
  unfold KV at r
  induction r with
  | nil => exact .nil
  | cons q _ ih => exact .cons q.2 ih
mutual
theorem Is.reads (I : Inv X pins σ H s) (hs : ∃ o, X.base.get? sysModules = some o) : ∀ {v : V} {d : DV} {u : Value}, Is X.K H v d → noObj d = true → RelV v u → ReadsIn s.heap u (toPy d)
  | _, _, _, .none, _, r => by cases r; exact ⟨_, .none, by simp⟩
  | _, _, _, .bool b, _, r => by cases r; exact ⟨_, .bool b, by simp⟩
  | _, _, _, .int i, _, r => by obtain ⟨t, rfl⟩ := r; exact ⟨_, .int i t, by simp⟩
  | _, _, _, .str i, _, r => by obtain ⟨t, rfl⟩ := r; exact ⟨_, .str i t, by simp⟩
  | _, _, _, .tup h rr, n, r => by
    cases r
    obtain ⟨its, rv, ⟨o, ho, hc, m, hd⟩, _⟩ := I.tuple h.t
    obtain ⟨as, hr, ns⟩ := Iss.reads I hs rr n rv
    exact ⟨_, .tuple ho hc hd hr, ns⟩
  | _, _, _, .lst h rr, n, r => by
    cases r
    obtain ⟨its, rv, ⟨o, m, ho, hc, _, hd⟩, _⟩ := I.list (SqL.of h)
    obtain ⟨as, hr, ns⟩ := Iss.reads I hs rr n rv
    exact ⟨_, .list ho hc hd hr, fun z => (List.mem_cons.mp z).elim (ne_sys I hs h) ns⟩
  | _, _, _, .dct (a := a) (kvs := kvs) (ds := ds) h k rr, n, r => by
    cases r
    obtain ⟨_, _, vs, rv, ob, es, ep, ho, hx, hd, _, pr, _⟩ := (show ObjOk X.prog X.w H s.heap a (.dK kvs) from I.hok a _ h)
    have rv2 : Vals (kvs.map (·.2)) (vs.map (·.2)) := kv_vals rv
    obtain ⟨as, r1, n1⟩ := key_reads (h := s.heap) pr
    obtain ⟨bs, r2, n2⟩ := Iss.reads I hs rr (by rw [← noObjKv_vals]; exact n) rv2
    have kk : vs.map (fun kv => keyPy kv.1) = (toPyKv ds).map (·.1) := by
      rw [toPyKv_keys]
      have e1 : vs.map (·.1) = ds.map (·.1) := rv.keys.symm.trans k
      have e2 := congrArg (List.map keyPy) e1
      rw [List.map_map, List.map_map] at e2
      exact e2
    rw [kk] at r1
    rw [← vals_eq pr, ← toPyKv_vals] at r2
    exact ⟨_, .dict ho hx.1 hd r1 r2, fun z => (List.mem_append.mp z).elim (fun z => (List.mem_cons.mp z).elim (ne_sys I hs h) n1) n2⟩
  | _, _, _, .obj _, n, _ => absurd (show false = true from n) Bool.false_ne_true
  | _, _, _, .fix _ _, n, _ => absurd (show false = true from n) Bool.false_ne_true
  | _, _, _, .dn _ _ _ _ _ _, n, _ => absurd (show false = true from n) Bool.false_ne_true
theorem Iss.reads (I : Inv X pins σ H s) (hs : ∃ o, X.base.get? sysModules = some o) : ∀ {vs : List V} {ds : List DV} {us : List Value}, Iss X.K H vs ds → noObjs ds = true → Vals vs us → ReadsInAll s.heap us (toPys ds)
  | _, _, _, .nil, _, r => by cases r; exact ⟨_, .nil, by simp⟩
  | _, _, _, .cons h rr, n, r => by
    cases r with
    | cons r1 r2 =>
      have n' := Bool.and_eq_true_iff.mp n
      exact ReadsInAll.cons (Is.reads I hs h n'.1 r1) (Iss.reads I hs rr n'.2 r2)
end
end

/-! ### repr -/
/-- data whose text the model can write -/
structure Shows (d : DV) : Prop where
  no : noObj d = true
  sh : (toPy d).showable = true
  len : (toPy d).shown.length ≤ sizeLine
  dep : (toPy d).depth ≤ 60
def shownD (d : DV) : Str := (toPy d).shown
def wRepr : WB
  | [d], μ, P => Shows d ∧ P (.str (shownD d)) μ
  | _, _, _ => False
def rReprD (K : PySem.W.Frag) : List V → Hp → VK → Prop := fun xs H Q => ∃ x d, xs = [x] ∧ Is K H x d ∧ Shows d ∧ Q (.str (shownD d)) H
section
variable {X : Cx}
theorem call_reprD {k : Nat} (hg : X.A.guards = some []) (hr : Room k X.A) (hs : ∃ o, X.base.get? sysModules = some o) : CallR X (.builtin "repr") (rReprD X.K) := by
  intro pins s σ H xs us Q I r h
  obtain ⟨x, d, rfl, i, S, q⟩ := h
  obtain ⟨u, rfl, rx⟩ := vals1 r
  have hu := hr.un
  cases i with
  | none =>
    cases rx
    exact PySem.P.repr_of_none ⟨.str _, H, I.tok _, ⟨_, rfl⟩, q⟩
  | bool b =>
    cases rx
    exact PySem.P.repr_of_bool ⟨.str _, H, I.tok _, ⟨_, rfl⟩, q⟩
  | int j =>
    obtain ⟨t, rfl⟩ := rx
    exact PySem.P.repr_of_int (by have := S.sh; simpa [toPy, PyData.showable] using this) ⟨.str _, H, I.tok _, ⟨_, rfl⟩, q⟩
  | str z =>
    obtain ⟨t, rfl⟩ := rx
    exact PySem.P.repr_of_str ⟨.str _, H, I.tok _, ⟨_, rfl⟩, q⟩ S.len
  | obj a => exact absurd (show false = true from S.no) Bool.false_ne_true
  | fix _ _ => exact absurd (show false = true from S.no) Bool.false_ne_true
  | dn _ _ _ _ _ _ => exact absurd (show false = true from S.no) Bool.false_ne_true
  | tup h rr =>
    obtain ⟨as, rd, ns⟩ := Is.reads I hs (.tup h rr) S.no rx
    cases rx
    refine repr_of_reads' rd S.sh (fun _ => ns) hg (by have := S.dep; omega) (fun _ _ e => e) (fun h' v tk hk => ?_) S.len
    exact ⟨.str _, H, I.kept hk, ⟨_, rfl⟩, q⟩
  | lst h rr =>
    obtain ⟨as, rd, ns⟩ := Is.reads I hs (.lst h rr) S.no rx
    cases rx
    refine repr_of_reads' rd S.sh (fun _ => ns) hg (by have := S.dep; omega) (fun _ _ e => e) (fun h' v tk hk => ?_) S.len
    exact ⟨.str _, H, I.kept hk, ⟨_, rfl⟩, q⟩
  | dct h kk rr =>
    obtain ⟨as, rd, ns⟩ := Is.reads I hs (.dct h kk rr) S.no rx
    cases rx
    refine repr_of_reads' rd S.sh (fun _ => ns) hg (by have := S.dep; omega) (fun _ _ e => e) (fun h' v tk hk => ?_) S.len
    exact ⟨.str _, H, I.kept hk, ⟨_, rfl⟩, q⟩
theorem repr_rd {K : PySem.W.Frag} : RAD K (rReprD K) wRepr := by
  intro R μ H vs ds P Q o i w k
  match ds, w with
  | [d], w =>
    obtain ⟨v, rfl, i1⟩ := i.one
    exact ⟨v, d, rfl, i1.up, w.1, k.val o w.2 (.str _)⟩
theorem d_repr {k : Nat} {e : Expr} {w : WE} {p pos : Pos} (hgd : X.A.guards = some []) (hr : Room k X.A) (hsm : ∃ o, X.base.get? sysModules = some o) (hg : Gl X "repr") (hm : X.mg "repr" = none) (ha : PE X e (tD X.K w)) (hs : starEach [e] X.env = [(false, eval e X.env)] := by rfl) :
    PE X (.Call (.Name "repr" p) [e] [] pos) (tD X.K (wB wRepr (wCons w wNil))) :=
  d_callB (call_reprD hgd hr hsm) repr_rd hg hm (by decide +kernel) (da_cons ha da_nil hs) (by decide) (by decide) hs rfl

/-! ### {}, {k: v, ..} -/
def wPairs : List (Key × WE) → Rho → Mh → (List (Key × DV) → Mh → Prop) → Prop
  | [], _, μ, P => P [] μ
  | (k, w) :: r, ρ, μ, P => w ρ μ fun d μ1 => wPairs r ρ μ1 fun ds μ2 => P ((k, d) :: ds) μ2
/-- a dict as data: the keys written, each once -/
def wDct (ws : List (Key × WE)) : WE := fun ρ μ P => wPairs ws ρ μ fun ds μ1 => P (.dct ds) μ1
theorem d_dct0 {pos : Pos} : PE X (.Dict [] [] pos) (tD X.K (wC (.dct []))) :=
  PE.imp pe_dnewK fun σ H Q ⟨R, ρ, μ, P, a, w, k⟩ => fun p n => k _ μ _ _ w (a.ok.new n) (a.ok.sameNew n) (.dct (hid_new a.ok n) rfl .nil)
/-- one pair -/
theorem d_dct1 {pos : Pos} {kx vx : Expr} {key : Key} {w : WE} (hk : PE X kx (tC (kV key))) (hv : PE X vx (tD X.K w)) : PE X (.Dict [some kx] [vx] pos) (tD X.K (wDct [(key, w)])) :=
  PE.imp (pe_disp (pps_cons hk hv pps_nil) rfl rfl (fun z => by cases z) (Nat.le_of_ble_eq_true rfl)) fun σ H Q ⟨R, ρ, μ, P, a, w, k⟩ => fun p n => by
    obtain ⟨o1, e1⟩ := a.ok.frame (o := .dK []) n
    refine ⟨upd R p (.dK []), ρ, μ, _, ⟨o1, by rw [e1]; exact a.sl⟩, w, fun d μ1 v H1 p1 o2 s2 i2 => ⟨o2.fr p _ upd_same, [(key, v)], rfl, Nat.le_of_ble_eq_true rfl, ?_⟩⟩
    have rn := a.ok.freeR n
    rw [e1] at s2
    have em : mergeK [] [(key, v)] = [(key, v)] := rfl
    rw [em]
    obtain ⟨o3, e3⟩ := o2.reframe (o' := .dK [(key, v)])
    obtain ⟨o4, s4, h4⟩ := o3.unframe rn
    rw [e3] at s4
    exact k _ μ1 _ _ p1 o4 (s2.trans s4) (.dct h4 rfl (.cons (i2.mono s4) .nil))
end

/-! ### order of tuples -/
def ltB : DV → DV → Bool
  | .int i, .int j => decide (i < j)
  | .str s, .str t => ltS s t
  | _, _ => false
def cmpB : DV → DV → Bool
  | .int _, .int _ => true
  | .str _, .str _ => true
  | _, _ => false
/-- place by place of one kind, ints or texts -/
def cmpAll : List DV → List DV → Bool
  | x :: xs, y :: ys => cmpB x y && cmpAll xs ys
  | _, _ => true
def lexB : List DV → List DV → Bool
  | [], [] => false
  | [], _ :: _ => true
  | _ :: _, [] => false
  | x :: xs, y :: ys => if eqF x y = true then lexB xs ys else ltB x y
def eAt (xs ys : List DV) (j : Nat) : Bool := match xs[j]?, ys[j]? with | some x, some y => eqF x y | _, _ => true
def rAt (xs ys : List DV) (j : Nat) : Bool := match xs[j]?, ys[j]? with | some x, some y => ltB x y | _, _ => false
theorem lexAt_shift {z : Bool} : ∀ (k i : Nat) (e r e' r' : Nat → Bool), (∀ j, e' j = e (j + 1)) → (∀ j, r' j = r (j + 1)) → Ob.lexAt e r z (i + 1) k = Ob.lexAt e' r' z i k
  | 0, _, _, _, _, _, _, _ => rfl
  | k + 1, i, e, r, e', r', he, hr => by
    rw [Ob.lexAt_succ, Ob.lexAt_succ, lexAt_shift k (i + 1) e r e' r' he hr, he, hr]
theorem lexAt_lexB : ∀ xs ys : List DV, Ob.lexAt (eAt xs ys) (rAt xs ys) (decide (xs.length < ys.length)) 0 (min xs.length ys.length) = lexB xs ys
  | [], [] => rfl
  | [], _ :: _ => by simp [Ob.lexAt_zero, lexB]
  | _ :: _, [] => by simp [Ob.lexAt_zero, lexB]
  | x :: xs, y :: ys => by
    have h : min (x :: xs).length (y :: ys).length = min xs.length ys.length + 1 := by simp only [List.length_cons]; omega
    have hz : decide ((x :: xs).length < (y :: ys).length) = decide (xs.length < ys.length) := by simp
    rw [h, hz, Ob.lexAt_succ, lexAt_shift _ 0 (eAt (x :: xs) (y :: ys)) (rAt (x :: xs) (y :: ys)) (eAt xs ys) (rAt xs ys) (fun j => by simp [eAt]) (fun j => by simp [rAt]), lexAt_lexB xs ys]
    rfl
theorem cmpAll_at : ∀ {xs ys : List DV} {j : Nat} {x y : DV}, cmpAll xs ys = true → xs[j]? = some x → ys[j]? = some y → cmpB x y = true
  | [], _, j, _, _, _, h, _ => by simp at h
  | _ :: _, [], j, _, _, _, _, h => by simp at h
  | a :: xs, b :: ys, 0, x, y, c, h1, h2 => by
    simp at h1 h2
    subst h1 h2
    exact (Bool.and_eq_true_iff.mp c).1
  | a :: xs, b :: ys, j + 1, x, y, c, h1, h2 => cmpAll_at (j := j) (Bool.and_eq_true_iff.mp c).2 (by simpa using h1) (by simpa using h2)
def rLtTD (K : PySem.W.Frag) : R2 := fun x y H Q => ∃ a b xs ys dx dy, x = .ref a ∧ y = .ref b ∧ SqT K H a xs ∧ SqT K H b ys ∧ Iss K H xs dx ∧ Iss K H ys dy ∧ cmpAll dx dy = true ∧ Q (.bl (lexB dx dy)) H
theorem op_ltTD {X : Cx} (hu : X.A.units < cLine) : OpR X (compareOp .Lt) (rLtTD X.K) := by
  intro pins s σ H x y v u Q I rx ry h
  obtain ⟨a, b, xs, ys, dx, dy, rfl, rfl, ha, hb, i1, i2, c, q⟩ := h
  cases rx
  cases ry
  obtain ⟨its, r1, p1, _⟩ := I.tuple ha
  obtain ⟨its2, r2, p2, _⟩ := I.tuple hb
  have pick : ∀ {us : List Value} {zs : List V} {ds : List DV}, Vals zs us → Iss X.K H zs ds → ∀ (j : Nat) (h1 : j < us.toArray.size), ∃ z d, ds[j]? = some d ∧ Is X.K H z d ∧ RelV z us.toArray[j] := fun {us zs ds} r i j h1 => by
    have hl := r.length
    have hj : j < zs.length := by simp at h1; omega
    obtain ⟨u, e1, e2⟩ := r.get (List.getElem?_eq_getElem hj)
    obtain ⟨d, e3, e4⟩ := i.getV (List.getElem?_eq_getElem hj)
    refine ⟨_, d, e3, e4, ?_⟩
    have h2 : j < us.length := by simpa using h1
    rw [List.getElem?_eq_getElem h2] at e1
    cases e1
    simpa using e2
  have fl : ∀ {d e : DV}, cmpB d e = true → flatD d = true ∧ flatD e = true := fun {d e} h => by
    cases d <;> cases e <;> first | exact ⟨rfl, rfl⟩ | cases h
  have run := Ob.RcOp.tuples_lt (A := X.A) (e := eAt dx dy) (r := rAt dx dy) p1 p2 hu (fun j h1 h2 => by
    obtain ⟨z1, d1, e1, k1, t1⟩ := pick r1 i1 j h1
    obtain ⟨z2, d2, e2, k2, t2⟩ := pick r2 i2 j h2
    have cc := cmpAll_at c e1 e2
    have e : eAt dx dy j = eqV z1 z2 := by
      unfold eAt
      rw [e1, e2, eqV_of k1 k2 (fl cc).1 (fl cc).2]
    rw [e]
    exact eqAt_V t1 t2 (by rw [flat_of k1]; exact (fl cc).1) (by rw [flat_of k2]; exact (fl cc).2)) (fun j h1 h2 hne => by
    obtain ⟨z1, d1, e1, k1, t1⟩ := pick r1 i1 j h1
    obtain ⟨z2, d2, e2, k2, t2⟩ := pick r2 i2 j h2
    have cc := cmpAll_at c e1 e2
    have e : rAt dx dy j = ltB d1 d2 := by
      unfold rAt
      rw [e1, e2]
    rw [e]
    cases d1 with
    | int i => cases d2 with
      | int k =>
        cases k1
        cases k2
        obtain ⟨tk, q1⟩ := t1
        obtain ⟨tk', q2⟩ := t2
        rw [q1, q2]
        exact Ob.RcOp.lt_int _ _ _ _
      | _ => cases cc
    | str i => cases d2 with
      | str k =>
        cases k1
        cases k2
        obtain ⟨tk, q1⟩ := t1
        obtain ⟨tk', q2⟩ := t2
        rw [q1, q2]
        exact fun _ _ _ _ h => PyProof.Rows.lt_str h
      | _ => cases cc
    | _ => cases cc) X.prog X.w
  refine run _ _ ⟨.bl (lexB dx dy), H, I, ?_, q⟩
  have e1 : its.toArray.size = dx.length := by rw [List.size_toArray, ← r1.length, i1.length]
  have e2 : its2.toArray.size = dy.length := by rw [List.size_toArray, ← r2.length, i2.length]
  rw [e1, e2, lexAt_lexB]
  rfl
def wLtA : W2
  | .int i, .int j, μ, P => P (.bool (decide (i < j))) μ
  | .str s, .str t, μ, P => P (.bool (ltS s t)) μ
  | .tup xs, .tup ys, μ, P => cmpAll xs ys = true ∧ P (.bool (lexB xs ys)) μ
  | _, _, _, _ => False
section
variable {K : PySem.W.Frag} {X : Cx} {a b : Expr} {wa wb wc : WE} {pos : Pos}
def rLtA (K : PySem.W.Frag) : R2 := fun x y H Q => rOrd (fun i j => decide (i < j)) (fun s t => decide (s.cps.toList < t.cps.toList)) x y H Q ∨ rLtTD K x y H Q
theorem op_ltA (hu : X.A.units < cLine) : OpR X (compareOp .Lt) (rLtA X.K) := op_ltD.or (op_ltTD hu)
theorem ltA_rd : R2D K (rLtA K) wLtA := by
  intro R μ H x y dx dy P Q ok ix iy w k
  cases ix with
  | int i => cases iy with
    | int j => exact .inl (.inl ⟨i, j, rfl, rfl, k.val ok w (.bool _)⟩)
    | _ => exact (show False from w).elim
  | str i => cases iy with
    | str j => exact .inl (.inr ⟨i, j, rfl, rfl, k.val ok w (.bool _)⟩)
    | _ => exact (show False from w).elim
  | tup hx rx => cases iy with
    | tup hy ry => exact .inr ⟨_, _, _, _, _, _, rfl, rfl, Same.seqT hid_le hx.t, Same.seqT hid_le hy.t, rx.mono hid_le, ry.mono hid_le, w.1, k.val ok w.2 (.bool _)⟩
    | _ => exact (show False from w).elim
  | _ => exact (show False from w).elim

/-! ### comparisons as the text has them: c.. a value, t.. a test -/
theorem c_lt {k : Nat} (hr : Room k X.A) (ha : PE X a (tD X.K wa)) (hb : PE X b (tD X.K wb)) : PE X (.Compare a [.Lt] [b] pos) (tD X.K (wBin wLtA wa wb)) := d_cmp (op_ltA hr.units0) ltA_rd ha hb (nomark _)
theorem c_le (ha : PE X a (tD X.K wa)) (hb : PE X b (tD X.K wb)) : PE X (.Compare a [.LtE] [b] pos) (tD X.K (wBin wLe wa wb)) := d_cmp op_leD le_rd ha hb (nomark _)
theorem c_gt (ha : PE X a (tD X.K wa)) (hb : PE X b (tD X.K wb)) : PE X (.Compare a [.Gt] [b] pos) (tD X.K (wBin wGt wa wb)) := d_cmp op_gtD gt_rd ha hb (nomark _)
theorem c_ge (ha : PE X a (tD X.K wa)) (hb : PE X b (tD X.K wb)) : PE X (.Compare a [.GtE] [b] pos) (tD X.K (wBin wGe wa wb)) := d_cmp op_geD ge_rd ha hb (nomark _)
theorem c_eq {k : Nat} (hr : Room k X.A) (ha : PE X a (tD X.K wa)) (hb : PE X b (tD X.K wb)) : PE X (.Compare a [.Eq] [b] pos) (tD X.K (wBin wEqL wa wb)) := d_cmp (op_eqA hr.units) eq_rd ha hb (nomark _)
theorem c_ne {k : Nat} (hr : Room k X.A) (ha : PE X a (tD X.K wa)) (hb : PE X b (tD X.K wb)) : PE X (.Compare a [.NotEq] [b] pos) (tD X.K (wBin wNeL wa wb)) := d_cmp (op_neA hr.units) ne_rd ha hb (nomark _)
theorem c_is (ha : PE X a (tD X.K wa)) (hb : PE X b (tD X.K wb)) : PE X (.Compare a [.Is] [b] pos) (tD X.K (wBin wIsN wa wb)) := d_cmp op_isN isN_rd ha hb (nomark _)
theorem c_isnot (ha : PE X a (tD X.K wa)) (hb : PE X b (tD X.K wb)) : PE X (.Compare a [.IsNot] [b] pos) (tD X.K (wBin wNotN wa wb)) := d_cmp op_notN notN_rd ha hb (nomark _)
theorem c_in {k : Nat} (hr : Room k X.A) (ha : PE X a (tD X.K wa)) (hb : PE X b (tD X.K wb)) (hm : behindInMarks .In b = false) : PE X (.Compare a [.In] [b] pos) (tD X.K (wBin wIn wa wb)) := d_cmp (op_inA (by have := hr.un; omega)) in_rd ha hb hm
theorem c_notin {k : Nat} (hr : Room k X.A) (ha : PE X a (tD X.K wa)) (hb : PE X b (tD X.K wb)) (hm : behindInMarks .NotIn b = false) : PE X (.Compare a [.NotIn] [b] pos) (tD X.K (wBin wNotIn wa wb)) := d_cmp (op_notInA (by have := hr.un; omega)) notIn_rd ha hb hm
theorem t_lt {k : Nat} (hr : Room k X.A) (ha : PE X a (tD X.K wa)) (hb : PE X b (tD X.K wb)) : PT X (.Compare a [.Lt] [b] pos) (tDT X.K (wTest (wBin wLtA wa wb))) := dt_cmp (op_ltA hr.units0) ltA_rd ha hb (nomark _)
theorem t_le (ha : PE X a (tD X.K wa)) (hb : PE X b (tD X.K wb)) : PT X (.Compare a [.LtE] [b] pos) (tDT X.K (wTest (wBin wLe wa wb))) := dt_cmp op_leD le_rd ha hb (nomark _)
theorem t_gt (ha : PE X a (tD X.K wa)) (hb : PE X b (tD X.K wb)) : PT X (.Compare a [.Gt] [b] pos) (tDT X.K (wTest (wBin wGt wa wb))) := dt_cmp op_gtD gt_rd ha hb (nomark _)
theorem t_ge (ha : PE X a (tD X.K wa)) (hb : PE X b (tD X.K wb)) : PT X (.Compare a [.GtE] [b] pos) (tDT X.K (wTest (wBin wGe wa wb))) := dt_cmp op_geD ge_rd ha hb (nomark _)
theorem t_eq {k : Nat} (hr : Room k X.A) (ha : PE X a (tD X.K wa)) (hb : PE X b (tD X.K wb)) : PT X (.Compare a [.Eq] [b] pos) (tDT X.K (wTest (wBin wEqL wa wb))) := dt_cmp (op_eqA hr.units) eq_rd ha hb (nomark _)
theorem t_ne {k : Nat} (hr : Room k X.A) (ha : PE X a (tD X.K wa)) (hb : PE X b (tD X.K wb)) : PT X (.Compare a [.NotEq] [b] pos) (tDT X.K (wTest (wBin wNeL wa wb))) := dt_cmp (op_neA hr.units) ne_rd ha hb (nomark _)
theorem t_is (ha : PE X a (tD X.K wa)) (hb : PE X b (tD X.K wb)) : PT X (.Compare a [.Is] [b] pos) (tDT X.K (wTest (wBin wIsN wa wb))) := dt_cmp op_isN isN_rd ha hb (nomark _)
theorem t_isnot (ha : PE X a (tD X.K wa)) (hb : PE X b (tD X.K wb)) : PT X (.Compare a [.IsNot] [b] pos) (tDT X.K (wTest (wBin wNotN wa wb))) := dt_cmp op_notN notN_rd ha hb (nomark _)
theorem t_in {k : Nat} (hr : Room k X.A) (ha : PE X a (tD X.K wa)) (hb : PE X b (tD X.K wb)) (hm : behindInMarks .In b = false) : PT X (.Compare a [.In] [b] pos) (tDT X.K (wTest (wBin wIn wa wb))) := dt_cmp (op_inA (by have := hr.un; omega)) in_rd ha hb hm
theorem t_notin {k : Nat} (hr : Room k X.A) (ha : PE X a (tD X.K wa)) (hb : PE X b (tD X.K wb)) (hm : behindInMarks .NotIn b = false) : PT X (.Compare a [.NotIn] [b] pos) (tDT X.K (wTest (wBin wNotIn wa wb))) := dt_cmp (op_notInA (by have := hr.un; omega)) notIn_rd ha hb hm
end
end Dz

set_option Elab.async false
set_option linter.all false
set_option maxRecDepth 100000
set_option maxHeartbeats 4000000
/-! Dz7: lists and dicts that change. -/
namespace Dz
open PySem L2
section
variable {K : PySem.W.Frag} {R : Hp} {μ : Mh} {H : Hp} {p : Addr} {o : HO} {m0 m : MO}
/-- an object changes -/
theorem Ok.setM (k : Ok K R μ H) (h : μ p = some m0) (n0 : m0 ≠ .inner) (hok : MOk K (hid R μ H) (upd H p o) (updM μ p m) p m) : Ok K R (updM μ p m) (upd H p o) ∧ hid R (updM μ p m) (upd H p o) = hid R μ H := by
  have rn : R p = none := by
    cases e : R p with
    | none => rfl
    | some u => have := k.dj p u e; rw [h] at this; cases this
  have eh : hid R (updM μ p m) (upd H p o) = hid R μ H := by
    funext b
    by_cases z : b = p
    · subst z
      have h1 : ∀ (m : MO) (G : Hp) (μ : Mh), μ b = some m → hid R μ G b = none := fun m G μ e => by
        unfold hid
        rw [if_neg fun q => by rw [e] at q; exact Bool.false_ne_true q.2]
      rw [h1 m _ _ updM_same, h1 m0 _ _ h]
    · unfold hid
      rw [updM_ne z, upd_ne z]
  refine ⟨⟨fun a u e => ?_, fun a u e => ?_, fun a u e => ?_⟩, eh⟩
  · rw [upd_ne (fun z => by subst z; rw [rn] at e; cases e)]
    exact k.fr a u e
  · rw [updM_ne (fun z => by subst z; rw [rn] at e; cases e)]
    exact k.dj a u e
  · rw [eh]
    by_cases z : a = p
    · subst z
      rw [updM_same] at e
      cases e
      exact hok
    · rw [updM_ne z] at e
      refine (k.ob a u e).mono (Same.refl _) (upd_ne z) (fun b hb => ?_) e (fun b q => ?_)
      · rw [e] at hb
        cases u with
        | ext near φ =>
          obtain ⟨_, _, hn, _⟩ := k.ob a _ e
          refine upd_ne fun y => ?_
          subst y
          have := hn _ hb
          rw [h] at this
          cases this
          exact n0 rfl
        | _ => cases hb
      · rw [updM_ne fun y => ?_]
        · exact q
        · subst y
          rw [h] at q
          cases q
          exact n0 rfl
end
def valD (kvs : List (Key × DV)) (k : Key) : Option DV := (kvs.find? fun kv => decide (kv.1 = k)).map (·.2)
def putD (kvs : List (Key × DV)) (k : Key) (d : DV) : List (Key × DV) := if (kvs.any fun kv => decide (kv.1 = k)) = true then kvs.map (fun kv => if kv.1 = k then (kv.1, d) else kv) else kvs ++ [(k, d)]
def keyD : DV → Option Key
  | .int i => some (.inl i)
  | .str x => some (.inr x)
  | _ => none
theorem keyD_of {K : PySem.W.Frag} {H : Hp} {v : V} {d : DV} {k : Key} (i : Is K H v d) (h : keyD d = some k) : v = kV k := by
  cases i <;> first | (cases h; rfl) | cases h
section
variable {K : PySem.W.Frag} {H : Hp}
theorem Iss.val : ∀ {kvs : List (Key × V)} {ds : List (Key × DV)} {k : Key} {d : DV}, kvs.map (·.1) = ds.map (·.1) → Iss K H (kvs.map (·.2)) (ds.map (·.2)) → valD ds k = some d → ∃ v, valV kvs k = some v ∧ Is K H v d
  | [], [], _, _, _, _, h => by cases h
  | [], _ :: _, _, _, e, _, _ => by cases e
  | _ :: _, [], _, _, e, _, _ => by cases e
  | (a, v) :: kvs, (b, x) :: ds, k, d, e, r, h => by
    simp only [List.map_cons, List.cons.injEq] at e
    obtain ⟨rfl, e⟩ := e
    simp only [List.map_cons] at r
    cases r with
    | cons r1 r2 =>
      unfold valD at h
      unfold valV
      by_cases c : a = k
      · rw [List.find?_cons_of_pos (by simpa using c)] at h ⊢
        cases h
        exact ⟨v, rfl, r1⟩
      · rw [List.find?_cons_of_neg (by simpa using c)] at h ⊢
        exact Iss.val e r2 h
theorem Iss.put : ∀ {kvs : List (Key × V)} {ds : List (Key × DV)} {k : Key} {v : V} {d : DV}, kvs.map (·.1) = ds.map (·.1) → Iss K H (kvs.map (·.2)) (ds.map (·.2)) → Is K H v d → (putK kvs k v).map (·.1) = (putD ds k d).map (·.1) ∧ Iss K H ((putK kvs k v).map (·.2)) ((putD ds k d).map (·.2)) := by
  intro kvs ds k v d e r i
  have ha : (kvs.any fun kv => decide (kv.1 = k)) = (ds.any fun kv => decide (kv.1 = k)) := by
    have h1 : (kvs.any fun kv => decide (kv.1 = k)) = (kvs.map (·.1)).any fun a => decide (a = k) := by rw [List.any_map]; rfl
    have h2 : (ds.any fun kv => decide (kv.1 = k)) = (ds.map (·.1)).any fun a => decide (a = k) := by rw [List.any_map]; rfl
    rw [h1, h2, e]
  unfold putK putD
  rw [ha]
  by_cases c : (ds.any fun kv => decide (kv.1 = k)) = true
  · rw [if_pos c, if_pos c]
    clear ha c
    induction kvs generalizing ds with
    | nil => cases ds with
      | nil => exact ⟨rfl, .nil⟩
      | cons _ _ => cases e
    | cons a kvs ih => cases ds with
      | nil => cases e
      | cons b ds =>
        simp only [List.map_cons, List.cons.injEq] at e
        simp only [List.map_cons] at r
        cases r with
        | cons r1 r2 =>
          obtain ⟨h1, h2⟩ := ih e.2 r2
          simp only [List.map_cons]
          refine ⟨by rw [h1]; congr 1; rw [e.1]; split <;> first | rfl | exact e.1, .cons ?_ h2⟩
          rw [e.1]
          split
          · exact i
          · exact r1
  · rw [if_neg c, if_neg c]
    simp only [List.map_append, List.map_cons, List.map_nil]
    exact ⟨by rw [e], r.append (.cons i .nil)⟩
end
/-- d[k]: there -/
def wDGet : W2 := fun x y μ P => match x with
  | .obj a => match μ a with
    | some (.dct kvs) => atW (keyD y) fun k => atW (valD kvs k) fun d => P d μ
    | _ => False
  | .dct kvs => atW (keyD y) fun k => atW (valD kvs k) fun d => P d μ
  | _ => False
def wDPut (wd wk wv : WE) : WS := fun E ρ μ => wv ρ μ fun v μ1 => wd ρ μ1 fun x μ2 => wk ρ μ2 fun y μ3 => match x with
  | .obj a => match μ3 a with
    | some (.dct kvs) => atW (keyD y) fun k => kvs.length < sizeLine ∧ E.nx ρ (updM μ3 a (.dct (putD kvs k v)))
    | _ => False
  | _ => False
def wPop : W1 := fun x μ P => match x with
  | .obj a => match μ a with
    | some (.lst ds) => atW ds[ds.length - 1]? fun y => P y (updM μ a (.lst ds.dropLast))
    | _ => False
  | _ => False
/-- a list, as it stands when the receiver is asked -/
def isLstM (x : DV) (μ : Mh) : Prop := match x with
  | .obj a => match μ a with | some (.lst _) => True | _ => False
  | _ => False
def wApp (wo we : WE) : WE := fun ρ μ P => wo ρ μ fun x μ1 => isLstM x μ1 ∧ we ρ μ1 fun y μ2 => match x with
  | .obj a => match μ2 a with
    | some (.lst ds) => ds.length < sizeLine ∧ P .none (updM μ2 a (.lst (ds ++ [y])))
    | _ => False
  | _ => False
def extW (ds : List DV) (y : DV) (Q : List DV → Prop) : Prop := match y with
  | .lst es => ds.length + es.length ≤ sizeLine ∧ Q (ds ++ es)
  | _ => False
def wExt (wo we : WE) : WE := fun ρ μ P => wo ρ μ fun x μ1 => isLstM x μ1 ∧ we ρ μ1 fun y μ2 => match x with
  | .obj a => match μ2 a with
    | some (.lst ds) => extW ds y fun zs => P .none (updM μ2 a (.lst zs))
    | _ => False
  | _ => False
section
variable {X : Cx} {e ke ve oe : Expr} {pos apos : Pos} {w wd wk wv wo we : WE}
theorem dget_core {K : PySem.W.Frag} {R : Hp} {μ : Mh} {H : Hp} {v u : V} {x y : DV} {P : DV → Mh → Prop} (o : Ok K R μ H) (i : Is K (hid R μ H) v x) (j : Is K (hid R μ H) u y) (w : wDGet x y μ P) : ∃ a z d, v = .ref a ∧ DGet H a u (some z) ∧ Is K (hid R μ H) z d ∧ P d μ := by
  cases i with
  | obj a =>
    have w' : (match μ a with | some (.dct kvs) => atW (keyD y) fun k => atW (valD kvs k) fun d => P d μ | _ => False) := w
    split at w'
    · rename_i kvs e
      obtain ⟨k, h1, w2⟩ := atW_of w'
      obtain ⟨d, h2, w3⟩ := atW_of w2
      obtain ⟨ks, h3, h4, h5⟩ := o.ob a _ e
      obtain ⟨z, h6, h7⟩ := Iss.val h4 h5 h2
      exact ⟨a, z, d, rfl, by rw [keyD_of j h1, ← h6]; exact DGet.k h3, h7, w3⟩
    · exact w'.elim
  | dct h4 h5 h6 =>
    obtain ⟨k, h1, w2⟩ := atW_of (show atW (keyD y) _ from w)
    obtain ⟨d, h2, w3⟩ := atW_of w2
    obtain ⟨z, h7, h8⟩ := Iss.val h5 h6 h2
    exact ⟨_, z, d, rfl, by rw [keyD_of j h1, ← h7]; exact DGet.k (hid_le _ _ h4), h8, w3⟩
  | _ => exact (show False from w).elim
theorem d_dget {k : Nat} (hr : Room k X.A) (ho : PE X oe (tD X.K wo)) (hi : PE X ke (tD X.K wk)) (hs : NoSl ke := by exact fun _ _ => rfl) : PE X (.Subscript oe ke pos) (tD X.K (wBin wDGet wo wk)) :=
  PE.imp (pe_dget (by have := hr.un; omega) ho hi hs) fun σ H Q ⟨R, ρ, μ, P, a, w, k⟩ => ⟨R, ρ, μ, _, a, w, fun x μ1 v H1 p1 o1 s1 i1 => ⟨R, ρ, μ1, _, a.step o1 s1, p1, fun y μ2 u H2 p2 o2 s2 i2 => by
    obtain ⟨b, z, d, e, g, i3, p3⟩ := dget_core o2 (i1.mono s2) i2 p2
    exact ⟨b, z, e, g, (k.step (s1.trans s2)).val o2 p3 i3⟩⟩⟩
theorem ds_dput {k : Nat} {pos' : Pos} (hr : Room k X.A) (ho : PE X oe (tD X.K wd)) (hi : PE X ke (tD X.K wk)) (hv : PE X ve (tD X.K wv)) (hs : swapsWith ve (some (.Subscript oe ke pos')) pos.line X.env = pure false := by rfl) : PS X (.Assign [.Subscript oe ke pos'] ve pos) (tDS X.K (wDPut wd wk wv)) :=
  PS.imp (ps_dput (by have := hr.un; omega) ho hi hv hs) fun D σ H ⟨R, ρ, μ, E, a, w, k⟩ => ⟨R, ρ, μ, _, a, w, fun v μ1 vv H1 p1 o1 s1 i1 => ⟨R, ρ, μ1, _, a.step o1 s1, p1, fun x μ2 xv H2 p2 o2 s2 i2 => ⟨R, ρ, μ2, _, a.step o2 (s1.trans s2), p2, fun y μ3 yv H3 p3 o3 s3 i3 => by
    cases i2 with
    | obj b =>
      have p3' : (match μ3 b with | some (.dct kvs) => atW (keyD y) fun k => kvs.length < sizeLine ∧ E.nx ρ (updM μ3 b (.dct (putD kvs k v))) | _ => False) := p3
      split at p3'
      · rename_i kvs e
        obtain ⟨key, h1, hl, w3⟩ := atW_of p3'
        obtain ⟨ks, h3, h4, h5⟩ := o3.ob b _ e
        obtain ⟨h6, h7⟩ := Iss.put (k := key) h4 h5 (i1.mono (s2.trans s3))
        obtain ⟨o4, e4⟩ := o3.setM (o := .dK (putK ks key vv)) (m := .dct (putD kvs key v)) e (by intro z; cases z) ⟨_, upd_same, h6, h7⟩
        have hlen : ks.length = kvs.length := by have := congrArg List.length h4; simpa using this
        refine ⟨b, _, rfl, by rw [keyD_of i3 h1]; exact DPut.k h3 (by rw [hlen]; exact hl), k.nx ρ _ σ _ w3 ⟨o4, ?_⟩ ?_⟩
        · rw [e4]
          exact a.sl.mono ((s1.trans s2).trans s3)
        · rw [e4]
          exact (s1.trans s2).trans s3
      · exact p3'.elim
    | _ => exact (show False from p3).elim⟩⟩⟩
theorem d_pop (ho : PE X oe (tD X.K wo)) (hbase : attributeBase oe "pop" X.env (eval oe X.env) = eval oe X.env := by rfl) (hline : (apos.endLine == pos.line) = true := by rfl) : PE X (.Call (.Attribute oe "pop" apos) [] [] pos) (tD X.K (wUn wPop wo)) :=
  PE.imp (pe_bm0 PySem.F.plainAttrs_list PySem.F.slot_list_pop PySem.F.type_list_pop mt_pop ho hbase hline) fun σ H Q ⟨R, ρ, μ, P, a, w, k⟩ => ⟨R, ρ, μ, _, a, w, fun x μ1 v H1 p1 o1 s1 i1 => by
    cases i1 with
    | obj b =>
      have p1' : (match μ1 b with | some (.lst ds) => atW ds[ds.length - 1]? fun y => P y (updM μ1 b (.lst ds.dropLast)) | _ => False) := p1
      split at p1'
      · rename_i ds e
        obtain ⟨y, hy, w2⟩ := atW_of p1'
        obtain ⟨xs, h3, h4⟩ := o1.ob b _ e
        have hl := h4.length
        obtain ⟨z, h5, h6⟩ := h4.get hy
        have hd : Iss X.K (hid R μ1 H1) xs.dropLast ds.dropLast := by
          rw [List.dropLast_eq_take, List.dropLast_eq_take, hl]
          exact h4.take _
        obtain ⟨o4, e4⟩ := o1.setM (o := .lst xs.dropLast) (m := .lst ds.dropLast) e (by intro z; cases z) ⟨_, upd_same, hd⟩
        refine ⟨.inl ⟨rfl, _, SqL.of h3⟩, b, xs, z, rfl, rfl, h3, by rw [hl]; exact h5, k _ _ _ _ w2 o4 ?_ ?_⟩
        · rw [e4]; exact s1
        · rw [e4]; exact h6
      · exact p1'.elim
    | _ => exact (show False from p1).elim⟩
theorem isLstM_of {K : PySem.W.Frag} {R : Hp} {μ : Mh} {H : Hp} {v : V} {x : DV} (o : Ok K R μ H) (i : Is K (hid R μ H) v x) (h : isLstM x μ) : ∃ b, x = .obj b ∧ v = .ref b ∧ tyV K "list" v H := by
  cases i with
  | obj b =>
    have h' : (match μ b with | some (.lst _) => True | _ => False) := h
    split at h'
    · rename_i ds e
      obtain ⟨xs, h3, h4⟩ := o.ob b _ e
      exact ⟨b, rfl, rfl, .inl ⟨rfl, _, SqL.of h3⟩⟩
    · exact h'.elim
  | _ => exact (show False from h).elim
theorem d_append (ho : PE X oe (tD X.K wo)) (he : PE X e (tD X.K we)) (hs : starEach [e] X.env = [(false, eval e X.env)] := by rfl) (hbase : attributeBase oe "append" X.env (eval oe X.env) = eval oe X.env := by rfl)
    (hfew : ((backTo pos (starEach [e] X.env)).all (fun x => !x.1) && (backToKw pos (keywordEach [] X.env)).all (fun x => x.1.isSome) && decide (([e] : List Expr).length + ([] : List Keyword).length + (if ([] : List Keyword).isEmpty then 0 else 1) < 30)) = true := by rfl) (hline : (apos.endLine == pos.line) = true := by rfl) : PE X (.Call (.Attribute oe "append" apos) [e] [] pos) (tD X.K (wApp wo we)) :=
  PE.imp (pe_bm PySem.F.plainAttrs_list PySem.F.slot_list_append PySem.F.type_list_append mt_append ho (pa_cons he pa_nil hs) hbase hfew hline hs) fun σ H Q ⟨R, ρ, μ, P, a, w, k⟩ => ⟨R, ρ, μ, _, a, w, fun x μ1 v H1 p1 o1 s1 i1 => by
    obtain ⟨b, rfl, rfl, ht⟩ := isLstM_of o1 i1 p1.1
    refine ⟨ht, R, ρ, μ1, _, a.step o1 s1, p1.2, fun y μ2 u H2 p2 o2 s2 i2 => ?_⟩
    have p2' : (match μ2 b with | some (.lst ds) => ds.length < sizeLine ∧ P .none (updM μ2 b (.lst (ds ++ [y]))) | _ => False) := p2
    split at p2'
    · rename_i ds e
      obtain ⟨xs, h3, h4⟩ := o2.ob b _ e
      obtain ⟨o4, e4⟩ := o2.setM (o := .lst (xs ++ [u])) (m := .lst (ds ++ [y])) e (by intro z; cases z) ⟨_, upd_same, h4.append (.cons i2 .nil)⟩
      refine ⟨b, xs, u, rfl, rfl, h3, by rw [h4.length]; exact p2'.1, k _ _ _ _ p2'.2 o4 ?_ .none⟩
      rw [e4]
      exact s1.trans s2
    · exact p2'.elim⟩
theorem d_extend (ho : PE X oe (tD X.K wo)) (he : PE X e (tD X.K we)) (hs : starEach [e] X.env = [(false, eval e X.env)] := by rfl) (hbase : attributeBase oe "extend" X.env (eval oe X.env) = eval oe X.env := by rfl)
    (hfew : ((backTo pos (starEach [e] X.env)).all (fun x => !x.1) && (backToKw pos (keywordEach [] X.env)).all (fun x => x.1.isSome) && decide (([e] : List Expr).length + ([] : List Keyword).length + (if ([] : List Keyword).isEmpty then 0 else 1) < 30)) = true := by rfl) (hline : (apos.endLine == pos.line) = true := by rfl) : PE X (.Call (.Attribute oe "extend" apos) [e] [] pos) (tD X.K (wExt wo we)) :=
  PE.imp (pe_bm PySem.F.plainAttrs_list PySem.F.slot_list_extend PySem.F.type_list_extend mt_extend ho (pa_cons he pa_nil hs) hbase hfew hline hs) fun σ H Q ⟨R, ρ, μ, P, a, w, k⟩ => ⟨R, ρ, μ, _, a, w, fun x μ1 v H1 p1 o1 s1 i1 => by
    obtain ⟨b, rfl, rfl, ht⟩ := isLstM_of o1 i1 p1.1
    refine ⟨ht, R, ρ, μ1, _, a.step o1 s1, p1.2, fun y μ2 u H2 p2 o2 s2 i2 => ?_⟩
    have p2' : (match μ2 b with | some (.lst ds) => extW ds y fun zs => P .none (updM μ2 b (.lst zs)) | _ => False) := p2
    split at p2'
    · rename_i ds e
      obtain ⟨xs, h3, h4⟩ := o2.ob b _ e
      cases i2 with
      | lst h5 h6 =>
        obtain ⟨o4, e4⟩ := o2.setM (o := .lst (xs ++ _)) (m := .lst (ds ++ _)) e (by intro z; cases z) ⟨_, upd_same, h4.append h6⟩
        refine ⟨b, _, xs, _, rfl, rfl, h3, hid_le _ _ h5, by rw [h4.length, h6.length]; exact p2'.1, k _ _ _ _ p2'.2 o4 ?_ .none⟩
        rw [e4]
        exact s1.trans s2
      | _ => exact (show False from p2').elim
    · exact p2'.elim⟩
end
end Dz

set_option Elab.async false
set_option linter.all false
set_option maxRecDepth 100000
set_option maxHeartbeats 4000000
/-! Dz8: defs of the text by name: where they stand, and what they promise. -/
namespace Dz
open PySem L2

/-- a def of the text stands under its name -/
def At1 (K : PySem.W.Frag) (mg : Str → Option Value) (x : Str) (st : Stmt) : Prop := ∃ f fd, mg x = some (.ref f) ∧ Fun K x x st f fd
/-- .. and keeps a promise over data, by at most level k -/
def Def (P : Program) (w : World) (K : PySem.W.Frag) (mg : Str → Option Value) (base : Heap) (k : Nat) (x : Str) (st : Stmt) (ps : List Str) (wf : WF) : Prop :=
  ∃ f fd, mg x = some (.ref f) ∧ Fun K x x st f fd ∧ FnG P w K mg base k f fd ps (spD K ps.length wf)
theorem Def.mono {P : Program} {w : World} {K : PySem.W.Frag} {mg : Str → Option Value} {base : Heap} {j k : Nat} {x : Str} {st : Stmt} {ps : List Str} {wf : WF} (h : Def P w K mg base j x st ps wf) (l : j ≤ k) : Def P w K mg base k x st ps wf :=
  let ⟨f, fd, a, b, c⟩ := h; ⟨f, fd, a, b, c.mono l⟩
/-- never called -/
def wfNo : WF := fun _ _ _ => False
theorem Def.no {P : Program} {w : World} {K : PySem.W.Frag} {mg : Str → Option Value} {base : Heap} {k : Nat} {x : Str} {st : Stmt} {ps : List Str} (h : At1 K mg x st) : Def P w K mg base k x st ps wfNo := by
  obtain ⟨f, fd, a, b⟩ := h
  exact ⟨f, fd, a, b, fun vs H Q E ⟨_, _, _, _, _, _, _, z, _⟩ => z.elim, fun A fr s H ar us vs Q E _ _ _ _ _ ⟨_, _, _, _, _, _, _, z, _⟩ => z.elim⟩
theorem Def.imp {P : Program} {w : World} {K : PySem.W.Frag} {mg : Str → Option Value} {base : Heap} {k : Nat} {x : Str} {st : Stmt} {ps : List Str} {wf wf' : WF} (h : Def P w K mg base k x st ps wf) (i : ∀ ds μ Q, wf' ds μ Q → wf ds μ Q) : Def P w K mg base k x st ps wf' := by
  obtain ⟨f, fd, a, b, c⟩ := h
  refine ⟨f, fd, a, b, fun vs H Q E ⟨R, ds, μ, P', h1, h2, h3, h4, h5⟩ => c.len vs H Q E ⟨R, ds, μ, P', h1, h2, h3, i _ _ _ h4, h5⟩, fun A fr s H ar us vs Q E g r e bb v ⟨R, ds, μ, P', h1, h2, h3, h4, h5⟩ => c.run A fr s H ar us vs Q E g r e bb v ⟨R, ds, μ, P', h1, h2, h3, i _ _ _ h4, h5⟩⟩
/-- the rule for a def: its body's reading, and that the promise gives it -/
theorem def_of {P : Program} {w0 : World} {K : PySem.W.Frag} {mg : Str → Option Value} {base : Heap} {x : Str} {st : Stmt} {N ps : List Str} {k : Nat} {w : WS} {wf : WF} (h : At1 K mg x st) (S : FnScope N ps (defScope st))
    (hb : ∀ (f : Addr) (cdv : Value) (A : Around) (outer : List Env) (s : Shared) (H : Hp) (E : XK), A.guards = some [] → Room k (A.deeper (PyProof.Rows.envOfC x (defScope st) s.heap.objs.size f cdv)) →
      PSs (cxOf CX0 P w0 K mg base N x (defScope st) f cdv A outer s H E).nox (defBody st) (tDS K w))
    (hw : ∀ ds μ Q, ds.length = ps.length → wf ds μ Q → w { nx := fun _ μ' => Q .none μ', rt := Q } (ds.map some ++ List.replicate (N.length - ps.length) none) μ) : Def P w0 K mg base (k + 1) x st ps wf := by
  obtain ⟨f, fd, a, F⟩ := h
  exact ⟨f, fd, a, F, fn_dat F S rfl (hb f) hw⟩
section
variable {X : Cx} {k j n : Nat} {st : Stmt} {ps : List Str} {wf : WF} {x : Str} {p pos : Pos} {e : Expr} {es : List Expr} {wa wk : WA}
/-- f(e, ..): hb is «fun _ _ _ _ _ _ us hl => match us, hl with | [_, _], _ => rfl» -/
theorem d_f (D : Def X.prog X.w X.K X.mg X.base k x st ps wf) (hgd : X.A.guards = some []) (hr : Room j X.A) (hk : k ≤ j) (hg : Gl X x)
    (hb : ∀ (kV doc pm : Value) (an : Option Addr) (cdv ct : Value) (us : List Value), us.length = ps.length → bindArgs (PySem.W.fnOf x x (defArgs st) (defBody st) (defScope st) .none kV doc pm an cdv ct) ⟨us, []⟩ = pure (ps.zip us))
    (ha : PA X (e :: es) (tDA X.K wa)) (hd : (x == ("__debug__" : Str)) = false := by decide) (he : starEach (e :: es) X.env = (false, eval e X.env) :: starEach es X.env := by rfl) (hpl : (backTo pos (starEach es X.env)).any (·.1) = false := by rfl) (hn : ps.length = n := by rfl) :
    PE X (.Call (.Name x p) (e :: es) [] pos) (tD X.K (wCall n wf wa)) := by
  subst hn
  obtain ⟨f, fd, hm, F, G⟩ := D
  exact d_call G hgd (hr.mono hk) hg hm F.kp (F.binds hb) ha hd he hpl
theorem d_f0 (D : Def X.prog X.w X.K X.mg X.base k x st ps wf) (hgd : X.A.guards = some []) (hr : Room j X.A) (hk : k ≤ j) (hg : Gl X x)
    (hb : ∀ (kV doc pm : Value) (an : Option Addr) (cdv ct : Value) (us : List Value), us.length = ps.length → bindArgs (PySem.W.fnOf x x (defArgs st) (defBody st) (defScope st) .none kV doc pm an cdv ct) ⟨us, []⟩ = pure (ps.zip us)) (hd : (x == ("__debug__" : Str)) = false := by decide) (hn : ps.length = n := by rfl) :
    PE X (.Call (.Name x p) [] [] pos) (tD X.K (wCall n wf wNil)) := by
  subst hn
  obtain ⟨f, fd, hm, F, G⟩ := D
  exact d_call0 G hgd (hr.mono hk) hg hm F.kp (F.binds hb) hd
/-- keywords in another order -/
def perm {α : Type} (ix : List Nat) (l : List α) : List α := ix.filterMap fun i => l[i]?
theorem perm_vals {vs : List V} {us : List Value} (r : Vals vs us) : ∀ ix : List Nat, Vals (perm ix vs) (perm ix us)
  | [] => .nil
  | i :: ix => by
    have h := perm_vals r ix
    unfold perm at h ⊢
    rw [List.filterMap_cons, List.filterMap_cons]
    cases e : vs[i]? with
    | none =>
      rw [r.none_of e]
      exact h
    | some v =>
      obtain ⟨u, e2, ru⟩ := r.get e
      rw [e2]
      exact .cons ru h
theorem perm_iss {K : PySem.W.Frag} {H : Hp} {vs : List V} {ds : List DV} (r : Iss K H vs ds) : ∀ ix : List Nat, Iss K H (perm ix vs) (perm ix ds)
  | [] => .nil
  | i :: ix => by
    have h := perm_iss r ix
    unfold perm at h ⊢
    rw [List.filterMap_cons, List.filterMap_cons]
    cases e : ds[i]? with
    | none =>
      have : vs[i]? = none := by
        rw [List.getElem?_eq_none_iff] at e ⊢
        rw [r.length]
        exact e
      rw [this]
      exact h
    | some d =>
      obtain ⟨v, e2, rv⟩ := r.get e
      rw [e2]
      exact .cons rv h
def wCallP (n : Nat) (wf : WF) (ix : List Nat) (wk : WA) : WE := fun ρ μ P => wk ρ μ fun ds μ1 => (perm ix ds).length = n ∧ wf (perm ix ds) μ1 P
/-- f(k = e, ..), keywords alone; ix: which keyword stands at each parameter -/
theorem d_fK {ks : List Str} {kws : List Keyword} (ix : List Nat) (D : Def X.prog X.w X.K X.mg X.base k x st ps wf) (hgd : X.A.guards = some []) (hr : Room j X.A) (hk : k ≤ j) (hg : Gl X x)
    (hb : ∀ (kV doc pm : Value) (an : Option Addr) (cdv ct : Value) (ws : List Value), (perm ix ws).length = ps.length → bindArgs (PySem.W.fnOf x x (defArgs st) (defBody st) (defScope st) .none kV doc pm an cdv ct) ⟨[], ks.zip ws⟩ = pure (ps.zip (perm ix ws)))
    (hkw : PK X kws (tDA X.K wk)) (hall : (backToKw pos (keywordEach kws X.env)).all (·.1.isSome) = true := by rfl) (hks : (backToKw pos (keywordEach kws X.env)).filterMap (·.1) = ks := by rfl) (hdb : (x == ("__debug__" : Str)) = false := by decide)
    (hpl : ((backTo pos (starEach [] X.env)).any (·.1) || (backToKw pos (keywordEach kws X.env)).any (·.1.isNone)) = false := by rfl) (hn : ps.length = n := by rfl) : PE X (.Call (.Name x p) [] kws pos) (tD X.K (wCallP n wf ix wk)) := by
  subst hn
  obtain ⟨f, fd, hm, F, G⟩ := D
  obtain ⟨oc, od, kV, doc, pm, an, cdv, ct, osl, efd, lk, hcd⟩ := F.ex
  refine ⟨fun pins s σ H Q I h => ?_⟩
  obtain ⟨R, ρ, μ, P, a, w, kk⟩ := h
  refine wpAny_Call_Name_kw (ld_glob I hg hm (PySem.W.callWith_KW0 (h₀ := X.base) I.ok.mod.kin F.kp hall (thn (hkw.run pos pins s σ H (fun vs H' => spD X.K ps.length wf (perm ix vs) H' Q E0) I ⟨R, ρ, μ, _, a, w, fun ds μ1 vs H1 p1 o1 s1 i1 =>
    ⟨R, perm ix ds, μ1, P, o1, perm_iss i1 ix, p1.1, p1.2, kk.step s1⟩⟩) fun us s2 ⟨zs, H2, I2, rz, q2⟩ => ⟨I2.kIn, ?_⟩) hpl) hdb)
  rw [hks]
  have rr : Vals (perm ix zs) (perm ix us) := perm_vals rz ix
  refine runG (ar := ⟨[], ks.zip us⟩) G hgd (hr.mono hk) I2 ?_ rr q2
  rw [efd]
  exact .of_eq (hb kV doc pm an cdv ct us (by rw [← rr.length]; exact G.len _ _ _ _ q2))
end
end Dz

set_option Elab.async false
set_option linter.all false
set_option maxRecDepth 100000
set_option maxHeartbeats 4000000
/-! Dz9: xs[::-1]; dicts written with many pairs; new objects out of things set aside. -/
namespace Dz
open PySem L2
section
variable {K : PySem.W.Frag} {R : Hp} {μ : Mh} {H : Hp} {p : Addr} {o o' : HO} {m : MO}
/-- what was set aside becomes an object that may change -/
theorem Ok.promote (k : Ok K (upd R p o) μ H) (rn : R p = none) (hm : MOk K (hid (upd R p o) μ H) (upd H p o') (updM μ p m) p m) : Ok K R (updM μ p m) (upd H p o') ∧ hid R (updM μ p m) (upd H p o') = hid (upd R p o) μ H := by
  have mn : μ p = none := k.dj p o upd_same
  have eh : hid R (updM μ p m) (upd H p o') = hid (upd R p o) μ H := by
    funext b
    by_cases z : b = p
    · subst z
      have h1 : hid R (updM μ b m) (upd H b o') b = none := by
        unfold hid
        rw [if_neg fun q => by rw [updM_same] at q; exact Bool.false_ne_true q.2]
      have h2 : hid (upd R b o) μ H b = none := by
        unfold hid
        rw [if_neg fun q => by rw [upd_same] at q; exact Bool.false_ne_true q.1]
      rw [h1, h2]
    · unfold hid
      rw [updM_ne z, upd_ne z, upd_ne z]
  refine ⟨⟨fun a u e => ?_, fun a u e => ?_, fun a u e => ?_⟩, eh⟩
  · have z : a ≠ p := fun z => by subst z; rw [rn] at e; cases e
    rw [upd_ne z]
    exact k.fr a u (by rw [upd_ne z]; exact e)
  · have z : a ≠ p := fun z => by subst z; rw [rn] at e; cases e
    rw [updM_ne z]
    exact k.dj a u (by rw [upd_ne z]; exact e)
  · rw [eh]
    by_cases z : a = p
    · subst z
      rw [updM_same] at e
      cases e
      exact hm
    · rw [updM_ne z] at e
      refine (k.ob a u e).mono (Same.refl _) (upd_ne z) (fun b hb => ?_) e (fun b q => ?_)
      · rw [e] at hb
        cases u with
        | ext near φ =>
          obtain ⟨_, _, hn, _⟩ := k.ob a _ e
          refine upd_ne fun y => ?_
          subst y
          have := hn _ hb
          rw [mn] at this
          cases this
        | _ => cases hb
      · rw [updM_ne fun y => by subst y; rw [mn] at q; cases q]
        exact q
end
/-! ### pairs -/
abbrev trsD (K : PySem.W.Frag) (ws : List (Key × WE)) : List (TE × TE) := ws.map fun kw => (tC (kV kw.1), tD K kw.2)
theorem pairs_imp {K : PySem.W.Frag} {R : Hp} {σ : St} {ρ : Rho} : ∀ (ws : List (Key × WE)) {μ : Mh} {H : Hp} {P : List (Key × DV) → Mh → Prop} {Q : List (V × V) → Hp → Prop}, At K R σ ρ μ H → wPairs ws ρ μ P →
    (∀ (ds : List (Key × DV)) μ' (kvs : List (Key × V)) H', P ds μ' → Ok K R μ' H' → Same (hid R μ H) (hid R μ' H') → kvs.map (·.1) = ws.map (·.1) → kvs.map (·.1) = ds.map (·.1) → Iss K (hid R μ' H') (kvs.map (·.2)) (ds.map (·.2)) → Q (kvs.map fun kv => (kV kv.1, kv.2)) H') → tPairs (trsD K ws) σ H Q
  | [], μ, H, P, Q, a, w, k => k [] μ [] H w a.ok (Same.refl _) rfl rfl .nil
  | (key, w1) :: ws, μ, H, P, Q, a, w, k => by
    show tD K w1 σ H _
    exact ⟨R, ρ, μ, _, a, w, fun d μ1 v H1 p1 o1 s1 i1 => pairs_imp ws (a.step o1 s1) p1 fun ds μ2 kvs H2 p2 o2 s2 e1 e2 i2 =>
      k ((key, d) :: ds) μ2 ((key, v) :: kvs) H2 p2 o2 (s1.trans s2) (by rw [List.map_cons, List.map_cons, e1]) (by rw [List.map_cons, List.map_cons, e2]) (.cons (i1.mono s2) i2)⟩
theorem putK_new {kvs : List (Key × V)} {k : Key} {v : V} (h : k ∉ kvs.map (·.1)) : putK kvs k v = kvs ++ [(k, v)] := by
  unfold putK
  rw [if_neg]
  intro z
  rw [List.any_eq_true] at z
  obtain ⟨x, hx, e⟩ := z
  exact h (List.mem_map.mpr ⟨x, hx, of_decide_eq_true e⟩)
theorem mergeK_new : ∀ (more acc : List (Key × V)), ((acc ++ more).map (·.1)).Nodup → mergeK acc more = acc ++ more
  | [], acc, _ => by rw [List.append_nil]; rfl
  | p :: r, acc, h => by
    show mergeK (putK acc p.1 p.2) r = _
    have h' := h
    rw [List.map_append, List.map_cons, List.nodup_append] at h'
    rw [putK_new (fun z => h'.2.2 _ z _ List.mem_cons_self rfl)]
    have e : acc ++ [(p.1, p.2)] ++ r = acc ++ p :: r := by simp
    rw [mergeK_new r _ (by rw [e]; exact h), e]
section
variable {X : Cx} {pos : Pos} {keys : List (Option Expr)} {values : List Expr}
/-- {k: v, ..}, read alone -/
theorem d_dctN (ws : List (Key × WE)) (h : PPs X pos keys values (trsD X.K ws)) (hall : keys.all (·.isSome) = true := by rfl) (hl : keys.length = values.length := by rfl) (h0 : keys ≠ [] := by intro z; cases z)
    (h15 : keys.length ≤ 15 := by decide) (hw : ws.length ≤ 15 := by decide) (hn : (ws.map (·.1)).Nodup := by decide) : PE X (.Dict keys values pos) (tD X.K (wDct ws)) :=
  PE.imp (pe_disp h hall hl h0 h15) fun σ H Q ⟨R, ρ, μ, P, a, w, k⟩ => fun p n => by
    obtain ⟨o1, e1⟩ := a.ok.frame (o := .dK []) n
    refine pairs_imp ws ⟨o1, by rw [e1]; exact a.sl⟩ w fun ds μ1 kvs H1 p1 o2 s2 e2 e3 i2 => ⟨o2.fr p _ upd_same, kvs, rfl, ?_, ?_⟩
    · have := congrArg List.length e2
      rw [List.length_map, List.length_map] at this
      omega
    have rn := a.ok.freeR n
    rw [e1] at s2
    rw [mergeK_new _ _ (by rw [List.nil_append, e2]; exact hn), List.nil_append]
    obtain ⟨o3, e4⟩ := o2.reframe (o' := .dK kvs)
    obtain ⟨o4, s4, h4⟩ := o3.unframe rn
    rw [e4] at s4
    exact k _ μ1 _ _ p1 o4 (s2.trans s4) (.dct h4 e3 (i2.mono s4))
/-- {k: v, ..} that will change -/
def wDctM (ws : List (Key × WE)) : WE := fun ρ μ P => wPairs ws ρ μ fun ds μ1 => ∀ p, μ1 p = none → P (.obj p) (updM μ1 p (.dct ds))
theorem d_dctM (ws : List (Key × WE)) (h : PPs X pos keys values (trsD X.K ws)) (hall : keys.all (·.isSome) = true := by rfl) (hl : keys.length = values.length := by rfl) (h0 : keys ≠ [] := by intro z; cases z)
    (h15 : keys.length ≤ 15 := by decide) (hw : ws.length ≤ 15 := by decide) (hn : (ws.map (·.1)).Nodup := by decide) : PE X (.Dict keys values pos) (tD X.K (wDctM ws)) :=
  PE.imp (pe_disp h hall hl h0 h15) fun σ H Q ⟨R, ρ, μ, P, a, w, k⟩ => fun p n => by
    obtain ⟨o1, e1⟩ := a.ok.frame (o := .dK []) n
    refine pairs_imp ws ⟨o1, by rw [e1]; exact a.sl⟩ w fun ds μ1 kvs H1 p1 o2 s2 e2 e3 i2 => ⟨o2.fr p _ upd_same, kvs, rfl, ?_, ?_⟩
    · have := congrArg List.length e2
      rw [List.length_map, List.length_map] at this
      omega
    have rn := a.ok.freeR n
    rw [e1] at s2
    rw [mergeK_new _ _ (by rw [List.nil_append, e2]; exact hn), List.nil_append]
    obtain ⟨o3, e4⟩ := o2.promote (o' := .dK kvs) (m := .dct ds) rn ⟨kvs, upd_same, e3, i2⟩
    refine k _ _ _ _ (p1 p (o2.dj p _ upd_same)) o3 ?_ (.obj p)
    rw [e4]
    exact s2
/-! ### xs[::-1] -/
def wRev (w : WE) : WE := fun ρ μ P => w ρ μ fun d μ1 => match d with
  | .lst ds => P (.lst ds.reverse) μ1
  | .fix ds => P (.lst ds.reverse) μ1
  | _ => False
def wRevM (w : WE) : WE := fun ρ μ P => w ρ μ fun d μ1 => match d with
  | .lst ds => ∀ p, μ1 p = none → P (.obj p) (updM μ1 p (.lst ds.reverse))
  | .fix ds => ∀ p, μ1 p = none → P (.obj p) (updM μ1 p (.lst ds.reverse))
  | _ => False
variable {e : Expr} {w : WE} {k1 : Nat} {p1 p2 p3 : Pos}
theorem d_rev (he : PE X e (tD X.K w)) : PE X (.Subscript e (.Slice none none (some (.UnaryOp .USub (.Constant (.int 1) k1 p1) p2)) p3) pos) (tD X.K (wRev w)) :=
  PE.imp (pe_revL he) fun σ H Q ⟨R, ρ, μ, P, a, w, k⟩ => ⟨R, ρ, μ, _, a, w, fun d μ1 v H1 p1 o1 s1 i1 => by
    cases i1 with
    | lst hx rx => exact ⟨_, _, rfl, SqL.of (hid_le _ _ hx), fun p n => (k.step s1).lst o1 p1 rx.reverse n⟩
    | fix hx rx => exact ⟨_, _, rfl, hid_le.seq hx, fun p n => (k.step s1).lst o1 p1 rx.reverse n⟩
    | _ => exact (show False from p1).elim⟩
theorem d_revM (he : PE X e (tD X.K w)) : PE X (.Subscript e (.Slice none none (some (.UnaryOp .USub (.Constant (.int 1) k1 p1) p2)) p3) pos) (tD X.K (wRevM w)) :=
  PE.imp (pe_revL he) fun σ H Q ⟨R, ρ, μ, P, a, w, k⟩ => ⟨R, ρ, μ, _, a, w, fun d μ1 v H1 p1 o1 s1 i1 => by
    have go : ∀ (b : Addr) (xs : List V) (ds : List DV), SqL X.K H1 b xs → Iss X.K (hid R μ1 H1) xs ds → (∀ p, μ1 p = none → P (.obj p) (updM μ1 p (.lst ds.reverse))) → ∃ a xs, V.ref b = .ref a ∧ SqL X.K H1 a xs ∧ ∀ p, H1 p = none → Q (.ref p) (upd H1 p (.lst xs.reverse)) := fun b xs ds hx rx q =>
      ⟨b, xs, rfl, hx, fun p n => by
        have fm := o1.freeM n
        have hs : Same (hid R μ1 H1) (hid R (updM μ1 p (.lst ds.reverse)) (upd H1 p (.lst xs.reverse))) := fun b u e => by
          obtain ⟨e1, e2, e3⟩ := hid_some e
          have ne := ne_of_none e3 n
          rw [hid_at e1 (by rw [updM_ne ne]; exact e2), upd_ne ne]
          exact e3
        obtain ⟨o2, s2⟩ := o1.newM (o := .lst xs.reverse) (m := .lst ds.reverse) n ⟨_, upd_same, rx.reverse.mono hs⟩ (by intro z; cases z)
        exact (k.step s1) _ _ _ _ (q p fm) o2 s2 (.obj p)⟩
    cases i1 with
    | lst hx rx => exact go _ _ _ (SqL.of (hid_le _ _ hx)) rx p1
    | fix hx rx => exact go _ _ _ (hid_le.seq hx) rx p1
    | _ => exact (show False from p1).elim⟩
end
end Dz

set_option Elab.async false
set_option linter.all false
set_option maxRecDepth 100000
set_option maxHeartbeats 2000000
/-! DzD: the deck that the laws draw from: each draw is some number below what is asked. -/
namespace Dz
open PySem L2

/-- a deck that stands at a, its cells at c, good for m draws -/
structure HasDeck (nm : Str) (μ : Mh) (a c : Addr) (m : Nat) : Prop where
  ne : c ≠ a
  ex : ∃ (t n : Int) (cells : List Int), μ a = some (.dct [(.inr "cells", .obj c), (.inr nm, .int t), (.inr "draws", .int n)]) ∧ μ c = some (.lst (cells.map .int)) ∧ 0 ≤ t ∧ t < 2 ^ 32 ∧ 0 ≤ n ∧ n + m ≤ 2 ^ 40 ∧ cells.length ≤ 63
theorem HasDeck.le {nm : Str} {μ : Mh} {a c : Addr} {m m' : Nat} (h : HasDeck nm μ a c m) (l : m' ≤ m) : HasDeck nm μ a c m' := by
  obtain ⟨ne, t, n, cs, h1, h2, h3, h4, h5, h6, h7⟩ := h
  exact ⟨ne, t, n, cs, h1, h2, h3, h4, h5, by omega, h7⟩
theorem HasDeck.keep {nm : Str} {μ μ' : Mh} {a c : Addr} {m : Nat} (h : HasDeck nm μ a c m) (h1 : μ' a = μ a) (h2 : μ' c = μ c) : HasDeck nm μ' a c m := by
  obtain ⟨ne, t, n, cs, e1, e2, r⟩ := h
  exact ⟨ne, t, n, cs, h1.trans e1, h2.trans e2, r⟩
theorem HasDeck.isSome {nm : Str} {μ : Mh} {a c : Addr} {m : Nat} (h : HasDeck nm μ a c m) : (∃ o, μ a = some o) ∧ ∃ o, μ c = some o := by
  obtain ⟨ne, t, n, cs, e1, e2, r⟩ := h
  exact ⟨⟨_, e1⟩, ⟨_, e2⟩⟩
def OnlyDeck (μ μ' : Mh) (a c : Addr) : Prop := ∀ b, b ≠ a → b ≠ c → μ' b = μ b
theorem OnlyDeck.refl {μ : Mh} {a c : Addr} : OnlyDeck μ μ a c := fun _ _ _ => rfl
theorem OnlyDeck.trans {μ μ' μ'' : Mh} {a c : Addr} (h : OnlyDeck μ μ' a c) (h' : OnlyDeck μ' μ'' a c) : OnlyDeck μ μ'' a c := fun b x y => (h' b x y).trans (h b x y)
/-- a draw below many -/
def wfDraw (nm : Str) : WF := fun ds μ Q => ∃ a c m many, ds = [.obj a, .int many] ∧ 0 < many ∧ many < 2 ^ 64 ∧ HasDeck nm μ a c (m + 1) ∧ ∀ r μ', 0 ≤ r → r < many → HasDeck nm μ' a c m → OnlyDeck μ μ' a c → Q (.int r) μ'

abbrev sm (x : Int) : Prop := 0 < x ∧ x < 2 ^ 32
theorem cm_r {i j : Int} (h : sm j) : CMul i j := by unfold sm at h; right; omega
theorem cm_l {i j : Int} (h : sm i) : CMul i j := by unfold sm at h; left; omega
theorem cpow_ten {j : Int} (h : 0 ≤ j) (h' : j ≤ 1000) : CPow 10 j := ⟨h, by omega, by decide⟩

section
variable {μ : Mh} {a : Addr} {kvs : List (Key × DV)} {y d v : DV} {k : Key} {P : DV → Mh → Prop}
theorem dget_o (h : μ a = some (.dct kvs)) (hk : keyD y = some k) (hv : valD kvs k = some d) (q : P d μ) : wDGet (.obj a) y μ P := by
  unfold wDGet
  simp only [h, hk, hv, atW]
  exact q
theorem dput_o {E : DEnds} {ρ : Rho} {i j : Nat} (h : μ a = some (.dct kvs)) (hk : keyD y = some k) (l : kvs.length < sizeLine) (h1 : ρ[i]? = some (some (.obj a))) (h2 : ρ[j]? = some (some v)) (q : E.nx ρ (updM μ a (.dct (putD kvs k v)))) : wDPut (wVar i) (wC y) (wVar j) E ρ μ := by
  unfold wDPut wVar wC
  simp only [h, h1, h2, hk, atW]
  exact ⟨l, q⟩
theorem neL_o {ds : List DV} {es : List DV} (h : μ a = some (.lst ds)) (h1 : shapedD (.lst ds) = true) (h2 : shapedD (.lst es) = true) (q : P (.bool (!deepEq (.lst ds) (.lst es))) μ) : wNeL (.obj a) (.lst es) μ P := by
  show notB wEqL _ _ _ _
  unfold notB wEqL look lookO
  simp only [h]
  exact ⟨h1, h2, q⟩
theorem pop_o {ds : List DV} (h : μ a = some (.lst ds)) (hy : ds[ds.length - 1]? = some y) (q : P y (updM μ a (.lst ds.dropLast))) : wPop (.obj a) μ P := by
  unfold wPop
  simp only [h, hy, atW]
  exact q
end
def wDraw (A B C D E F G I J L M : Int) : WS :=
  (wSeq (wPar 2 3 (wCons (wBin wAdd (wBin wDGet (wVar 0) (wC (.str "draws"))) (wC (.int 1))) (wCons (wBin wDGet (wVar 0) (wC (.str "total"))) wNil)))
    (wSeq (wDPut (wVar 0) (wC (.str "draws")) (wVar 2))
    (wSeq (wIfS (wTest (wBin wNeL (wBin wDGet (wVar 0) (wC (.str "cells"))) (wLst wNil))) (wSeq (wAsg (wUn wPop (wBin wDGet (wVar 0) (wC (.str "cells")))) (wgName 3))
    (wSeq (wIfS (wTest (wBin wGe (wVar 3) (wBin wPow (wC (.int 10)) (wC (.int 18))))) (wSeq (wDrop (wApp (wBin wDGet (wVar 0) (wC (.str "cells"))) (wBin wDiv (wVar 3) (wVar 1))))
    (wRet (wBin wMod (wVar 3) (wVar 1)))) wNext)
    (wAsg (wBin wAdd (wVar 3) (wBin wDGet (wVar 0) (wC (.str "total")))) (wgName 3)))) wNext)
    (wSeq (wAsg (wBin wMod (wBin wMul (wBin wAdd (wBin wAdd (wBin wMod (wVar 3) (wC (.int A))) (wBin wMul (wBin wMul (wC (.int B)) (wVar 2)) (wVar 2))) (wC (.int C))) (wC (.int D))) (wC (.int E))) (wgName 4))
    (wSeq (wAsg (wBin wMod (wBin wAdd (wBin wAdd (wBin wMul (wVar 4) (wVar 4)) (wBin wMul (wC (.int F)) (wVar 2))) (wC (.int G))) (wC (.int I))) (wgName 4))
    (wRet (wBin wMod (wBin wDiv (wBin wMod (wBin wMul (wVar 4) (wC (.int J))) (wC (.int L))) (wC (.int M))) (wVar 1))))))))

theorem canLay_ints : ∀ ns : List Int, PyData.canLayAll0 (toPys (ns.map DV.int)) = true
  | [] => rfl
  | n :: ns => canLay_ints ns
theorem depth_ints : ∀ ns : List Int, PyData.depthAll (toPys (ns.map DV.int)) = 0
  | [] => rfl
  | n :: ns => by
    show max 0 _ = 0
    rw [depth_ints ns]
    rfl
theorem noObjs_ints : ∀ ns : List Int, noObjs (ns.map DV.int) = true
  | [] => rfl
  | n :: ns => noObjs_ints ns
theorem shaped_ints (ns : List Int) : shapedD (.lst (ns.map .int)) = true := by
  have h1 := canLay_ints ns
  have h2 := depth_ints ns
  have h3 := noObjs_ints ns
  show (noObjs (ns.map .int) && (PyData.canLayAll0 (toPys (ns.map .int)) && decide (PyData.depthAll (toPys (ns.map .int)) + 1 ≤ 64))) = true
  rw [h1, h2, h3]
  rfl
/-- the last three rows -/
theorem draw_tail {A B C D E F G I J L M many turn cell : Int} {dk : DV} {μ : Mh} {EE : DEnds} {z : Option DV} (hA : sm A) (hB : sm B) (hD : sm D) (hE : sm E) (hF : sm F) (hI : sm I) (hJ : sm J) (hL : sm L) (hM : sm M) (h1 : 0 ≤ turn) (h2 : turn < 2 ^ 41) (hm : 0 < many)
    (q : ∀ r, 0 ≤ r → r < many → EE.rt (.int r) μ) :
    (wSeq (wAsg (wBin wMod (wBin wMul (wBin wAdd (wBin wAdd (wBin wMod (wVar 3) (wC (.int A))) (wBin wMul (wBin wMul (wC (.int B)) (wVar 2)) (wVar 2))) (wC (.int C))) (wC (.int D))) (wC (.int E))) (wgName 4))
    (wSeq (wAsg (wBin wMod (wBin wAdd (wBin wAdd (wBin wMul (wVar 4) (wVar 4)) (wBin wMul (wC (.int F)) (wVar 2))) (wC (.int G))) (wC (.int I))) (wgName 4))
    (wRet (wBin wMod (wBin wDiv (wBin wMod (wBin wMul (wVar 4) (wC (.int J))) (wC (.int L))) (wC (.int M))) (wVar 1))))) EE [some dk, some (.int many), some (.int turn), some (.int cell), z] μ := by
  have b1 : ∀ x : Int, CMul x turn := fun x => by right; omega
  have bE : ∀ x : Int, CMul (x % E) (x % E) := fun x => by
    left
    have p1 := Int.emod_nonneg x (show E ≠ 0 by omega)
    have p2 := Int.emod_lt_of_pos x hE.1
    omega
  have dM : ∀ x : Int, CDivW x M := fun x => ⟨hM.1, by
    have : M.natAbs < 2 ^ 32 := by omega
    have := (Nat.log2_lt (n := M.natAbs) (k := 9000) (by omega)).mpr (Nat.lt_of_lt_of_le this (Nat.pow_le_pow_right (by decide) (by decide)))
    exact this⟩
  refine ⟨hA.1, cm_l hB, b1 _, cm_r hD, hE.1, bE _, cm_l hF, hI.1, cm_r hJ, hL.1, dM _, hm, q _ (Int.emod_nonneg _ (by omega)) (Int.emod_lt_of_pos _ hm)⟩
theorem draw_ok {A B C D E F G I J L M : Int} (hA : sm A) (hB : sm B) (hD : sm D) (hE : sm E) (hF : sm F) (hI : sm I) (hJ : sm J) (hL : sm L) (hM : sm M) (ds : List DV) (μ : Mh) (Q : DV → Mh → Prop) (hl : ds.length = 2) (h : wfDraw "total" ds μ Q) :
    wDraw A B C D E F G I J L M { nx := fun _ μ' => Q .none μ', rt := Q } (ds.map some ++ List.replicate 3 none) μ := by
  obtain ⟨a, c, m, many, rfl, h0, h64, ⟨ne, t, n, cells, ha, hc, t0, t1, n0, n1, cl⟩, q⟩ := h
  have na : a ≠ c := fun z => ne z.symm
  let μ1 : Mh := updM μ a (.dct [(.inr "cells", .obj c), (.inr "total", .int t), (.inr "draws", .int (n + 1))])
  have ha1 : μ1 a = some (.dct [(.inr "cells", .obj c), (.inr "total", .int t), (.inr "draws", .int (n + 1))]) := updM_same
  have hc1 : μ1 c = some (.lst (cells.map .int)) := (updM_ne ne).trans hc
  have hm1 : CDivW 0 many → True := fun _ => trivial
  have dm : ∀ x : Int, CDivW x many := fun x => ⟨h0, by
    have : many.natAbs < 2 ^ 64 := by omega
    exact (Nat.log2_lt (n := many.natAbs) (k := 9000) (by omega)).mpr (Nat.lt_of_lt_of_le this (Nat.pow_le_pow_right (by decide) (by decide)))⟩
  have fin : ∀ (μ2 : Mh) (cs : List Int), μ2 a = μ1 a → μ2 c = some (.lst (cs.map .int)) → cs.length ≤ 63 → (∀ b, b ≠ a → b ≠ c → μ2 b = μ b) → ∀ r, 0 ≤ r → r < many → Q (.int r) μ2 := fun μ2 cs e1 e2 e3 e4 r r0 r1 =>
    q r μ2 r0 r1 ⟨ne, t, n + 1, cs, e1.trans ha1, e2, t0, t1, by omega, by omega, e3⟩ e4
  have v1 : ∀ x : Int, valD [(.inr "cells", .obj c), (.inr "total", .int t), (.inr "draws", .int x)] (.inr "cells") = some (.obj c) := fun _ => rfl
  have v2 : ∀ x : Int, valD [(.inr "cells", .obj c), (.inr "total", .int t), (.inr "draws", .int x)] (.inr "total") = some (.int t) := fun _ => rfl
  have v3 : ∀ x : Int, valD [(.inr "cells", .obj c), (.inr "total", .int t), (.inr "draws", .int x)] (.inr "draws") = some (.int x) := fun _ => rfl
  have v4 : putD [(.inr "cells", .obj c), (.inr "total", .int t), (.inr "draws", .int n)] (.inr "draws") (.int (n + 1)) = [(.inr "cells", .obj c), (.inr "total", .int t), (.inr "draws", .int (n + 1))] := rfl
  unfold wDraw
  have G1 := @dget_o
  have G2 := @dput_o
  have G3 := @neL_o
  have G4 := @pop_o
  generalize wDGet = g1 at G1 ⊢
  generalize wDPut = g2 at G2 ⊢
  generalize wNeL = g3 at G3 ⊢
  generalize wPop = g4 at G4 ⊢
  refine G1 (y := .str "draws") ha rfl (v3 n) ?_
  refine G1 (y := .str "total") ha rfl (v2 n) ?_
  refine G2 (v := .int (n + 1)) (kvs := [(.inr "cells", .obj c), (.inr "total", .int t), (.inr "draws", .int n)]) ha rfl (Nat.le_of_ble_eq_true rfl) rfl rfl ?_
  rw [v4]
  refine G1 (y := .str "cells") ha1 rfl (v1 _) ?_
  refine ⟨Nat.zero_le _, ?_⟩
  cases cells with
  | nil =>
    refine G3 (es := []) hc1 rfl rfl ?_
    exact draw_tail hA hB hD hE hF hI hJ hL hM (by omega) (by omega) h0 (fin μ1 [] rfl hc1 (Nat.zero_le _) fun b x y => updM_ne x)
  | cons y ys =>
    refine G3 (es := []) hc1 (shaped_ints _) rfl ?_
    refine G1 (y := .str "cells") ha1 rfl (v1 _) ?_
    have hlast : ∃ z, ((y :: ys).map DV.int)[((y :: ys).map DV.int).length - 1]? = some (.int z) := by
      refine ⟨(y :: ys).getLast (by intro z; cases z), ?_⟩
      rw [List.length_map, List.getElem?_map, List.getLast_eq_getElem, List.getElem?_eq_getElem (by simp)]
      rfl
    obtain ⟨z, hz⟩ := hlast
    refine G4 hc1 hz ?_
    have hdl : ((y :: ys).map DV.int).dropLast = (y :: ys).dropLast.map DV.int := by rw [List.map_dropLast]
    have ldl : (y :: ys).dropLast.length ≤ 62 := by rw [List.length_dropLast]; omega
    generalize (y :: ys).dropLast = cs at hdl ldl
    rw [hdl]
    let μ2 : Mh := updM μ1 c (.lst (cs.map .int))
    have ha2 : μ2 a = some (.dct [(.inr "cells", .obj c), (.inr "total", .int t), (.inr "draws", .int (n + 1))]) := (updM_ne na).trans ha1
    have hc2 : μ2 c = some (.lst (cs.map .int)) := updM_same
    refine ⟨cpow_ten (by decide) (by decide), ?_⟩
    cases hge : decide ((10 : Int) ^ 18 ≤ z) with
    | true =>
      have e : decide ((10 : Int) ^ (18 : Int).toNat ≤ z) = true := hge
      show (match decide ((10 : Int) ^ (18 : Int).toNat ≤ z) with | true => _ | false => _)
      rw [e]
      refine G1 (y := .str "cells") ha2 rfl (v1 _) ?_
      refine ⟨?_, dm z, ?_⟩
      · show isLstM (.obj c) μ2
        unfold isLstM
        simp only [hc2]
      · show (match μ2 c with | some (.lst ds) => _ | _ => False)
        rw [hc2]
        refine ⟨by rw [List.length_map, sizeLine_eq]; omega, h0, ?_⟩
        refine fin _ (cs ++ [z / many]) ((updM_ne na).trans ((updM_ne na).trans rfl)) ?_ (by simp; omega) (fun b x y => (updM_ne y).trans ((updM_ne y).trans (updM_ne x))) _ (Int.emod_nonneg _ (by omega)) (Int.emod_lt_of_pos _ h0)
        rw [updM_same, List.map_append]
        rfl
    | false =>
      have e : decide ((10 : Int) ^ (18 : Int).toNat ≤ z) = false := hge
      show (match decide ((10 : Int) ^ (18 : Int).toNat ≤ z) with | true => _ | false => _)
      rw [e]
      refine G1 (y := .str "total") ha2 rfl (v2 _) ?_
      exact draw_tail hA hB hD hE hF hI hJ hL hM (by omega) (by omega) h0 (fin μ2 cs (updM_ne na) hc2 (by omega) fun b x y => (updM_ne y).trans (updM_ne x))

/-! ### the deck made -/
def wDeck (S B A C M : Int) : WS :=
  (wSeq (wPar 1 2 (wCons (wB wList (wCons (wSl (wVar 0) wNoPart (wPart (wC (.int 63)))) wNil)) (wCons (wC (.int S)) wNil)))
    (wSeq (wFor (sLst (wVar 1)) (wgName 3) (wAsg (wBin wMod (wBin wAdd (wBin wAdd (wBin wMul (wVar 2) (wC (.int B))) (wBin wMod (wVar 3) (wC (.int A)))) (wC (.int C))) (wC (.int M))) (wgName 2)))
    (wRet (wDctM [((.inr "cells"), (wRevM (wVar 1))), ((.inr "total"), (wVar 2)), ((.inr "draws"), (wC (.int 0)))]))))
def wfDeck (nm : Str) : WF := fun ds μ Q => ∃ ns : List Int, ds = [.fix (ns.map .int)] ∧ ∀ a c μ', μ a = none → μ c = none → HasDeck nm μ' a c (2 ^ 40) → OnlyDeck μ μ' a c → Q (.obj a) μ'
theorem deck_ok {S B A C M : Int} (hS : 0 ≤ S) (hS2 : S < 2 ^ 32) (hB : sm B) (hA : sm A) (hM : sm M) (ds : List DV) (μ : Mh) (Q : DV → Mh → Prop) (hl : ds.length = 1) (h : wfDeck "total" ds μ Q) :
    wDeck S B A C M { nx := fun _ μ' => Q .none μ', rt := Q } (ds.map some ++ List.replicate 3 none) μ := by
  obtain ⟨ns, rfl, q⟩ := h
  have hcut : cutD (ns.map DV.int) none (some 63) = (ns.take 63).map DV.int := by
    have e0 : HT.sIx (ns.map DV.int).length 0 none = 0 := rfl
    have e1 : min (HT.sIx (ns.map DV.int).length (ns.map DV.int).length (some 63)) (ns.map DV.int).length = min 63 (ns.map DV.int).length := by
      show min (min (63 : Nat) _) _ = _
      omega
    unfold cutD
    rw [e0, List.drop_zero, Nat.sub_zero, List.take_eq_take_min, e1, ← List.take_eq_take_min, List.map_take]
  have hlen : (ns.take 63).length ≤ 63 := by rw [List.length_take]; omega
  have key : ∀ xs : List Int, xs.length ≤ 63 → ∀ t : Int, 0 ≤ t → t < 2 ^ 32 → ∀ z, wRet (wDctM [((.inr "cells"), (wRevM (wVar 1))), ((.inr "total"), (wVar 2)), ((.inr "draws"), (wC (.int 0)))]) { nx := fun _ μ' => Q .none μ', rt := Q } [some (.fix (ns.map .int)), some (.lst (xs.map .int)), some (.int t), z] μ := fun xs hx t t0 t1 z => by
    intro c hc a ha
    have nac : a ≠ c := fun e => by
      subst e
      have : updM μ a _ a = none := ha
      rw [updM_same] at this
      cases this
    have ha' : μ a = none := by
      have h1 : updM μ c _ a = none := ha
      rw [updM_ne nac] at h1
      exact h1
    refine q a c _ ha' hc ⟨fun e => nac e.symm, t, 0, xs.reverse, updM_same, ?_, t0, t1, by omega, by omega, by simp; omega⟩ fun b x y => (updM_ne x).trans (updM_ne y)
    rw [updM_ne fun e => nac e.symm, updM_same, List.map_reverse]
  have loop : ∀ (ys : List Int) (t : Int) (z : Option DV), 0 ≤ t → t < 2 ^ 32 → forW (wgName 3) (wAsg (wBin wMod (wBin wAdd (wBin wAdd (wBin wMul (wVar 2) (wC (.int B))) (wBin wMod (wVar 3) (wC (.int A)))) (wC (.int C))) (wC (.int M))) (wgName 2))
      { nx := wRet (wDctM [((.inr "cells"), (wRevM (wVar 1))), ((.inr "total"), (wVar 2)), ((.inr "draws"), (wC (.int 0)))]) { nx := fun _ μ' => Q .none μ', rt := Q }, rt := Q } (ys.map .int) [some (.fix (ns.map .int)), some (.lst ((ns.take 63).map .int)), some (.int t), z] μ := by
    intro ys
    induction ys with
    | nil => exact fun t z t0 t1 => key _ hlen t t0 t1 z
    | cons y ys ih =>
      intro t z t0 t1
      refine ⟨cm_r hB, hA.1, hM.1, ih _ _ (Int.emod_nonneg _ (by have := hM.1; omega)) (Int.lt_trans (Int.emod_lt_of_pos _ hM.1) hM.2)⟩
  show forW _ _ _ (cutD (ns.map DV.int) none (some 63)) [some (.fix (ns.map .int)), some (.lst (cutD (ns.map DV.int) none (some 63))), some (.int S), none] μ
  rw [hcut]
  exact loop _ S none hS hS2

/-! ### one of some -/
def wPick (f_draw : WF) : WS :=
  (wRet (wBin wIx (wVar 1) (wCall 2 f_draw (wCons (wVar 0) (wCons (wB wLen (wCons (wVar 1) wNil)) wNil)))))
def itemsD : DV → List DV
  | .lst ds => ds
  | .tup ds => ds
  | .str z => signs z
  | _ => []
def wfPick (nm : Str) : WF := fun ds μ Q => ∃ a c m y, ds = [.obj a, y] ∧ 0 < (itemsD y).length ∧ (itemsD y).length ≤ sizeLine ∧ HasDeck nm μ a c (m + 1) ∧ ∀ x μ', x ∈ itemsD y → HasDeck nm μ' a c m → OnlyDeck μ μ' a c → Q x μ'
theorem atI_nat {α : Type} {xs : List α} {r : Int} (h0 : 0 ≤ r) (h1 : r < xs.length) : ∃ x, x ∈ xs ∧ atI xs r = some x := by
  obtain ⟨n, rfl⟩ := Int.eq_ofNat_of_zero_le h0
  have hn : n < xs.length := by omega
  refine ⟨xs[n], List.getElem_mem hn, ?_⟩
  unfold atI ixN
  rw [if_pos h0, if_pos h1]
  show xs[(n : Int).toNat]? = _
  rw [Int.toNat_natCast, List.getElem?_eq_getElem hn]
theorem pick_ok {nm : Str} (ds : List DV) (μ : Mh) (Q : DV → Mh → Prop) (hl : ds.length = 2) (h : wfPick nm ds μ Q) :
    wPick (wfDraw nm) { nx := fun _ μ' => Q .none μ', rt := Q } (ds.map some ++ List.replicate 0 none) μ := by
  obtain ⟨a, c, m, y, rfl, l0, l1, hd, q⟩ := h
  have h64 : sizeLine < 2 ^ 64 := by rw [sizeLine_eq]; decide
  have go : ∀ xs : List DV, 0 < xs.length → xs.length ≤ sizeLine → (∀ r μ', 0 ≤ r → r < (xs.length : Int) → HasDeck nm μ' a c m → OnlyDeck μ μ' a c → wIx y (.int r) μ' Q) → wfDraw nm [.obj a, .int xs.length] μ fun d μ1 => wIx y d μ1 Q :=
    fun xs x0 x1 k => ⟨a, c, m, xs.length, rfl, by omega, by omega, hd, fun r μ' r0 r1 h1 o1 => k r μ' r0 r1 h1 o1⟩
  cases y with
  | lst xs =>
    refine ⟨rfl, go xs l0 l1 fun r μ' r0 r1 h1 o1 => ?_⟩
    obtain ⟨x, hx, e⟩ := atI_nat r0 r1
    show atW (atI xs r) _
    rw [e]
    exact q x μ' hx h1 o1
  | tup xs =>
    refine ⟨rfl, go xs l0 l1 fun r μ' r0 r1 h1 o1 => ?_⟩
    obtain ⟨x, hx, e⟩ := atI_nat r0 r1
    show atW (atI xs r) _
    rw [e]
    exact q x μ' hx h1 o1
  | str z =>
    have el : (signs z).length = z.length := by
      unfold signs
      rw [List.length_map, Array.length_toList]
      rfl
    have l1' : z.length ≤ sizeLine := by
      have : (signs z).length ≤ sizeLine := l1
      omega
    refine ⟨l1', rfl, ?_⟩
    rw [← el]
    refine go (signs z) l0 l1 fun r μ' r0 r1 h1 o1 => ⟨l1', ?_⟩
    have r1' : r < (z.cps.toList.length : Int) := by
      rw [Array.length_toList]
      have : (signs z).length = z.cps.size := el
      omega
    obtain ⟨x, hx, e⟩ := atI_nat r0 r1'
    rw [e]
    exact q _ μ' (List.mem_map.mpr ⟨x, hx, rfl⟩) h1 o1
  | _ => exact absurd l0 (Nat.lt_irrefl 0)
end Dz

set_option Elab.async false
set_option linter.all false
set_option maxRecDepth 100000
set_option maxHeartbeats 2000000
/-! DzS: how great data is, so that repr may show it. -/
namespace Dz
open PySem L2

/-- signs that chr knows -/
def plainS (x : Str) : Bool := x.cps.toList.all fun c => decide (c < 0x110000)
mutual
/-- texts of such signs -/
def plD : DV → Bool
  | .str x => plainS x
  | .tup ds => plDs ds
  | .lst ds => plDs ds
  | .dct kvs => plDk kvs
  | _ => true
def plDs : List DV → Bool
  | [] => true
  | d :: ds => plD d && plDs ds
def plDk : List (Key × DV) → Bool
  | [] => true
  | (.inr x, d) :: r => plainS x && plD d && plDk r
  | (.inl _, d) :: r => plD d && plDk r
end
/-- at most N in bulk, p deep -/
structure Siz (N p : Nat) (d : DV) : Prop where
  no : noObj d = true
  sh : (toPy d).showable = true
  lv : (toPy d).leavesShort 64 = true
  bk : (toPy d).bulk ≤ N
  dp : (toPy d).depth ≤ p
  pl : plD d = true
structure Sizs (N p : Nat) (ds : List DV) : Prop where
  no : noObjs ds = true
  sh : PyData.showableAll (toPys ds) = true
  lv : PyData.leavesShortAll 64 (toPys ds) = true
  bk : PyData.bulkAll (toPys ds) ≤ N
  dp : PyData.depthAll (toPys ds) ≤ p
  pl : plDs ds = true
theorem Siz.le {N N' p p' : Nat} {d : DV} (h : Siz N p d) (hN : N ≤ N') (hp : p ≤ p') : Siz N' p' d := ⟨h.no, h.sh, h.lv, Nat.le_trans h.bk hN, Nat.le_trans h.dp hp, h.pl⟩
theorem Siz.shows {N p : Nat} {d : DV} (h : Siz N p d) (hN : N ≤ 2 ^ 17) (hp : p ≤ 60) : Shows d := by
  refine ⟨h.no, h.sh, ?_, Nat.le_trans h.dp hp⟩
  have h1 := PyData.shown_le_bulk 64 (by decide) (toPy d) h.lv
  have h2 := h.bk
  rw [sizeLine_eq]
  omega
theorem Siz.none : Siz 0 0 .none := ⟨rfl, rfl, rfl, Nat.le_refl _, Nat.le_refl _, rfl⟩
theorem Siz.bool (b : Bool) : Siz 0 0 (.bool b) := ⟨rfl, rfl, rfl, Nat.le_refl _, Nat.le_refl _, rfl⟩
theorem Siz.int {i : Int} (h : i.natAbs < 10 ^ 60) : Siz 0 0 (.int i) := by
  refine ⟨rfl, ?_, ?_, Nat.le_refl _, Nat.le_refl _, rfl⟩
  · show decide (i.natAbs.log2 < 1920) = true
    rw [decide_eq_true_eq]
    by_cases z : i.natAbs = 0
    · rw [z]; decide
    · exact (Nat.log2_lt z).mpr (Nat.lt_of_lt_of_le (Nat.lt_trans h (show 10 ^ 60 < 2 ^ 240 by decide)) (Nat.pow_le_pow_right (by decide) (by decide)))
  · show decide ((PyData.shown (.int i)).length ≤ 64) = true
    rw [decide_eq_true_eq]
    have e := int_text_length_le10 (k := 60) (by decide) h
    show (Str.ofString (toString i)).length ≤ 64
    rw [ofString_length]
    omega
theorem Siz.str {x : Str} (h : plainS x = true) : Siz x.length 0 (.str x) := by
  refine ⟨rfl, rfl, ?_, Nat.le_refl _, Nat.le_refl _, h⟩
  show (x.cps.toList.all fun c => decide (c < 16 ^ 8)) = true
  unfold plainS at h
  rw [List.all_eq_true] at h ⊢
  intro c hc
  have := of_decide_eq_true (h c hc)
  exact decide_eq_true (Nat.lt_trans this (by decide))
theorem Sizs.nil : Sizs 0 0 [] := ⟨rfl, rfl, rfl, Nat.le_refl _, Nat.le_refl _, rfl⟩
theorem Sizs.cons {N M p : Nat} {d : DV} {ds : List DV} (h : Siz N p d) (r : Sizs M p ds) : Sizs (N + 1 + M) p (d :: ds) := by
  refine ⟨?_, ?_, ?_, ?_, ?_, by show (plD d && plDs ds) = true; rw [h.pl, r.pl]; rfl⟩
  · show (noObj d && noObjs ds) = true
    rw [h.no, r.no]; rfl
  · show ((toPy d).showable && _) = true
    rw [h.sh, r.sh]; rfl
  · show ((toPy d).leavesShort 64 && _) = true
    rw [h.lv, r.lv]; rfl
  · show (toPy d).bulk + 1 + _ ≤ _
    have := h.bk; have := r.bk; omega
  · show max _ _ ≤ p
    exact Nat.max_le.mpr ⟨h.dp, r.dp⟩
theorem Sizs.le {N N' p p' : Nat} {ds : List DV} (h : Sizs N p ds) (hN : N ≤ N') (hp : p ≤ p') : Sizs N' p' ds := ⟨h.no, h.sh, h.lv, Nat.le_trans h.bk hN, Nat.le_trans h.dp hp, h.pl⟩
theorem Sizs.all {N p : Nat} : ∀ {ds : List DV}, (∀ d ∈ ds, Siz N p d) → Sizs (ds.length * (N + 1)) p ds
  | [], _ => Sizs.nil.le (by omega) (by omega)
  | d :: ds, h => by
    have r := Sizs.cons (h d List.mem_cons_self) (Sizs.all (N := N) (p := p) fun e he => h e (List.mem_cons_of_mem _ he))
    refine r.le ?_ (Nat.le_refl _)
    rw [List.length_cons, Nat.succ_mul]
    omega
theorem Siz.tup {N p : Nat} {ds : List DV} (h : Sizs N p ds) : Siz N (p + 1) (.tup ds) := ⟨h.no, h.sh, h.lv, h.bk, Nat.succ_le_succ h.dp, h.pl⟩
theorem Siz.lst {N p : Nat} {ds : List DV} (h : Sizs N p ds) : Siz N (p + 1) (.lst ds) := ⟨h.no, h.sh, h.lv, h.bk, Nat.succ_le_succ h.dp, h.pl⟩
theorem Siz.dct0 : Siz 0 1 (.dct []) := ⟨rfl, rfl, rfl, Nat.le_refl _, Nat.le_refl _, rfl⟩
theorem Siz.dct1 {N p : Nat} {k : Str} {d : DV} (hk : plainS k = true) (h : Siz N p d) : Siz (k.length + N + 2) (p + 1) (.dct [(.inr k, d)]) := by
  have hs := Siz.str hk
  refine ⟨?_, ?_, ?_, ?_, ?_, by show (plainS k && plD d && true) = true; rw [hk, h.pl]; rfl⟩
  · show (noObj d && true) = true
    rw [h.no]; rfl
  · show (true && (toPy d).showable && true) = true
    rw [h.sh]; rfl
  · show ((PyData.str k).leavesShort 64 && (toPy d).leavesShort 64 && true) = true
    rw [show (PyData.str k).leavesShort 64 = true from hs.lv, h.lv]; rfl
  · show k.cps.size + (toPy d).bulk + 2 + 0 ≤ _
    have := h.bk
    have e : k.cps.size = k.length := rfl
    omega
  · show max (max 0 (toPy d).depth) 0 + 1 ≤ _
    have := h.dp
    omega
/-- flat things, by computing -/
def sizB (d : DV) : Bool := match d with
  | .none => true
  | .bool _ => true
  | .int i => decide (i.natAbs < 10 ^ 60)
  | .str x => plainS x
  | _ => false
mutual
/-- no dicts -/
def noDct : DV → Bool
  | .tup ds => noDcts ds
  | .lst ds => noDcts ds
  | .dct _ => false
  | _ => true
def noDcts : List DV → Bool
  | [] => true
  | d :: ds => noDct d && noDcts ds
end
theorem strOk_plain {x : Str} (h : plainS x = true) : PyData.strOk x = true := by
  unfold plainS at h
  show x.cps.all _ = true
  rw [← Array.all_toList]
  exact h
mutual
theorem canLay_of : ∀ {d : DV}, plD d = true → noDct d = true → (toPy d).canLay0 = true
  | .none, _, _ => rfl
  | .bool _, _, _ => rfl
  | .int _, _, _ => rfl
  | .str x, h, _ => strOk_plain h
  | .tup ds, h, n => canLays_of (ds := ds) h n
  | .lst ds, h, n => canLays_of (ds := ds) h n
  | .dct _, _, n => absurd n Bool.false_ne_true
  | .obj _, _, _ => rfl
  | .fix _, _, _ => rfl
  | .dn _ _ _, _, _ => rfl
theorem canLays_of : ∀ {ds : List DV}, plDs ds = true → noDcts ds = true → PyData.canLayAll0 (toPys ds) = true
  | [], _, _ => rfl
  | d :: ds, h, n => by
    have h' := Bool.and_eq_true_iff.mp (show (plD d && plDs ds) = true from h)
    have n' := Bool.and_eq_true_iff.mp (show (noDct d && noDcts ds) = true from n)
    show ((toPy d).canLay0 && _) = true
    rw [canLay_of h'.1 n'.1, canLays_of h'.2 n'.2]
    rfl
end
theorem Siz.shaped {N p : Nat} {d : DV} (h : Siz N p d) (hp : p ≤ 64) (n : noDct d = true) : shapedD d = true := by
  show (noObj d && ((toPy d).canLay0 && decide ((toPy d).depth ≤ 64))) = true
  rw [h.no, canLay_of h.pl n, decide_eq_true (Nat.le_trans h.dp hp)]
  rfl
end Dz

set_option Elab.async false
set_option linter.all false
set_option maxRecDepth 100000
set_option maxHeartbeats 2000000
/-! DzL: loops and comprehensions by an invariant. -/
namespace Dz
open PySem L2

theorem comp_rule {g : WG} {t : WT} {e : WE} {ρ : Rho} {G : DV → Prop} {I : Nat → Mh → Prop} {n : Nat} : ∀ (xs acc : List DV) (μ : Mh) (P : List DV → Mh → Prop),
    (∀ x ∈ xs, ∀ (μ : Mh) (k : Nat) (acc : List DV) (P : List DV → Mh → Prop), I (k + 1) μ → acc.length < sizeLine → (∀ y μ', G y → I k μ' → P (acc ++ [y]) μ') → (∀ μ', I k μ' → P acc μ') →
      g x ρ fun ρ1 => t ρ1 μ fun b μ1 => match b with
        | true => e ρ1 μ1 fun y μ2 => acc.length < sizeLine ∧ P (acc ++ [y]) μ2
        | false => P acc μ1) →
    acc.length + xs.length ≤ sizeLine → (∀ y ∈ acc, G y) → I (n + xs.length) μ → (∀ zs μ', (∀ y ∈ zs, G y) → zs.length ≤ acc.length + xs.length → I n μ' → P zs μ') → compW g t e ρ xs acc μ P
  | [], acc, μ, P, _, _, hg, hi, q => q acc μ hg (by simp) hi
  | x :: xs, acc, μ, P, hx, hl, hg, hi, q => by
    rw [List.length_cons] at hl
    refine hx x List.mem_cons_self μ (n + xs.length) acc (fun ac μ' => compW g t e ρ xs ac μ' P) hi (by omega) (fun y μ' gy i' => ?_) (fun μ' i' => ?_)
    · refine comp_rule xs (acc ++ [y]) μ' P (fun z hz => hx z (List.mem_cons_of_mem _ hz)) (by simp; omega) (fun z hz => ?_) i' (fun zs μ2 h1 h2 h3 => q zs μ2 h1 (by simp at h2 ⊢; omega) h3)
      rcases List.mem_append.mp hz with hz | hz
      · exact hg z hz
      · rw [List.mem_singleton] at hz; rw [hz]; exact gy
    · exact comp_rule xs acc μ' P (fun z hz => hx z (List.mem_cons_of_mem _ hz)) (by omega) hg i' (fun zs μ2 h1 h2 h3 => q zs μ2 h1 (by simp at h2 ⊢; omega) h3)
/-- the same, each thing kept -/
theorem comp_all {g : WG} {e : WE} {ρ : Rho} {G : DV → Prop} {I : Nat → Mh → Prop} {n : Nat} : ∀ (xs acc : List DV) (μ : Mh) (P : List DV → Mh → Prop),
    (∀ x ∈ xs, ∀ (μ : Mh) (k : Nat) (P : DV → Mh → Prop), I (k + 1) μ → (∀ y μ', G y → I k μ' → P y μ') → g x ρ fun ρ1 => e ρ1 μ P) →
    acc.length + xs.length ≤ sizeLine → (∀ y ∈ acc, G y) → I (n + xs.length) μ → (∀ zs μ', (∀ y ∈ zs, G y) → zs.length = acc.length + xs.length → I n μ' → P zs μ') → compW g wYes e ρ xs acc μ P
  | [], acc, μ, P, _, _, hg, hi, q => q acc μ hg (by simp) hi
  | x :: xs, acc, μ, P, hx, hl, hg, hi, q => by
    rw [List.length_cons] at hl
    refine hx x List.mem_cons_self μ (n + xs.length) _ hi (fun y μ' gy i' => ⟨by omega, ?_⟩)
    refine comp_all xs (acc ++ [y]) μ' P (fun z hz => hx z (List.mem_cons_of_mem _ hz)) (by simp; omega) (fun z hz => ?_) i' (fun zs μ2 h1 h2 h3 => q zs μ2 h1 (by simp at h2 ⊢; omega) h3)
    rcases List.mem_append.mp hz with hz | hz
    · exact hg z hz
    · rw [List.mem_singleton] at hz; rw [hz]; exact gy
/-- for x in xs, with an invariant that counts down -/
theorem for_rule {g : WG} {b : WS} {E : DEnds} {I : Nat → Rho → Mh → Prop} {n : Nat} : ∀ (xs : List DV) (ρ : Rho) (μ : Mh),
    (∀ x ∈ xs, ∀ (k : Nat) (ρ : Rho) (μ : Mh) (F : DEnds), I (k + 1) ρ μ → F.rt = E.rt → F.bk = E.nx → (∀ ρ' μ', I k ρ' μ' → F.nx ρ' μ') → (∀ ρ' μ', I k ρ' μ' → F.ct ρ' μ') → g x ρ fun ρ1 => b F ρ1 μ) →
    I (n + xs.length) ρ μ → (∀ ρ' μ', I n ρ' μ' → E.nx ρ' μ') → forW g b E xs ρ μ
  | [], ρ, μ, _, hi, q => q ρ μ hi
  | x :: xs, ρ, μ, hx, hi, q => by
    refine hx x List.mem_cons_self (n + xs.length) ρ μ { nx := forW g b E xs, rt := E.rt, bk := E.nx, ct := forW g b E xs } hi rfl rfl (fun ρ' μ' i' => ?_) (fun ρ' μ' i' => ?_)
    · exact for_rule xs ρ' μ' (fun z hz => hx z (List.mem_cons_of_mem _ hz)) i' q
    · exact for_rule xs ρ' μ' (fun z hz => hx z (List.mem_cons_of_mem _ hz)) i' q
theorem rngD_mem {lo : Int} {n : Nat} {d : DV} (h : d ∈ rngD lo n) : ∃ i : Int, d = .int i ∧ lo ≤ i ∧ i < lo + n := by
  unfold rngD at h
  rw [List.mem_map] at h
  obtain ⟨i, hi, rfl⟩ := h
  rw [List.mem_range] at hi
  exact ⟨_, rfl, by omega, by omega⟩
theorem rngD_len {lo : Int} {n : Nat} : (rngD lo n).length = n := by
  unfold rngD
  rw [List.length_map, List.length_range]
/-- a filter and a map without a step of the world -/
theorem comp_pure {g : WG} {t : WT} {e : WE} {ρ : Rho} {μ : Mh} (b : DV → Bool) (f : DV → DV) : ∀ (xs acc : List DV) (P : List DV → Mh → Prop),
    (∀ x ∈ xs, ∀ (acc : List DV) (P : List DV → Mh → Prop), acc.length < sizeLine → (if b x = true then P (acc ++ [f x]) μ else P acc μ) →
      g x ρ fun ρ1 => t ρ1 μ fun b μ1 => match b with
        | true => e ρ1 μ1 fun y μ2 => acc.length < sizeLine ∧ P (acc ++ [y]) μ2
        | false => P acc μ1) →
    acc.length + xs.length ≤ sizeLine → P (acc ++ (xs.filter b).map f) μ → compW g t e ρ xs acc μ P
  | [], acc, P, _, _, q => by
    have q' : P (acc ++ []) μ := q
    rw [List.append_nil] at q'
    exact q'
  | x :: xs, acc, P, hx, hl, q => by
    rw [List.length_cons] at hl
    refine hx x List.mem_cons_self acc (fun ac μ' => compW g t e ρ xs ac μ' P) (by omega) ?_
    by_cases hb : b x = true
    · rw [if_pos hb]
      rw [List.filter_cons_of_pos hb, List.map_cons] at q
      refine comp_pure b f xs (acc ++ [f x]) P (fun z hz => hx z (List.mem_cons_of_mem _ hz)) (by simp; omega) ?_
      rw [List.append_assoc]
      exact q
    · rw [if_neg hb]
      rw [List.filter_cons_of_neg hb] at q
      exact comp_pure b f xs acc P (fun z hz => hx z (List.mem_cons_of_mem _ hz)) (by omega) q
/-- data has a type -/
theorem ty_of_noObj : ∀ {d : DV} {μ : Mh}, noObj d = true → ∃ t, tyD d μ = some t
  | .none, _, _ => ⟨_, rfl⟩
  | .bool _, _, _ => ⟨_, rfl⟩
  | .int _, _, _ => ⟨_, rfl⟩
  | .str _, _, _ => ⟨_, rfl⟩
  | .tup _, _, _ => ⟨_, rfl⟩
  | .lst _, _, _ => ⟨_, rfl⟩
  | .dct _, _, _ => ⟨_, rfl⟩
  | .obj _, _, h => by cases h
  | .fix _, _, h => by cases h
end Dz

set_option Elab.async false
set_option linter.all false
set_option maxRecDepth 100000
set_option maxHeartbeats 1000000
/-! DzT: texts put together. -/
namespace Dz
open PySem L2 TL

abbrev sg (x : Str) : List Nat := x.cps.toList
theorem sg_len (x : Str) : (sg x).length = x.length := Array.length_toList
theorem plain_iff {x : Str} : plainS x = true ↔ ∀ c ∈ sg x, c < 0x110000 := by
  unfold plainS
  rw [List.all_eq_true]
  exact ⟨fun h c hc => of_decide_eq_true (h c hc), fun h c hc => decide_eq_true (h c hc)⟩
theorem sg_append (x y : Str) : sg (x ++ y) = sg x ++ sg y := by
  show (x.cps ++ y.cps).toList = _
  rw [Array.toList_append]
theorem len_append (x y : Str) : (x ++ y).length = x.length + y.length := by
  rw [← sg_len, sg_append, List.length_append, sg_len, sg_len]
theorem plain_append {x y : Str} (h : plainS x = true) (h' : plainS y = true) : plainS (x ++ y) = true := by
  rw [plain_iff] at *
  intro c hc
  rw [sg_append, List.mem_append] at hc
  exact hc.elim (h c) (h' c)
theorem plain_one {c : Nat} (h : c < 0x110000) : plainS ⟨#[c]⟩ = true := by
  rw [plain_iff]
  intro d hd
  have : d = c := by simpa [sg] using hd
  omega
theorem plain_cut {x : Str} (lo hi : Option Int) (h : plainS x = true) : plainS (cutS x lo hi) = true := by
  rw [plain_iff] at *
  intro c hc
  unfold cutS sg at hc
  have hc' : c ∈ (x.cps.toList.drop (HT.sIx x.length 0 lo)).take (HT.sIx x.length x.length hi - HT.sIx x.length 0 lo) := hc
  exact h c (List.mem_of_mem_drop (List.mem_of_mem_take hc'))
theorem len_cut (x : Str) (lo hi : Option Int) : (cutS x lo hi).length ≤ x.length := by
  rw [← sg_len, ← sg_len]
  show ((x.cps.toList.drop _).take _).length ≤ _
  rw [List.length_take, List.length_drop]
  show _ ≤ x.cps.toList.length
  omega
theorem len_cut_to (x : Str) (k : Int) (h : 0 ≤ k) : (cutS x none (some k)).length ≤ k.toNat := by
  rw [← sg_len]
  show ((x.cps.toList.drop _).take _).length ≤ _
  rw [List.length_take]
  have e : HT.sIx x.length x.length (some k) = min k.toNat x.length := by
    show (if k < 0 then _ else min k.toNat x.length) = _
    rw [if_neg (by omega)]
  rw [e]
  omega
theorem pos_cut_to {x : Str} {k : Int} (h : 0 < k) (hx : 0 < x.length) : 0 < (cutS x none (some k)).length := by
  rw [← sg_len]
  show 0 < ((x.cps.toList.drop _).take _).length
  rw [List.length_take, List.length_drop]
  have e : HT.sIx x.length x.length (some k) = min k.toNat x.length := by
    show (if k < 0 then _ else min k.toNat x.length) = _
    rw [if_neg (by omega)]
  have e0 : HT.sIx x.length 0 none = 0 := rfl
  rw [e, e0]
  have : x.cps.toList.length = x.length := sg_len x
  omega
theorem mem_joinL {S : List Nat} {c : Nat} : ∀ {ls : List (List Nat)}, c ∈ joinL S ls → c ∈ S ∨ ∃ l ∈ ls, c ∈ l
  | [], h => by cases h
  | [p], h => .inr ⟨p, List.mem_singleton.mpr rfl, h⟩
  | p :: q :: r, h => by
    have h' : c ∈ p ++ (S ++ joinL S (q :: r)) := h
    rw [List.mem_append, List.mem_append] at h'
    rcases h' with h | h | h
    · exact .inr ⟨p, List.mem_cons_self, h⟩
    · exact .inl h
    · rcases mem_joinL h with h | ⟨l, hl, h⟩
      · exact .inl h
      · exact .inr ⟨l, List.mem_cons_of_mem _ hl, h⟩
theorem plain_join {y : Str} {xs : List Str} (hy : plainS y = true) (h : ∀ x ∈ xs, plainS x = true) : plainS (Txt.join y xs) = true := by
  rw [plain_iff] at *
  intro c hc
  rw [join_eq] at hc
  have hc' : c ∈ joinL (tl y) (xs.map tl) := by rw [← tl_join]; exact hc
  rcases mem_joinL hc' with h' | ⟨l, hl, h'⟩
  · exact hy c h'
  · rw [List.mem_map] at hl
    obtain ⟨x, hx, rfl⟩ := hl
    exact plain_iff.mp (h x hx) c h'
theorem len_joinL (S : List Nat) : ∀ ls : List (List Nat), (joinL S ls).length ≤ (ls.map (·.length)).sum + ls.length * S.length
  | [] => Nat.zero_le _
  | [p] => by
    show p.length ≤ p.length + 0 + 1 * S.length
    omega
  | p :: q :: r => by
    have ih := len_joinL S (q :: r)
    show (p ++ (S ++ joinL S (q :: r))).length ≤ p.length + ((q :: r).map (·.length)).sum + ((q :: r).length + 1) * S.length
    rw [List.length_append, List.length_append, Nat.succ_mul]
    omega
theorem len_join (y : Str) (xs : List Str) : (Txt.join y xs).length ≤ (xs.map (·.length)).sum + xs.length * y.length := by
  have h := len_joinL (tl y) (xs.map tl)
  have e : (Txt.join y xs).length = (tl (Str.join y xs)).length := by rw [join_eq]; exact (sg_len _).symm
  rw [e, tl_join]
  have e2 : ((xs.map tl).map (·.length)) = xs.map (·.length) := by
    rw [List.map_map]
    exact List.map_congr_left fun x _ => sg_len x
  rw [e2, List.length_map] at h
  exact Nat.le_trans h (Nat.add_le_add_left (Nat.mul_le_mul_left _ (Nat.le_of_eq (sg_len y))) _)
theorem sum_ones {xs : List Str} (h : ∀ x ∈ xs, x.length ≤ 1) : (xs.map (·.length)).sum ≤ xs.length := by
  induction xs with
  | nil => exact Nat.le_refl _
  | cons x xs ih =>
    have := h x List.mem_cons_self
    have := ih fun z hz => h z (List.mem_cons_of_mem _ hz)
    rw [List.map_cons, List.sum_cons, List.length_cons]
    omega
theorem sum_ge {xs : List Str} (h : ∀ x ∈ xs, 1 ≤ x.length) : xs.length ≤ (xs.map (·.length)).sum := by
  induction xs with
  | nil => exact Nat.le_refl _
  | cons x xs ih =>
    have := h x List.mem_cons_self
    have := ih fun z hz => h z (List.mem_cons_of_mem _ hz)
    rw [List.map_cons, List.sum_cons, List.length_cons]
    omega
theorem foldl_sg (x : Array Nat) : ∀ (n : Nat) (acc : Array Nat), ((List.replicate n x).foldl (· ++ ·) acc).toList = acc.toList ++ (List.replicate n x.toList).flatten
  | 0, acc => by simp
  | n + 1, acc => by
    rw [List.replicate_succ, List.foldl_cons, foldl_sg x n, Array.toList_append, List.replicate_succ, List.flatten_cons, List.append_assoc]
theorem sg_rep (x : Str) (n : Nat) : sg (strRep x n) = (List.replicate n (sg x)).flatten := by
  unfold strRep
  show ((List.replicate n x.cps).foldl (· ++ ·) #[]).toList = _
  rw [foldl_sg]
  rfl
theorem len_rep (x : Str) (n : Nat) : (strRep x n).length = n * x.length := by
  rw [← sg_len, sg_rep, ← sg_len x, List.length_flatten, List.map_replicate, List.sum_replicate_nat]
theorem plain_rep {x : Str} (n : Nat) (h : plainS x = true) : plainS (strRep x n) = true := by
  rw [plain_iff] at *
  intro c hc
  rw [sg_rep, List.mem_flatten] at hc
  obtain ⟨l, hl, hc⟩ := hc
  rw [List.mem_replicate] at hl
  rw [hl.2] at hc
  exact h c hc
/-- things that are texts of one sign -/
def One (d : DV) : Prop := ∃ c, d = .str ⟨#[c]⟩ ∧ c < 0x110000
theorem ones_of {zs : List DV} (h : ∀ z ∈ zs, One z) : ∃ ys : List Str, zs = ys.map .str ∧ (∀ y ∈ ys, plainS y = true ∧ y.length = 1) := by
  induction zs with
  | nil => exact ⟨[], rfl, fun _ h => by cases h⟩
  | cons z zs ih =>
    obtain ⟨c, rfl, hc⟩ := h z List.mem_cons_self
    obtain ⟨ys, rfl, hy⟩ := ih fun z hz => h z (List.mem_cons_of_mem _ hz)
    refine ⟨⟨#[c]⟩ :: ys, rfl, fun y h => ?_⟩
    rcases List.mem_cons.mp h with rfl | h
    · exact ⟨plain_one hc, rfl⟩
    · exact hy y h
theorem one_signs {x : Str} (h : plainS x = true) : ∀ z ∈ signs x, One z := by
  intro z hz
  unfold signs at hz
  rw [List.mem_map] at hz
  obtain ⟨c, hc, rfl⟩ := hz
  exact ⟨c, rfl, plain_iff.mp h c hc⟩
theorem len_signs (x : Str) : (signs x).length = x.length := by
  unfold signs
  rw [List.length_map, Array.length_toList]
  rfl
theorem len_join_ge (y : Str) (xs : List Str) : (xs.map (·.length)).sum ≤ (Txt.join y xs).length := PyProof.Rows.len_join_ge_sum y xs
end Dz

set_option Elab.async false
set_option linter.all false
set_option maxRecDepth 100000
set_option maxHeartbeats 1000000
/-! DzE: a law's start and end. -/
namespace Dz
open PySem L2

theorem at1_of {K : PySem.W.Frag} {h : Heap} {mg : Str → Option Value} {x : Str} {st : Stmt} {f : Addr} {oc kV dc pm cd ct : Value} {od an : Option Addr} {sl : Array (Option Value)} (X : K.In h) (G : h.Ns mainGlobals mg) (a : PySem.W.nsIn K mainGlobals x = some (some (.ref f)))
    (l : K.lookup f = some ⟨oc, od, .func (PySem.W.fnOf x x (defArgs st) (defBody st) (defScope st) .none kV dc pm an cd ct), sl⟩) (c : PySem.W.codeIn K cd x = true) (k : PySem.W.keepIn K (.ref f) = true) : At1 K mg x st :=
  ⟨f, _, PySem.W.mg_of X G a, fun_mk l c k⟩
/-- a law over a script: its promise at the start -/
theorem law_start {wf : WF} {K : PySem.W.Frag} {H : Hp} {a : Addr} {ns : List Int} (h : ∀ μ P, (∀ μ', P (.bool true) μ') → wf [.fix (ns.map .int)] μ P) (hS : SqL K H a (ns.map V.int)) : spD K 1 wf [.ref a] H (fun v _ => v = .bl true) fun _ _ _ => False := by
  refine ⟨fun _ => none, [.fix (ns.map .int)], fun _ => none, fun d _ => d = .bool true, ⟨fun a o z => (by cases z), fun a o z => (by cases z), fun a o z => (by cases z)⟩, ?_, rfl, h _ _ fun _ => rfl, fun d μ' v H' p o s i => ?_⟩
  · have e : hid (fun _ => none) (fun _ => none) H = H := by
      funext b
      unfold hid
      rw [if_pos ⟨rfl, rfl⟩]
    rw [e]
    refine .cons (.fix hS ?_) .nil
    induction ns with
    | nil => exact .nil
    | cons n ns ih =>
      refine .cons (.int n) ?_
      clear ih h hS
      induction ns with
      | nil => exact .nil
      | cons m ns ih => exact .cons (.int m) ih
  · subst p
    cases i
    rfl
end Dz

set_option Elab.async false
set_option linter.all false
set_option maxRecDepth 100000
set_option maxHeartbeats 2000000
/-! DzA: split, sorted, *xs in a display, list(xs) that changes, enumerate. -/
namespace Dz
open PySem L2

section
variable {K : PySem.W.Frag} {R : Hp} {μ : Mh} {H : Hp} {P : DV → Mh → Prop} {Q : VK}
/-- a new list that will change -/
theorem Nxt.lstM {xs : List V} {ds : List DV} {p : Addr} (k : Nxt K R μ H P Q) (o : Ok K R μ H) (q : ∀ p, μ p = none → P (.obj p) (updM μ p (.lst ds))) (r : Iss K (hid R μ H) xs ds) (n : H p = none) : Q (.ref p) (upd H p (.lst xs)) := by
  have fm := o.freeM n
  have hs : Same (hid R μ H) (hid R (updM μ p (.lst ds)) (upd H p (.lst xs))) := fun b u e => by
    obtain ⟨e1, e2, e3⟩ := hid_some e
    have ne := ne_of_none e3 n
    rw [hid_at e1 (by rw [updM_ne ne]; exact e2), upd_ne ne]
    exact e3
  obtain ⟨o2, s2⟩ := o.newM (o := .lst xs) (m := .lst ds) n ⟨_, upd_same, r.mono hs⟩ (by intro z; cases z)
  exact k _ _ _ _ (q p fm) o2 s2 (.obj p)
theorem Nxt.dctM0 {p : Addr} (k : Nxt K R μ H P Q) (o : Ok K R μ H) (q : ∀ p, μ p = none → P (.obj p) (updM μ p (.dct []))) (n : H p = none) : Q (.ref p) (upd H p (.dK [])) := by
  have fm := o.freeM n
  have hs : Same (hid R μ H) (hid R (updM μ p (.dct [])) (upd H p (.dK []))) := fun b u e => by
    obtain ⟨e1, e2, e3⟩ := hid_some e
    have ne := ne_of_none e3 n
    rw [hid_at e1 (by rw [updM_ne ne]; exact e2), upd_ne ne]
    exact e3
  obtain ⟨o2, s2⟩ := o.newM (o := .dK []) (m := .dct []) n ⟨[], upd_same, rfl, .nil⟩ (by intro z; cases z)
  exact k _ _ _ _ (q p fm) o2 s2 (.obj p)
end
/-! ### {} and list(xs) that will change -/
def wDct0M : WE := fun _ μ P => ∀ p, μ p = none → P (.obj p) (updM μ p (.dct []))
section
variable {X : Cx} {pos p : Pos} {e : Expr} {w : WE}
theorem d_dct0M : PE X (.Dict [] [] pos) (tD X.K wDct0M) :=
  PE.imp pe_dnewK fun σ H Q ⟨R, ρ, μ, P, a, w, k⟩ => fun p n => k.dctM0 a.ok w n
def newL (ds : List DV) (μ : Mh) (P : DV → Mh → Prop) : Prop := ∀ p, μ p = none → P (.obj p) (updM μ p (.lst ds))
def wListM : WB
  | [.lst ds], μ, P => newL ds μ P
  | [.tup ds], μ, P => newL ds μ P
  | [.obj a], μ, P => match μ a with | some (.lst ds) => newL ds μ P | _ => False
  | _, _, _ => False
theorem listM_rd {K : PySem.W.Frag} : RAD K (fun xs H Q => ∃ p ys, xs = [.ref p] ∧ (SqL K H p ys ∨ SqT K H p ys) ∧ ∀ l, H l = none → Q (.ref l) (upd H l (.lst ys))) wListM := by
  intro R μ H vs ds P Q o i w k
  match ds, w with
  | [.lst ds], w =>
    obtain ⟨v, rfl, i1⟩ := i.one
    cases i1 with | lst hx rx => exact ⟨_, _, rfl, .inl (SqL.of (hid_le _ _ hx)), fun l n => k.lstM o w rx n⟩
  | [.tup ds], w =>
    obtain ⟨v, rfl, i1⟩ := i.one
    cases i1 with | tup hx rx => exact ⟨_, _, rfl, .inr (Same.seqT hid_le hx.t), fun l n => k.lstM o w rx n⟩
  | [.obj a], w =>
    obtain ⟨v, rfl, i1⟩ := i.one
    have w' : (match μ a with | some (.lst ds) => newL ds μ P | _ => False) := w
    split at w'
    · rename_i ds e
      obtain ⟨xs, h1, r⟩ := o.ob a _ e
      cases i1
      exact ⟨_, _, rfl, .inl (SqL.of h1), fun l n => k.lstM o w' r n⟩
    · exact w'.elim
theorem d_listM (hg : Gl X "list") (hm : X.mg "list" = none) (ha : PE X e (tD X.K w)) (hs : starEach [e] X.env = [(false, eval e X.env)] := by rfl) : PE X (.Call (.Name "list" p) [e] [] pos) (tD X.K (wB wListM (wCons w wNil))) :=
  d_callTy call_list_of listM_rd hg hm (by decide +kernel) (da_cons ha da_nil hs) (by decide) (by decide) hs rfl
/-! ### a.split(b) -/
theorem strs_is {K : PySem.W.Frag} {H : Hp} : ∀ ys : List Str, Iss K H (ys.map V.str) (ys.map DV.str)
  | [] => .nil
  | y :: ys => .cons (.str y) (strs_is ys)
def wSplit (wa wb : WE) : WE := fun ρ μ P => wa ρ μ fun x μ1 => match x with
  | .str a => wb ρ μ1 fun y μ2 => match y with
    | .str b => (b.length == 0) = false ∧ a.length + 2 ≤ sizeLine ∧ P (.lst ((Txt.split a b).map .str)) μ2
    | _ => False
  | _ => False
variable {o : Expr} {wo : WE} {apos : Pos}
theorem d_split (ho : PE X o (tD X.K wo)) (he : PE X e (tD X.K w)) (hs : starEach [e] X.env = [(false, eval e X.env)] := by rfl) (hbase : attributeBase o "split" X.env (eval o X.env) = eval o X.env := by rfl) (hline : (apos.endLine == pos.line) = true := by rfl) :
    PE X (.Call (.Attribute o "split" apos) [e] [] pos) (tD X.K (wSplit wo w)) :=
  PE.imp (pe_split ho he hs hbase hline) fun σ H Q ⟨R, ρ, μ, P, a, w, k⟩ => ⟨R, ρ, μ, _, a, w, fun x μ1 v H1 p1 o1 s1 i1 => by
    cases i1 with
    | str z => exact ⟨⟨z, rfl⟩, R, ρ, μ1, _, a.step o1 s1, p1, fun y μ2 u H2 p2 o2 s2 i2 => by
        cases i2 with
        | str b => exact ⟨z, b, rfl, rfl, p2.1, p2.2.1, fun p n => (k.step (s1.trans s2)).lst o2 p2.2.2 (strs_is _) n⟩
        | _ => exact (show False from p2).elim⟩
    | _ => exact (show False from p1).elim⟩
/-! ### *e in a display -/
def wStar (we : WE) (wr : WA) : WA := fun ρ μ P => we ρ μ fun x μ1 => match x with
  | .tup ds => wr ρ μ1 fun es μ2 => P (ds ++ es) μ2
  | .lst ds => wr ρ μ1 fun es μ2 => P (ds ++ es) μ2
  | _ => False
variable {es : List Expr} {wr : WA}
theorem da_star (he : PE X e (tD X.K w)) (hr : PA X es (tDA X.K wr)) (hs : starEach (.Starred e p :: es) X.env = (true, eval e X.env) :: starEach es X.env := by rfl) : PA X (.Starred e p :: es) (tDA X.K (wStar w wr)) :=
  PA.imp (StX.pa_star he hr hs) fun σ H Q ⟨R, ρ, μ, P, a, w, k⟩ => ⟨R, ρ, μ, _, a, w, fun x μ1 v H1 p1 o1 s1 i1 => by
    cases i1 with
    | tup hx rx => exact ⟨_, _, rfl, .inl (Same.seqT hid_le hx.t), R, ρ, μ1, _, a.step o1 s1, p1, fun ds μ2 vs H2 p2 o2 s2 i2 => k _ μ2 _ H2 p2 o2 (s1.trans s2) ((rx.mono s2).append i2)⟩
    | lst hx rx => exact ⟨_, _, rfl, .inr (SqL.of (hid_le _ _ hx)), R, ρ, μ1, _, a.step o1 s1, p1, fun ds μ2 vs H2 p2 o2 s2 i2 => k _ μ2 _ H2 p2 o2 (s1.trans s2) ((rx.mono s2).append i2)⟩
    | _ => exact (show False from p1).elim⟩
end

/-! ### sorted(xs) of data that can be compared place by place -/
def allAlike (ds : List DV) : Bool := ds.all fun d => ds.all fun e => PySem.W.alike (toPy d) (toPy e)
def sortable (ds : List DV) : Bool := (ds.all fun d => match d with | .tup (_ :: _) => true | _ => false) || ds.all fun d => match d with | .int _ => true | .str _ => true | _ => false
def leD (a b : DV) : Bool := !PySem.W.dataLt (toPy b) (toPy a)
def sortW (ds : List DV) (μ : Mh) (P : DV → Mh → Prop) : Prop := noObjs ds = true ∧ allAlike ds = true ∧ sortable ds = true ∧ (∀ d ∈ ds, (toPy d).depth ≤ 60) ∧ ds.length ≤ sizeLine ∧ ∀ es : List DV, es.Perm ds → es.Pairwise (fun a b => leD a b = true) → P (.lst es) μ
def wSorted : WB
  | [.lst ds], μ, P => sortW ds μ P
  | [.obj a], μ, P => match μ a with | some (.lst ds) => sortW ds μ P | _ => False
  | _, _, _ => False
def rSortedD (K : PySem.W.Frag) : List V → Hp → VK → Prop := fun vs H Q => ∃ (a : Addr) (xs : List V) (ds : List DV), vs = [V.ref a] ∧ SqL K H a xs ∧ Iss K H xs ds ∧ noObjs ds = true ∧ allAlike ds = true ∧ sortable ds = true ∧ (∀ d ∈ ds, (toPy d).depth ≤ 60) ∧ ds.length ≤ sizeLine ∧
  ∀ (ps : List (V × DV)) (p : Addr), ps.Perm (xs.zip ds) → (ps.map (·.2)).Pairwise (fun a b => leD a b = true) → H p = none → Q (.ref p) (upd H p (.lst (ps.map (·.1))))
theorem Iss.zipAll {K : PySem.W.Frag} {H : Hp} : ∀ {xs : List V} {ds : List DV}, Iss K H xs ds → ∀ p ∈ xs.zip ds, Is K H p.1 p.2
  | _, _, .nil, p, h => by cases h
  | _, _, .cons h r, p, hp => by
    rcases List.mem_cons.mp hp with rfl | hp
    · exact h
    · exact Iss.zipAll r p hp
theorem Iss.ofAll {K : PySem.W.Frag} {H : Hp} : ∀ {ps : List (V × DV)}, (∀ p ∈ ps, Is K H p.1 p.2) → Iss K H (ps.map (·.1)) (ps.map (·.2))
  | [], _ => .nil
  | p :: ps, h => .cons (h p List.mem_cons_self) (Iss.ofAll fun q hq => h q (List.mem_cons_of_mem _ hq))
theorem zip_snd {α β : Type} : ∀ {xs : List α} {ys : List β}, xs.length = ys.length → (xs.zip ys).map (·.2) = ys
  | [], [], _ => rfl
  | _ :: xs, _ :: ys, h => by
    rw [List.zip_cons_cons, List.map_cons, zip_snd (by simpa using h)]
  | [], _ :: _, h => by cases h
  | _ :: _, [], h => by cases h
section
variable {X : Cx}
theorem each_of {H : Hp} {pins : List (Addr × Obj)} {σ : L2.St} {s : Shared} (I : Inv X pins σ H s) (hs : ∃ o, X.base.get? sysModules = some o) : ∀ {xs : List V} {ds : List DV} {us : List Value}, Iss X.K H xs ds → noObjs ds = true → Vals xs us →
    PySem.W.EachIs (fun (u : Value) (b : V × DV) => RelV b.1 u) us (xs.zip ds) ∧ PySem.W.EachIs (fun (u : Value) (b : V × DV) => ∃ as, Reads s.heap u (toPy b.2) as) us (xs.zip ds)
  | _, _, _, .nil, _, r => by cases r; exact ⟨.nil, .nil⟩
  | _, _, _, .cons h rr, n, r => by
    cases r with
    | cons r1 r2 =>
      have n' := Bool.and_eq_true_iff.mp n
      obtain ⟨e1, e2⟩ := each_of I hs rr n'.2 r2
      obtain ⟨as, q, _⟩ := Is.reads I hs h n'.1 r1
      exact ⟨.cons r1 e1, .cons ⟨as, q⟩ e2⟩
theorem vals_of_each : ∀ {us : List Value} {ps : List (V × DV)}, PySem.W.EachIs (fun (u : Value) (b : V × DV) => RelV b.1 u) us ps → Vals (ps.map (·.1)) us
  | _, _, .nil => .nil
  | _, _, .cons h r => .cons h (vals_of_each r)
theorem call_sortedD {k : Nat} (hr : Room k X.A) (hs : ∃ o, X.base.get? sysModules = some o) : CallR X (.builtin "sorted") (rSortedD X.K) := by
  intro pins s σ H vs us Q I r h
  obtain ⟨a, xs, ds, rfl, hl, ri, no, al, so, dp, sz, q⟩ := h
  obtain ⟨its, rv, hl2, _⟩ := I.list hl
  rw [Vals.ref1 r]
  obtain ⟨e1, e2⟩ := each_of I hs ri no rv
  have hlen : (xs.zip ds).length = ds.length := by rw [List.length_zip, ri.length, Nat.min_self]
  have hsnd : (xs.zip ds).map (fun b => toPy b.2) = ds.map toPy := by
    have := congrArg (List.map toPy) (zip_snd ri.length)
    rw [List.map_map] at this
    exact this
  have hmem : ∀ b ∈ xs.zip ds, b.2 ∈ ds := fun b hb => by
    have := List.mem_map_of_mem (f := (·.2)) hb
    rw [zip_snd ri.length] at this
    exact this
  refine PySem.W.sorted_data (enc := fun b : V × DV => toPy b.2) hl2.isList e1 e2 ?_ ?_ (by rw [hlen]; exact sz) (fun b hb => ?_) fun out h1 h2 => ?_
  · rw [hsnd]
    intro d hd d' hd'
    rw [List.mem_map] at hd hd'
    obtain ⟨x, hx, rfl⟩ := hd
    obtain ⟨y, hy, rfl⟩ := hd'
    unfold allAlike at al
    rw [List.all_eq_true] at al
    have := al x hx
    rw [List.all_eq_true] at this
    exact this y hy
  · rw [hsnd]
    unfold sortable at so
    rw [Bool.or_eq_true, List.all_eq_true, List.all_eq_true] at so
    rcases so with so | so
    · refine .inl fun d hd => ?_
      rw [List.mem_map] at hd
      obtain ⟨x, hx, rfl⟩ := hd
      have := so x hx
      match x, this with
      | .tup (y :: ys), _ => exact ⟨toPy y, toPys ys, rfl⟩
    · refine .inr fun d hd => ?_
      rw [List.mem_map] at hd
      obtain ⟨x, hx, rfl⟩ := hd
      have := so x hx
      match x, this with
      | .int i, _ => exact ⟨fun z => (by cases z), fun xs z => (by cases z)⟩
      | .str i, _ => exact ⟨fun z => (by cases z), fun xs z => (by cases z)⟩
  · have h1 := dp b.2 (hmem b hb)
    have := hr.un
    show X.A.units + 2 + (toPy b.2).depth < cLine
    omega
  · obtain ⟨ep, he'⟩ := PyProof.Rows.sortedAll_at s.heap its out.toArray
    have rv2 := vals_of_each h2
    have pw := List.pairwise_mergeSort (le := PySem.W.dataLe false fun b : V × DV => toPy b.2) (PySem.W.sortLe_total _ false _).trans (fun a b => by
      rw [Bool.or_eq_true]
      exact (PySem.W.sortLe_total (PyProof.Rows.listOrd PyProof.Rows.itemOrd) false fun b : V × DV => PySem.W.keyToks (toPy b.2)).total a b) (xs.zip ds)
    have pm := List.mergeSort_perm (xs.zip ds) (PySem.W.dataLe false fun b : V × DV => toPy b.2)
    generalize hms : (xs.zip ds).mergeSort (PySem.W.dataLe false fun b : V × DV => toPy b.2) = ps at rv2 pm pw
    have hz : (ps.map (·.1)).length ≤ sizeLine := by
      rw [List.length_map, pm.length_eq, hlen]
      exact sz
    refine ⟨.ref _, upd H (s.heap.objs.size + 1) (.lst (ps.map (·.1))), I.laid (t' := s.toks) (fun _ _ => PyProof.Rows.sortedAll_old) (Nat.le_succ _) ⟨hz, out, ep, rv2, he'⟩, rfl, q ps _ pm ?_ (I.hok.fresh (Nat.le_succ _))⟩
    rw [List.pairwise_map]
    exact pw.imp fun {a b} h => h
end
section
variable {X : Cx} {p pos : Pos} {e : Expr} {w : WE}
theorem Iss.noLen {K : PySem.W.Frag} {H : Hp} {ps : List (V × DV)} (h : ∀ q ∈ ps, Is K H q.1 q.2) : Iss K H (ps.map (·.1)) (ps.map (·.2)) := Iss.ofAll h
theorem sorted_rd {K : PySem.W.Frag} : RAD K (rSortedD K) wSorted := by
  intro R μ H vs ds P Q o i w k
  have go : ∀ (a : Addr) (xs : List V) (ds : List DV), SqL K H a xs → Iss K (hid R μ H) xs ds → sortW ds μ P → rSortedD K [.ref a] H Q := by
    rintro a xs ds hx rx ⟨no, al, so, dp, sz, w⟩
    refine ⟨a, xs, ds, rfl, hx, rx.mono hid_le, no, al, so, dp, sz, fun ps p pm pw n => ?_⟩
    have hall : ∀ q ∈ ps, Is K (hid R μ H) q.1 q.2 := fun q hq => Iss.zipAll rx q (pm.mem_iff.mp hq)
    have hp2 : (ps.map (·.2)).Perm ds := by
      have := pm.map (·.2)
      rw [zip_snd rx.length] at this
      exact this
    exact k.lst o (w _ hp2 pw) (Iss.ofAll hall) n
  match ds, w with
  | [.lst ds], w =>
    obtain ⟨v, rfl, i1⟩ := i.one
    cases i1 with
    | @lst a xs _ hx rx => exact go a xs ds (SqL.of (hid_le _ _ hx)) rx w
  | [.obj a], w =>
    obtain ⟨v, rfl, i1⟩ := i.one
    have w' : (match μ a with | some (.lst ds) => sortW ds μ P | _ => False) := w
    split at w'
    · rename_i ds e
      obtain ⟨xs, h1, r⟩ := o.ob a _ e
      cases i1
      exact go a xs ds (SqL.of h1) r w'
    · exact w'.elim
theorem d_sorted {k : Nat} (hr : Room k X.A) (hsm : ∃ o, X.base.get? sysModules = some o) (hg : Gl X "sorted") (hm : X.mg "sorted" = none) (ha : PE X e (tD X.K w)) (hs : starEach [e] X.env = [(false, eval e X.env)] := by rfl) :
    PE X (.Call (.Name "sorted" p) [e] [] pos) (tD X.K (wB wSorted (wCons w wNil))) :=
  d_callB (call_sortedD hr hsm) sorted_rd hg hm (by decide +kernel) (da_cons ha da_nil hs) (by decide) (by decide) hs rfl
end

end Dz

set_option Elab.async false
set_option linter.all false
set_option maxRecDepth 100000
set_option maxHeartbeats 4000000
namespace Dz
open PySem L2 PyProof.Rows

/-! ### enumerate of a tuple or a list -/
def enumD : Nat → List DV → List DV
  | _, [] => []
  | i, d :: ds => .tup [.int (i : Nat), d] :: enumD (i + 1) ds
theorem enumD_len : ∀ (k : Nat) (ds : List DV), (enumD k ds).length = ds.length
  | _, [] => rfl
  | k, _ :: ds => congrArg (· + 1) (enumD_len (k + 1) ds)
theorem enumD_get : ∀ (k : Nat) (ds : List DV) (i : Nat) {d : DV}, ds[i]? = some d → (enumD k ds)[i]? = some (.tup [.int ((k + i : Nat)), d])
  | _, [], _, _, h => by simp at h
  | k, e :: ds, 0, d, h => by
    have : e = d := by simpa using h
    subst this
    rfl
  | k, _ :: ds, i + 1, d, h => by
    have := enumD_get (k + 1) ds i (by simpa using h)
    have e : k + 1 + i = k + (i + 1) := by omega
    rw [e] at this
    simpa [enumD] using this
set_option maxHeartbeats 4000000 in
theorem newEnumB {v : Value} {ob : Obj} {HH : Heap → Prop} (B : Begins v ob HH) :
    Meets (Builtin.«enumerate.__new__» ⟨[.type "enumerate", v], []⟩) (fun _ R s => HH s.heap ∧
      R (.ok (.ret (.ref (s.heap.push ob).objs.size))) { s with heap := (s.heap.push ob).push { cls := .type "enumerate", data := .fields #[.none, .bool false, .ref s.heap.objs.size, rawInt 0, .none, .none] } }) :=
  .of_wp fun prog w A R s h => by
    obtain ⟨hp, g, d, tk, os⟩ := s
    obtain ⟨hb, h⟩ := h
    have hsub := sub_enumerate
    have begin_ : ∀ {A' : Around} {E : Value → Shared → Prop} {Q : Value → Shared → Prop}, Q (.ref hp.objs.size) ⟨hp.push ob, g, d, tk, os⟩ → wpAny (model prog w) A' (pyIter v) Q E ⟨hp, g, d, tk, os⟩ :=
      fun q => B.iter prog w _ _ ⟨hp, g, d, tk, os⟩ _ hb q
    wp_walk using begin_
    refine wpAny_stack_any fun st => wpAny_pure ?_
    split
    · rename_i cl _ _ _ _ _
      cases (cl == Value.type "enumerate")
      all_goals
        wp_walk using begin_
        exact ⟨_, rfl, h⟩
    · wp_walk using begin_
      exact ⟨_, rfl, h⟩
theorem call_enumB {prog : Program} {w : World} {A : Around} {E : Value → Shared → Prop} {s : Shared} {v : Value} {ob : Obj} {HH : Heap → Prop} {Q : Value → Shared → Prop} (B : Begins v ob HH) (hb : HH s.heap)
    (h : ∀ h', IsEnum h' (s.heap.objs.size + 1) s.heap.objs.size 0 .none → h'.get? s.heap.objs.size = some ob → h'.objs.size = s.heap.objs.size + 2 →
      (∀ b o, s.heap.get? b = some o → h'.get? b = some o) → Q (.ref (s.heap.objs.size + 1)) { s with heap := h' }) : wpAny (model prog w) A (call (.type "enumerate") [v]) Q E s := by
  refine callType_new F.called_enumerate (by decide) (F.typeCall_enumerate_1 _) (F.newCall_enumerate_1 _) (fun obj => F.args_object_init_2 obj _) F.entry_enumerate_new (newEnumB B) ⟨hb, ?_⟩
  have size1 : (s.heap.push ob).objs.size = s.heap.objs.size + 1 := Heap.size_push ..
  show _ ∧ _
  rw [size1]
  have made : IsEnum ((s.heap.push ob).push { cls := .type "enumerate", data := .fields #[.none, .bool false, .ref s.heap.objs.size, rawInt 0, .none, .none] }) (s.heap.objs.size + 1) s.heap.objs.size 0 .none := by
    have z := Heap.get?_push_size (s.heap.push ob) (o := { cls := .type "enumerate", data := .fields #[.none, .bool false, .ref s.heap.objs.size, rawInt 0, .none, .none] }) rfl
    rw [size1] at z
    exact z
  refine ⟨⟨_, made, rfl⟩, h _ made (Heap.get?_push_of_some _ (Heap.get?_push_size _ B.free)) (by rw [Heap.size_push, size1]) fun b o x => Heap.get?_push_of_some _ (Heap.get?_push_of_some _ x)⟩

/-- a tuple walked with places -/
def IteT (K : PySem.W.Frag) (a : Addr) : It where
  go := fun i H => ∃ (xs : List V) (x : V), SqT K H a xs ∧ xs[i]? = some x
  yld := fun i H v H' => ∃ T x, v = .ref T ∧ H T = none ∧ (∃ o, NewT o ∧ H' = upd H T (.frz o (.tup [.int (i : Nat), x]))) ∧ ∀ xs, SqT K H a xs → xs[i]? = some x
  stop := fun i H => ∃ xs : List V, SqT K H a xs ∧ xs.length ≤ i
theorem turn_enumT {P : Program} {w : World} {K : PySem.W.Frag} {elts : List Expr} {kk : Nat} {tpos : Pos} (a e it : Addr) :
    Turn P w K (.Tuple elts kk tpos) (IteT K a) [e, it] e (fun i h => (∃ old, IsEnum h e it ((i : Nat) : Int) old) ∧ h.IsTupleIter it a i ∧ e ≠ it) where
  mem := by simp
  obj := fun i h st b hb => by
    obtain ⟨⟨old, he⟩, ⟨o, ho, hc, hd⟩, _⟩ := st
    rcases (show b = e ∨ b = it by simpa using hb) with rfl | rfl
    · exact ⟨_, he, fun v q => nomatch q⟩
    · exact ⟨o, ho, fun v q => by rw [hd] at q; cases q⟩
  keep := fun i h h' st k => by
    obtain ⟨⟨old, he⟩, hi, hne⟩ := st
    exact ⟨⟨old, k e (by simp) _ he⟩, hi.at fun o q => k it (by simp) o q, hne⟩
  item := by
    intro X hP hw hK hc i pins s σ H E I hf st hg
    subst hP hw hK
    obtain ⟨⟨old, he⟩, hit, hne⟩ := st
    obtain ⟨xs, x, hq, hx⟩ := hg
    obtain ⟨its, rv, p, hz⟩ := I.tuple hq
    obtain ⟨u, hu, ru⟩ := rv.get hx
    have hel : e < s.heap.objs.size := Heap.lt_size he
    have hil : it < s.heap.objs.size := by obtain ⟨_, q, _⟩ := hit; exact Heap.lt_size q
    have pT : s.heap.IsTuple a its.toArray := p
    have hai : a ≠ it := fun z => by
      obtain ⟨o1, g1, c1, _⟩ := hit
      obtain ⟨o2, g2, c2, _⟩ := pT
      rw [z, g1] at g2
      cases g2
      rw [c1] at c2
      injection c2 with q
      exact absurd q (by decide)
    have hae : e ≠ a := fun z => by
      obtain ⟨o2, g2, c2, _⟩ := pT
      rw [← z, he] at g2
      cases g2
      injection c2 with q
      exact absurd q (by decide)
    refine wpAny_pyNext_enum_itemD (Draws.tuple (prog := X.prog) (w := X.w) (A := X.A.in1) (I.ok.hd hc) it a hai its.toArray) he ⟨hit, pT⟩ ?_ hne ?_ fun x' h' tk hx' ho hst' hT hsz hk => ?_
    · obtain ⟨hi, _⟩ := List.getElem?_eq_some_iff.mp hu
      simpa using hi
    · intro hm
      rcases (show e = it ∨ e = a by simpa using hm) with z | z
      · exact hne z
      · exact hae z
    · have ex : x' = u := by
        have e1 : its.toArray[i]? = some x' := hx'
        have e2 : its.toArray[i]? = some u := by simpa using hu
        rw [e1] at e2
        exact Option.some.inj e2
      subst ex
      refine ⟨_, rfl, wpAny_letOwnedTupleGo_enum (s := { s with heap := h', toks := tk + 1 }) ho fun h'' he' sb => ?_⟩
      have hT2 : h''.get? s.heap.objs.size = some { cls := .type "tuple", data := .seq #[.int i tk, x'] } := (sb.2 _ (Nat.ne_of_gt hel)).trans hT
      have new : ObjOk X.prog X.w (upd H s.heap.objs.size (.frz { cls := .type "tuple", data := .seq #[.int i tk, x'] } (.tup [.int (i : Nat), x]))) h'' s.heap.objs.size (.frz { cls := .type "tuple", data := .seq #[.int i tk, x'] } (.tup [.int (i : Nat), x])) :=
        ⟨hT2, by show 2 ≤ sizeLine; decide, [.int i tk, x'], .cons ⟨_, rfl⟩ (.cons ru .nil), ⟨_, hT2, rfl, _, rfl⟩⟩
      have I1 : Inv X pins σ (upd H s.heap.objs.size (.frz { cls := .type "tuple", data := .seq #[.int i tk, x'] } (.tup [.int (i : Nat), x]))) { s with heap := h'', toks := tk + 1 } :=
        I.turnedNew (ch := [e, it]) (fun b ob hb q => (sb.2 b (fun z => hb (by simp [z]))).trans (hk b ob (fun z => hb (by simp [z])) (fun z => hb (by simp [z])) q)) hf (Nat.le_refl _) new
      refine ⟨.ref s.heap.objs.size, _, I1, rfl, ⟨_, x, rfl, I.hok.fresh (Nat.le_refl _), ⟨_, ⟨rfl, rfl⟩, rfl⟩, fun ys hy => by rw [I.tuple_inj hy hq]; exact hx⟩, ⟨⟨x', ?_⟩, hst'.1.at fun o q => (sb.2 it (Ne.symm hne)).trans q, hne⟩, fun b hb => ?_⟩
      · rw [show ((i + 1 : Nat) : Int) = (i : Int) + 1 by omega]
        exact he'
      · have hb' : b < s.heap.objs.size := by
          rcases (show b = e ∨ b = it by simpa using hb) with rfl | rfl
          · exact hel
          · exact hil
        rw [upd_ne (Nat.ne_of_lt hb')]
        exact (hf b hb).1
  done := by
    intro X hP hw hK hc i pins s σ H E I hf st hg
    subst hP hw hK
    obtain ⟨⟨old, he⟩, hit, hne⟩ := st
    obtain ⟨xs, hq, hx⟩ := hg
    obtain ⟨its, rv, p, hz⟩ := I.tuple hq
    obtain ⟨f0, f1, f2, f3, f4, f5⟩ := hf it (by simp)
    have pT : s.heap.IsTuple a its.toArray := p
    have hl := rv.length
    have D : Draws X.prog X.w X.A.in1 it [it, a] i (fun _ _ => False) (fun j h => j = i ∧ h.IsTupleIter it a j ∧ h.IsTuple a its.toArray) := {
      live := fun _ _ st => let ⟨o, ho, _⟩ := st.2.1; ⟨o, ho⟩
      frame := fun _ _ _ st hk => ⟨st.1, st.2.1.at fun o e => hk it (by simp) o e, st.2.2.at fun o e => hk a (by simp) o e⟩
      item := fun j s Q E hj st _ => absurd hj (by rw [st.1]; exact Nat.lt_irrefl _)
      done := fun s Q E st hE => wpAny_nextOf_tuple_end (A := X.A.in1) (I.ok.hd hc) st.2.1 st.2.2 (by simp; omega) hE }
    exact wpAny_pyNext_enum_endD D he ⟨rfl, hit, pT⟩ fun h' eb => ⟨rfl, I.turned (t' := s.toks) (fun b o hb q => eb b o hb q) f0 f1 f3 f4 f5⟩
  self := fun A i s Q E st h => let ⟨⟨_, he⟩, _⟩ := st; wpAny_pyIter_enum he h
def iEnumT (K : PySem.W.Frag) (ta : TA) : TI := fun σ H R => ta σ H fun vs H1 => ∃ a xs, vs = [V.ref a] ∧ SqT K H1 a xs ∧ R (IteT K a) H1
theorem pi_enumT {X : Cx} {e : Expr} {ta : TA} {p pos tpos : Pos} {elts : List Expr} {kk : Nat} (hg : Gl X "enumerate") (hm : X.mg "enumerate" = none) (ha : PA X [e] ta) (hs : starEach [e] X.env = [(false, eval e X.env)] := by rfl) :
    PI X (.Tuple elts kk tpos) (.Call (.Name "enumerate" p) [e] [] pos) (iEnumT X.K ta) := by
  refine ⟨fun pins s σ H R I h => Call_ (ld_blt I hg hm boot_enumerate (PyProof.Rows.callWith_type1 (thn (ha.run pos pins s σ H _ I h) fun us s1 ⟨vs, H1, I1, r1, q1⟩ => ?_) hs rfl))⟩
  obtain ⟨a, xs, ex, hq, q⟩ := q1
  subst ex
  cases r1 with
  | cons r rr =>
    cases rr
    cases r
    obtain ⟨its, rv, p', hz⟩ := I1.tuple hq
    have pT : s1.heap.IsTuple a its.toArray := p'
    refine call_enumB (begins_tuple a its.toArray) pT fun h' he hit hsz hk => wpAny_pyIter_enum he ?_
    have I2 : Inv X pins σ H1 { s1 with heap := h' } := I1.kept (t' := s1.toks) hk
    refine ⟨s1.heap.objs.size + 1, [s1.heap.objs.size + 1, s1.heap.objs.size], _, _, H1, rfl, I2, turn_enumT a (s1.heap.objs.size + 1) s1.heap.objs.size, ⟨⟨.none, he⟩, ⟨_, hit, rfl, rfl⟩, Nat.succ_ne_self _⟩, fun b hb => ?_, q⟩
    have hle : s1.heap.objs.size ≤ b := by
      rcases (show b = s1.heap.objs.size + 1 ∨ b = s1.heap.objs.size by simpa using hb) with z | z
      · rw [z]; exact Nat.le_add_right _ _
      · rw [z]; exact Nat.le_refl _
    exact I1.fpOk hle (I1.hok.fresh hle)
theorem ItD.enumT {K : PySem.W.Frag} {Hm : Hp} {a : Addr} {vs : List V} {xs : List DV} (h : SqT K Hm a vs) (r : Iss K Hm vs xs) : ItD K Hm (IteT K a) (enumD 0 xs) where
  go := fun R μ H i o s hi => by
    rw [enumD_len] at hi
    obtain ⟨v, e, _⟩ := r.get (List.getElem?_eq_getElem hi)
    exact ⟨vs, v, Same.seqT (s.trans hid_le) h, e⟩
  yld := fun R μ H i x H' o s y hi => by
    obtain ⟨T, u, rfl, n, ⟨ob, nt, rfl⟩, y⟩ := y
    have e := y vs (Same.seqT (s.trans hid_le) h)
    obtain ⟨d, e2, k⟩ := r.getV e
    have e3 := enumD_get 0 xs i e2
    rw [Nat.zero_add] at e3
    exact ⟨_, e3, o.new n, o.sameNew n, isTup nt o n (.cons (.int _) (.cons (k.mono s) .nil))⟩
  stop := fun R μ H i o s hi => ⟨vs, Same.seqT (s.trans hid_le) h, by rw [r.length]; rw [enumD_len] at hi; exact hi⟩
/-- a list walked with places -/
def IteL (K : PySem.W.Frag) (a : Addr) : It where
  go := fun i H => ∃ (xs : List V) (x : V), SqL K H a xs ∧ xs[i]? = some x
  yld := fun i H v H' => ∃ T x, v = .ref T ∧ H T = none ∧ (∃ o, NewT o ∧ H' = upd H T (.frz o (.tup [.int (i : Nat), x]))) ∧ ∀ xs, SqL K H a xs → xs[i]? = some x
  stop := fun i H => ∃ xs : List V, SqL K H a xs ∧ xs.length ≤ i
theorem turn_enumL {P : Program} {w : World} {K : PySem.W.Frag} {elts : List Expr} {kk : Nat} {tpos : Pos} (a e it : Addr) :
    Turn P w K (.Tuple elts kk tpos) (IteL K a) [e, it] e (fun i h => (∃ old, IsEnum h e it ((i : Nat) : Int) old) ∧ h.IsListIter it a i ∧ e ≠ it) where
  mem := by simp
  obj := fun i h st b hb => by
    obtain ⟨⟨old, he⟩, ⟨o, ho, hc, hd⟩, _⟩ := st
    rcases (show b = e ∨ b = it by simpa using hb) with rfl | rfl
    · exact ⟨_, he, fun v q => nomatch q⟩
    · exact ⟨o, ho, fun v q => by rw [hd] at q; cases q⟩
  keep := fun i h h' st k => by
    obtain ⟨⟨old, he⟩, hi, hne⟩ := st
    exact ⟨⟨old, k e (by simp) _ he⟩, hi.at fun o q => k it (by simp) o q, hne⟩
  item := by
    intro X hP hw hK hc i pins s σ H E I hf st hg
    subst hP hw hK
    obtain ⟨⟨old, he⟩, hit, hne⟩ := st
    obtain ⟨xs, x, hq, hx⟩ := hg
    obtain ⟨its, rv, p, hz⟩ := I.list hq
    obtain ⟨u, hu, ru⟩ := rv.get hx
    have hel : e < s.heap.objs.size := Heap.lt_size he
    have hil : it < s.heap.objs.size := by obtain ⟨_, q, _⟩ := hit; exact Heap.lt_size q
    refine wpAny_pyNext_enum_item he hit p.isList (x := u) (by simpa using hu) hne fun h' ho hit' hT hsz hk => ?_
    refine ⟨_, rfl, wpAny_letOwnedTupleGo_enum (s := { s with heap := h', toks := s.toks + 1 }) ho fun h'' he' sb => ?_⟩
    have hT2 : h''.get? s.heap.objs.size = some { cls := .type "tuple", data := .seq #[.int i s.toks, u] } := (sb.2 _ (Nat.ne_of_gt hel)).trans hT
    have new : ObjOk X.prog X.w (upd H s.heap.objs.size (.frz { cls := .type "tuple", data := .seq #[.int i s.toks, u] } (.tup [.int (i : Nat), x]))) h'' s.heap.objs.size (.frz { cls := .type "tuple", data := .seq #[.int i s.toks, u] } (.tup [.int (i : Nat), x])) :=
      ⟨hT2, by show 2 ≤ sizeLine; decide, [.int i s.toks, u], .cons ⟨_, rfl⟩ (.cons ru .nil), ⟨_, hT2, rfl, _, rfl⟩⟩
    have I1 : Inv X pins σ (upd H s.heap.objs.size (.frz { cls := .type "tuple", data := .seq #[.int i s.toks, u] } (.tup [.int (i : Nat), x]))) { s with heap := h'', toks := s.toks + 1 } :=
      I.turnedNew (ch := [e, it]) (fun b ob hb q => (sb.2 b (fun z => hb (by simp [z]))).trans (hk b ob (fun z => hb (by simp [z])) (fun z => hb (by simp [z])) q)) hf (Nat.le_refl _) new
    refine ⟨.ref s.heap.objs.size, _, I1, rfl, ⟨_, x, rfl, I.hok.fresh (Nat.le_refl _), ⟨_, ⟨rfl, rfl⟩, rfl⟩, fun ys hy => by rw [I.list_inj hy hq]; exact hx⟩, ⟨⟨u, ?_⟩, hit'.at fun o q => (sb.2 it (Ne.symm hne)).trans q, hne⟩, fun b hb => ?_⟩
    · rw [show ((i + 1 : Nat) : Int) = (i : Int) + 1 by omega]
      exact he'
    · have hb' : b < s.heap.objs.size := by
        rcases (show b = e ∨ b = it by simpa using hb) with rfl | rfl
        · exact hel
        · exact hil
      rw [upd_ne (Nat.ne_of_lt hb')]
      exact (hf b hb).1
  done := by
    intro X hP hw hK hc i pins s σ H E I hf st hg
    subst hP hw hK
    obtain ⟨⟨old, he⟩, hit, hne⟩ := st
    obtain ⟨xs, hq, hx⟩ := hg
    obtain ⟨its, rv, p, hz⟩ := I.list hq
    obtain ⟨f0, f1, f2, f3, f4, f5⟩ := hf it (by simp)
    have hl := rv.length
    exact wpAny_pyNext_enum_end (I.ok.hd hc) he hit p.isList (by simp; omega) fun h' eb => ⟨rfl, I.turned (t' := s.toks) (fun b o hb q => eb b o hb q) f0 f1 f3 f4 f5⟩
  self := fun A i s Q E st h => let ⟨⟨_, he⟩, _⟩ := st; wpAny_pyIter_enum he h
def iEnumL (K : PySem.W.Frag) (ta : TA) : TI := fun σ H R => ta σ H fun vs H1 => ∃ a xs, vs = [V.ref a] ∧ SqL K H1 a xs ∧ R (IteL K a) H1
theorem pi_enumL {X : Cx} {e : Expr} {ta : TA} {p pos tpos : Pos} {elts : List Expr} {kk : Nat} (hg : Gl X "enumerate") (hm : X.mg "enumerate" = none) (ha : PA X [e] ta) (hs : starEach [e] X.env = [(false, eval e X.env)] := by rfl) :
    PI X (.Tuple elts kk tpos) (.Call (.Name "enumerate" p) [e] [] pos) (iEnumL X.K ta) := by
  refine ⟨fun pins s σ H R I h => Call_ (ld_blt I hg hm boot_enumerate (PyProof.Rows.callWith_type1 (thn (ha.run pos pins s σ H _ I h) fun us s1 ⟨vs, H1, I1, r1, q1⟩ => ?_) hs rfl))⟩
  obtain ⟨a, xs, ex, hq, q⟩ := q1
  subst ex
  cases r1 with
  | cons r rr =>
    cases rr
    cases r
    obtain ⟨its, rv, p', hz⟩ := I1.list hq
    refine call_enumerate_list p'.isList fun h' he hit hsz hk => wpAny_pyIter_enum he ?_
    have I2 : Inv X pins σ H1 { s1 with heap := h' } := I1.kept (t' := s1.toks) hk
    refine ⟨s1.heap.objs.size + 1, [s1.heap.objs.size + 1, s1.heap.objs.size], _, _, H1, rfl, I2, turn_enumL a (s1.heap.objs.size + 1) s1.heap.objs.size, ⟨⟨.none, he⟩, hit, Nat.succ_ne_self _⟩, fun b hb => ?_, q⟩
    have hle : s1.heap.objs.size ≤ b := by
      rcases (show b = s1.heap.objs.size + 1 ∨ b = s1.heap.objs.size by simpa using hb) with z | z
      · rw [z]; exact Nat.le_add_right _ _
      · rw [z]; exact Nat.le_refl _
    exact I1.fpOk hle (I1.hok.fresh hle)
theorem ItD.enumL {K : PySem.W.Frag} {Hm : Hp} {a : Addr} {vs : List V} {xs : List DV} (h : Hm a = some (.lst vs)) (r : Iss K Hm vs xs) : ItD K Hm (IteL K a) (enumD 0 xs) where
  go := fun R μ H i o s hi => by
    rw [enumD_len] at hi
    obtain ⟨v, e, _⟩ := r.get (List.getElem?_eq_getElem hi)
    exact ⟨vs, v, SqL.of (hid_le _ _ (s _ _ h)), e⟩
  yld := fun R μ H i x H' o s y hi => by
    obtain ⟨T, u, rfl, n, ⟨ob, nt, rfl⟩, y⟩ := y
    have e := y vs (SqL.of (hid_le _ _ (s _ _ h)))
    obtain ⟨d, e2, k⟩ := r.getV e
    have e3 := enumD_get 0 xs i e2
    rw [Nat.zero_add] at e3
    exact ⟨_, e3, o.new n, o.sameNew n, isTup nt o n (.cons (.int _) (.cons (k.mono s) .nil))⟩
  stop := fun R μ H i o s hi => ⟨vs, SqL.of (hid_le _ _ (s _ _ h)), by rw [r.length]; rw [enumD_len] at hi; exact hi⟩
def sEnumT (w : WE) : WI := fun ρ μ P => w ρ μ fun d μ1 => match d with | .tup xs => P (enumD 0 xs) μ1 | _ => False
def sEnumL (w : WE) : WI := fun ρ μ P => w ρ μ fun d μ1 => match d with | .lst xs => P (enumD 0 xs) μ1 | _ => False
section
variable {X : Cx} {e : Expr} {w : WE} {p pos tpos : Pos} {elts : List Expr} {kk : Nat}
theorem di_enumT (hg : Gl X "enumerate") (hm : X.mg "enumerate" = none) (h : PE X e (tD X.K w)) (hs : starEach [e] X.env = [(false, eval e X.env)] := by rfl) : PI X (.Tuple elts kk tpos) (.Call (.Name "enumerate" p) [e] [] pos) (tDI X.K (sEnumT w)) :=
  PI.imp (pi_enumT hg hm (pa_cons h pa_nil hs) hs) fun σ H RR ⟨R, ρ, μ, P, a, w, k⟩ => ⟨R, ρ, μ, _, a, w, fun d μ1 v H1 p1 o1 s1 i1 => by
    cases i1 with
    | tup hx rx => exact ⟨_, _, rfl, Same.seqT hid_le hx.t, k _ μ1 H1 _ p1 o1 s1 (.enumT hx.t rx)⟩
    | _ => exact (show False from p1).elim⟩
theorem di_enumL (hg : Gl X "enumerate") (hm : X.mg "enumerate" = none) (h : PE X e (tD X.K w)) (hs : starEach [e] X.env = [(false, eval e X.env)] := by rfl) : PI X (.Tuple elts kk tpos) (.Call (.Name "enumerate" p) [e] [] pos) (tDI X.K (sEnumL w)) :=
  PI.imp (pi_enumL hg hm (pa_cons h pa_nil hs) hs) fun σ H RR ⟨R, ρ, μ, P, a, w, k⟩ => ⟨R, ρ, μ, _, a, w, fun d μ1 v H1 p1 o1 s1 i1 => by
    cases i1 with
    | lst hx rx => exact ⟨_, _, rfl, SqL.of (hid_le _ _ hx), k _ μ1 H1 _ p1 o1 s1 (.enumL hx rx)⟩
    | _ => exact (show False from p1).elim⟩
end
end Dz

set_option Elab.async false
set_option linter.all false
set_option maxRecDepth 100000
set_option maxHeartbeats 2000000
/-! DzB: match of a text against written texts. -/
namespace Dz
open PySem L2

section
variable {X : Cx}
/-- the pattern takes exactly the texts cs, and binds nothing -/
def PatIs (X : Cx) (p : Pattern) (cs : List Str) : Prop := ∀ (pins : List (Addr × Obj)) (s : Shared) (σ : L2.St) (H : Hp) (z : Str) (t : Tok), Inv X pins σ H s →
  wpAny (model X.prog X.w) X.A (matchPattern p X.env (.str z t)) (fun r s' => Inv X pins σ H s' ∧ r = if cs.contains z = true then some [] else none) X.xe s
def FirstIs (X : Cx) (ps : List Pattern) (cs : List Str) : Prop := ∀ (pins : List (Addr × Obj)) (s : Shared) (σ : L2.St) (H : Hp) (z : Str) (t : Tok), Inv X pins σ H s →
  wpAny (model X.prog X.w) X.A (matchFirst ps X.env (.str z t)) (fun r s' => Inv X pins σ H s' ∧ r = if cs.contains z = true then some [] else none) X.xe s
theorem pat_val {c : Str} {k : Nat} {p pos : Pos} : PatIs X (.MatchValue (.Constant (.str c) k p) pos) [c] := by
  intro pins s σ H z t I
  refine wpAny_matchPattern_Value (thn ((pe_str (X := X) (x := c)).run pins s σ H (fun v H' => v = .str c ∧ H' = H) I ⟨rfl, rfl⟩) fun u s1 ⟨v, H1, I1, r1, e1, e2⟩ => ?_)
  subst e1 e2
  refine thn (op_eq (X := X) pins s1 σ H1 (.str z) (.str c) (.str z t) u (fun v H' => v = .bl (decide (z = c)) ∧ H' = H1) I1 ⟨t, rfl⟩ r1 ⟨rfl, ?_, rfl⟩) fun b s2 ⟨v, H2, I2, r2, e1, e2⟩ => ?_
  · congr 1
    exact decide_eq_decide.mpr ⟨fun h => V.str.inj h, fun h => by rw [h]⟩
  · subst e1 e2
    cases r2
    have hc : ([c] : List Str).contains z = decide (z = c) := by
      rw [List.contains_cons]
      show (z == c || false) = _
      rw [Bool.or_false]
      exact Bool.beq_eq_decide_eq z c
    rw [hc]
    refine wpAny_pure ?_
    cases h : decide (z = c) with
    | true => exact ⟨I2, rfl⟩
    | false => exact ⟨I2, rfl⟩
theorem first_nil : FirstIs X [] [] := fun pins s σ H z t I => wpAny_matchFirst_nil ⟨I, rfl⟩
theorem first_cons {p : Pattern} {ps : List Pattern} {cs ds : List Str} (h : PatIs X p cs) (hr : FirstIs X ps ds) : FirstIs X (p :: ps) (cs ++ ds) := by
  intro pins s σ H z t I
  refine wpAny_matchFirst_cons (thn (h pins s σ H z t I) fun r s1 ⟨I1, e⟩ => ?_)
  subst e
  have ec : (cs ++ ds).contains z = (cs.contains z || ds.contains z) := by simp
  rw [ec]
  cases h1 : cs.contains z with
  | true =>
    rw [if_pos rfl]
    exact ⟨I1, rfl⟩
  | false =>
    rw [if_neg Bool.false_ne_true, Bool.false_or]
    exact hr pins s1 σ H z t I1
theorem pat_or {ps : List Pattern} {cs : List Str} {pos : Pos} (h : FirstIs X ps cs) : PatIs X (.MatchOr ps pos) cs := by
  intro pins s σ H z t I
  refine wpAny_matchPattern_Or (thn (h pins s σ H z t I) fun r s1 ⟨I1, e⟩ => ?_)
  subst e
  cases h1 : cs.contains z with
  | true =>
    rw [if_pos rfl]
    refine ⟨I1, ?_⟩
    simp
  | false =>
    rw [if_neg Bool.false_ne_true]
    exact ⟨I1, rfl⟩
structure PMs (X : Cx) (cases_ : List MatchCase) (t : Str → TS) : Prop where
  run : ∀ (pins : List (Addr × Obj)) (s : Shared) (σ : L2.St) (H : Hp) (z : Str) (tk : Tok) (first : Bool) (D : Ends), Inv X pins σ H s → t z D σ H → wpAny (model X.prog X.w) X.A (matchCases cases_ X.env (.str z tk) first) (SP X pins D) X.xe s
theorem pm_nil : PMs X [] (fun _ => tNext) := ⟨fun pins s σ H z tk first D I h => wpAny_matchCases_nil ⟨σ, H, I, h⟩⟩
theorem pm_cons {p : Pattern} {cs : List Str} {body : List Stmt} {rest : List MatchCase} {tb : TS} {tr : Str → TS} (hp : PatIs X p cs) (hb : PSs X body tb) (hr : PMs X rest tr) : PMs X (⟨p, none, body⟩ :: rest) (fun z D σ H => if cs.contains z = true then tb D σ H else tr z D σ H) := by
  refine ⟨fun pins s σ H z tk first D I h => ?_⟩
  refine wpAny_matchCases_cons (thn (hp pins s σ H z tk I) fun r s1 ⟨I1, e⟩ => ?_)
  subst e
  cases h1 : cs.contains z with
  | true =>
    rw [if_pos rfl]
    rw [if_pos h1] at h
    exact wpAny_assignInOrder_none (hb.run pins s1 σ H D I1 h)
  | false =>
    rw [if_neg Bool.false_ne_true]
    rw [if_neg (by rw [h1]; exact Bool.false_ne_true)] at h
    exact hr.run pins s1 σ H z tk false D I1 h
/-! over data -/
def mW (z : Str) : List (List Str × WS) → WS
  | [] => wNext
  | (cs, b) :: r => fun E ρ μ => if cs.contains z = true then b E ρ μ else mW z r E ρ μ
def wMatch (w : WE) (cs : List (List Str × WS)) : WS := fun E ρ μ => w ρ μ fun d μ1 => match d with | .str z => mW z cs E ρ μ1 | _ => False
theorem dm_nil : PMs X [] (fun z => tDS X.K (mW z [])) := ⟨fun pins s σ H z tk first D I ⟨R, ρ, μ, E, a, w, k⟩ => pm_nil.run pins s σ H z tk first D I (k.nx ρ μ σ H w a (Same.refl _))⟩
theorem dm_cons {p : Pattern} {cs : List Str} {body : List Stmt} {rest : List MatchCase} {b : WS} {r : List (List Str × WS)} (hp : PatIs X p cs) (hb : PSs X body (tDS X.K b)) (hr : PMs X rest (fun z => tDS X.K (mW z r))) : PMs X (⟨p, none, body⟩ :: rest) (fun z => tDS X.K (mW z ((cs, b) :: r))) := by
  refine ⟨fun pins s σ H z tk first D I ⟨R, ρ, μ, E, a, w, k⟩ => (pm_cons hp hb hr).run pins s σ H z tk first D I ?_⟩
  have w' : if cs.contains z = true then b E ρ μ else mW z r E ρ μ := w
  show if cs.contains z = true then tDS X.K b D σ H else tDS X.K (mW z r) D σ H
  by_cases h1 : cs.contains z = true
  · rw [if_pos h1] at w' ⊢
    exact ⟨R, ρ, μ, E, a, w', k⟩
  · rw [if_neg h1] at w' ⊢
    exact ⟨R, ρ, μ, E, a, w', k⟩
theorem ds_match {e : Expr} {w : WE} {cases_ : List MatchCase} {cs : List (List Str × WS)} {pos : Pos} (he : PE X e (tD X.K w)) (hm : PMs X cases_ (fun z => tDS X.K (mW z cs))) : PS X (.Match e cases_ pos) (tDS X.K (wMatch w cs)) := by
  refine ⟨fun pins s σ H D I ⟨R, ρ, μ, E, a, w', k⟩ => ?_⟩
  refine wpAny_Match (thn (he.run pins s σ H (fun v H1 => ∃ z, v = .str z ∧ tDS X.K (mW z cs) D σ H1) I ⟨R, ρ, μ, _, a, w', fun d μ1 v H1 p1 o1 s1 i1 => ?_⟩) fun u s1 ⟨v, H1, I1, r1, z, ev, q⟩ => ?_)
  · cases i1 with
    | str z => exact ⟨z, rfl, R, ρ, μ1, E, a.step o1 s1, p1, k.step s1⟩
    | _ => exact (show False from p1).elim
  · subst ev
    obtain ⟨t, rfl⟩ := r1
    exact hm.run pins s1 σ H1 z t true D I1 q
end
end Dz

set_option Elab.async false
set_option linter.all false
set_option maxRecDepth 100000
set_option maxHeartbeats 2000000
/-! DzC: tuples written at the module's level. -/
namespace Dz
open PySem L2

/-- a value of the top that is data whatever the heap is -/
def CI (K : PySem.W.Frag) (u : Value) (d : DV) : Prop := ∃ v, RelV v u ∧ ∀ H, Is K H v d
inductive CIs (K : PySem.W.Frag) : List Value → List DV → Prop
  | nil : CIs K [] []
  | cons {u : Value} {us : List Value} {d : DV} {ds : List DV} : CI K u d → CIs K us ds → CIs K (u :: us) (d :: ds)
theorem CIs.vals {K : PySem.W.Frag} : ∀ {us : List Value} {ds : List DV}, CIs K us ds → ∃ xs, Vals xs us ∧ ∀ H, Iss K H xs ds
  | _, _, .nil => ⟨[], .nil, fun _ => .nil⟩
  | _, _, .cons ⟨v, r, i⟩ h => by
    obtain ⟨xs, r2, i2⟩ := CIs.vals h
    exact ⟨v :: xs, .cons r r2, fun H => .cons (i H) (i2 H)⟩
theorem ci_str {K : PySem.W.Frag} {x : Str} {t : Tok} : CI K (.str x t) (.str x) := ⟨.str x, ⟨t, rfl⟩, fun _ => .str x⟩
theorem ci_int {K : PySem.W.Frag} {i : Int} {t : Tok} : CI K (.int i t) (.int i) := ⟨.int i, ⟨t, rfl⟩, fun _ => .int i⟩
theorem ci_non {K : PySem.W.Frag} : CI K .none .none := ⟨.non, rfl, fun _ => .none⟩
theorem ci_tup {K : PySem.W.Frag} {a : Addr} {its : Array Value} {n : Nat} {sl : Array (Option Value)} {ds : List DV} (l : K.lookup a = some ⟨.type "tuple", none, .seq its n, sl⟩) (hz : its.size ≤ sizeLine) (h : CIs K its.toList ds) : CI K (.ref a) (.tup ds) := by
  obtain ⟨xs, r, i⟩ := h.vals
  exact ⟨.ref a, rfl, fun H => .tup (.inr ⟨_, its, n, l, ⟨rfl, rfl⟩, rfl, hz, r⟩) (i H)⟩
/-- a name of the top that is a constant -/
def GlobIs (K : PySem.W.Frag) (mg : Str → Option Value) (x : Str) (d : DV) : Prop := ∃ u, mg x = some u ∧ CI K u d
theorem glob_of {K : PySem.W.Frag} {h : Heap} {mg : Str → Option Value} {x : Str} {u : Value} {d : DV} (X : K.In h) (G : h.Ns mainGlobals mg) (a : PySem.W.nsIn K mainGlobals x = some (some u)) (c : CI K u d) : GlobIs K mg x d := ⟨u, PySem.W.mg_of X G a, c⟩
theorem d_globE {X : Cx} {x : Str} {d : DV} {pos : Pos} (hg : Gl X x) (h : GlobIs X.K X.mg x d) (hd : (x == ("__debug__" : Str)) = false := by decide) : PE X (.Name x pos) (tD X.K (wC d)) := by
  obtain ⟨u, hm, v, r, i⟩ := h
  exact d_glob hg ⟨u, hm, r⟩ i hd
end Dz

set_option Elab.async false
set_option linter.all false
set_option maxRecDepth 100000
set_option maxHeartbeats 2000000
/-! DzI: xs.index(y), d.get(k), d.get(k, x). -/
namespace Dz
open PySem L2

section
variable {X : Cx} {oe e f : Expr} {pos apos : Pos} {wo we wf : WE}
theorem toPys_get : ∀ {ds : List DV} {j : Nat}, (toPys ds)[j]? = ds[j]?.map toPy
  | ds, j => by rw [toPys_map, List.getElem?_map]
/-- the first place of an equal one -/
def wIndex (wo we : WE) : WE := fun ρ μ P => wo ρ μ fun x μ1 => match x with
  | .lst ds => we ρ μ1 fun y μ2 => shapedD (.lst ds) = true ∧ shapedD y = true ∧ ∃ j z, ds[j]? = some z ∧ deepEq z y = true ∧ (∀ m z', m < j → ds[m]? = some z' → deepEq z' y = false) ∧ P (.int (j : Nat)) μ2
  | _ => False
theorem d_index {k : Nat} (hr : Room k X.A) (ho : PE X oe (tD X.K wo)) (he : PE X e (tD X.K we)) (hs : starEach [e] X.env = [(false, eval e X.env)] := by rfl) (hbase : attributeBase oe "index" X.env (eval oe X.env) = eval oe X.env := by rfl)
    (hfew : ((backTo pos (starEach [e] X.env)).all (fun x => !x.1) && (backToKw pos (keywordEach [] X.env)).all (fun x => x.1.isSome) && decide (([e] : List Expr).length + ([] : List Keyword).length + (if ([] : List Keyword).isEmpty then 0 else 1) < 30)) = true := by rfl) (hline : (apos.endLine == pos.line) = true := by rfl) :
    PE X (.Call (.Attribute oe "index" apos) [e] [] pos) (tD X.K (wIndex wo we)) :=
  PE.imp (pe_bm PySem.F.plainAttrs_list PySem.F.slot_list_index PySem.F.type_list_index (mt_indexD (by have := hr.un; omega)) ho (pa_cons he pa_nil hs) hbase hfew hline hs) fun σ H Q ⟨R, ρ, μ, P, a, w, k⟩ => ⟨R, ρ, μ, _, a, w, fun x μ1 v H1 p1 o1 s1 i1 => by
    cases i1 with
    | @lst b xs ds hx rx =>
      refine ⟨.inl ⟨rfl, xs, SqL.of (hid_le _ _ hx)⟩, R, ρ, μ1, _, a.step o1 s1, p1, fun y μ2 u H2 p2 o2 s2 i2 => ?_⟩
      obtain ⟨sl1, sy, j, z, hj, hz, hno, q⟩ := p2
      have hl2 : Is X.K H2 (.ref b) (.lst ds) := (Is.mono s2 (Is.lst hx rx)).mono hid_le
      have hy2 := i2.mono hid_le
      have d1 := hl2.dpS sl1
      have d2 := hy2.dpS sy
      refine ⟨b, u, toPy y, toPys ds, j, toPy z, rfl, rfl, d1.1, d2.1, d1.2, d2.2, by rw [toPys_get, hj]; rfl, hz, fun m z' hm hz' => ?_, (k.step (s1.trans s2)).val o2 q (.int _)⟩
      rw [toPys_get] at hz'
      cases hd : ds[m]? with
      | none => rw [hd] at hz'; cases hz'
      | some d =>
        rw [hd] at hz'
        have : toPy d = z' := Option.some.inj hz'
        rw [← this]
        exact hno m d hm hd
    | _ => exact (show False from p1).elim⟩
/-! d.get -/
theorem valV_none {kvs : List (Key × V)} {ds : List (Key × DV)} {k : Key} (e : kvs.map (·.1) = ds.map (·.1)) (h : valD ds k = none) : valV kvs k = none := by
  have hd : ∀ d ∈ ds, ¬ d.1 = k := by
    unfold valD at h
    rw [Option.map_eq_none_iff, List.find?_eq_none] at h
    intro d hd
    simpa using h d hd
  unfold valV
  rw [Option.map_eq_none_iff, List.find?_eq_none]
  intro x hx
  have : x.1 ∈ ds.map (·.1) := by rw [← e]; exact List.mem_map_of_mem hx
  obtain ⟨d, h1, h2⟩ := List.mem_map.mp this
  have := hd d h1
  rw [h2] at this
  simpa using this
def isDct (x : DV) (μ : Mh) : Prop := match x with
  | .obj a => match μ a with | some (.dct _) => True | _ => False
  | .dct _ => True
  | _ => False
def getW (kvs : List (Key × DV)) (y z : DV) (μ : Mh) (P : DV → Mh → Prop) : Prop := atW (keyD y) fun k => match valD kvs k with | some d => P d μ | none => P z μ
def wGet2 (wd wk wx : WE) : WE := fun ρ μ P => wd ρ μ fun x μ1 => isDct x μ1 ∧ wk ρ μ1 fun y μ2 => wx ρ μ2 fun z μ3 => match x with
  | .obj a => match μ3 a with
    | some (.dct kvs) => getW kvs y z μ3 P
    | _ => False
  | .dct kvs => getW kvs y z μ3 P
  | _ => False
theorem isD_of {K : PySem.W.Frag} {R : Hp} {μ : Mh} {H : Hp} {v : V} {x : DV} (o : Ok K R μ H) (i : Is K (hid R μ H) v x) (h : isDct x μ) : ∃ a, v = .ref a ∧ IsD H a := by
  cases i with
  | obj a =>
    have h' : (match μ a with | some (.dct _) => True | _ => False) := h
    split at h'
    · rename_i kvs e
      obtain ⟨ks, h3, _⟩ := o.ob a _ e
      exact ⟨a, rfl, .inl ⟨ks, .inl h3⟩⟩
    · exact h'.elim
  | dct h4 h5 h6 => exact ⟨_, rfl, .inl ⟨_, .inl (hid_le _ _ h4)⟩⟩
  | _ => exact h.elim
theorem get_core {K : PySem.W.Frag} {R : Hp} {μ : Mh} {H Hm : Hp} {ks : List (Key × V)} {kvs : List (Key × DV)} {y z : DV} {u v : V} {P : DV → Mh → Prop} {Q : VK} {b : Addr} (o : Ok K R μ H) (k : Nxt K R μ H P Q) (j : Is K (hid R μ H) u y) (i : Is K (hid R μ H) v z) (h3 : H b = some (.dK ks)) (h4 : ks.map (·.1) = kvs.map (·.1)) (h5 : Iss K (hid R μ H) (ks.map (·.2)) (kvs.map (·.2))) (w : getW kvs y z μ P) : ∃ q, DGet H b u q ∧ Q (q.getD v) H := by
  obtain ⟨key, h1, w2⟩ := atW_of w
  rw [keyD_of j h1]
  refine ⟨valV ks key, DGet.k h3, ?_⟩
  cases hd : valD kvs key with
  | none =>
    rw [hd] at w2
    rw [valV_none h4 hd]
    exact k.val o w2 i
  | some d =>
    rw [hd] at w2
    obtain ⟨x, h6, h7⟩ := Iss.val h4 h5 hd
    rw [h6]
    exact k.val o w2 h7
theorem d_get2 {k : Nat} (hr : Room k X.A) (ho : PE X oe (tD X.K wo)) (he : PE X e (tD X.K we)) (hf : PE X f (tD X.K wf)) (m : M2 X oe "get" apos e f pos) : PE X (.Call (.Attribute oe "get" apos) [e, f] [] pos) (tD X.K (wGet2 wo we wf)) :=
  PE.imp (pe_dget2 (by have := hr.un; omega) ho he hf m) fun σ H Q ⟨R, ρ, μ, P, a, w, k⟩ => ⟨R, ρ, μ, _, a, w, fun x μ1 v H1 p1 o1 s1 i1 => by
    obtain ⟨b, rfl, hd⟩ := isD_of o1 i1 p1.1
    refine ⟨b, rfl, hd, R, ρ, μ1, _, a.step o1 s1, p1.2, fun y μ2 u H2 p2 o2 s2 i2 => ⟨R, ρ, μ2, _, a.step o2 (s1.trans s2), p2, fun z μ3 zv H3 p3 o3 s3 i3 => ?_⟩⟩
    have k3 := k.step ((s1.trans s2).trans s3)
    have i1' := i1.mono (s2.trans s3)
    cases i1' with
    | obj =>
      have p3' : (match μ3 b with | some (.dct kvs) => getW kvs y z μ3 P | _ => False) := p3
      split at p3'
      · rename_i kvs e
        obtain ⟨ks, h3, h4, h5⟩ := o3.ob b _ e
        exact get_core (Hm := H3) o3 k3 (i2.mono s3) i3 h3 h4 h5 p3'
      · exact p3'.elim
    | dct h4 h5 h6 => exact get_core (Hm := H3) o3 k3 (i2.mono s3) i3 (hid_le _ _ h4) h5 h6 p3
    | _ => exact (show False from p3).elim⟩
def wGet1 (wd wk : WE) : WE := fun ρ μ P => wd ρ μ fun x μ1 => isDct x μ1 ∧ wk ρ μ1 fun y μ2 => match x with
  | .obj a => match μ2 a with
    | some (.dct kvs) => getW kvs y .none μ2 P
    | _ => False
  | .dct kvs => getW kvs y .none μ2 P
  | _ => False
theorem d_get1 {k : Nat} (hr : Room k X.A) (ho : PE X oe (tD X.K wo)) (he : PE X e (tD X.K we)) (m : M1 X oe "get" apos e pos) : PE X (.Call (.Attribute oe "get" apos) [e] [] pos) (tD X.K (wGet1 wo we)) :=
  PE.imp (pe_dget1 (by have := hr.un; omega) ho he m) fun σ H Q ⟨R, ρ, μ, P, a, w, k⟩ => ⟨R, ρ, μ, _, a, w, fun x μ1 v H1 p1 o1 s1 i1 => by
    obtain ⟨b, rfl, hd⟩ := isD_of o1 i1 p1.1
    refine ⟨b, rfl, hd, R, ρ, μ1, _, a.step o1 s1, p1.2, fun y μ2 u H2 p2 o2 s2 i2 => ?_⟩
    have k2 := k.step (s1.trans s2)
    have i1' := i1.mono s2
    cases i1' with
    | obj =>
      have p2' : (match μ2 b with | some (.dct kvs) => getW kvs y .none μ2 P | _ => False) := p2
      split at p2'
      · rename_i kvs e
        obtain ⟨ks, h3, h4, h5⟩ := o2.ob b _ e
        exact get_core (Hm := H2) o2 k2 i2 .none h3 h4 h5 p2'
      · exact p2'.elim
    | dct h4 h5 h6 => exact get_core (Hm := H2) o2 k2 i2 .none (hid_le _ _ h4) h5 h6 p2
    | _ => exact (show False from p2).elim⟩
end
end Dz

set_option Elab.async false
set_option linter.all false
set_option maxRecDepth 100000
set_option maxHeartbeats 2000000
/-! DzJ: dicts written at the module's level, by text. -/
namespace Dz
open PySem L2

/-- a name of the top that is a written dict -/
def DctIs (K : PySem.W.Frag) (w : World) (mg : Str → Option Value) (x : Str) (f : List (Str × DV)) : Prop := ∃ p, mg x = some (.ref p) ∧ ∀ e ∈ f, ∃ v, KDct K w p e.1 v ∧ ∀ H, Is K H v e.2
def lookD (f : List (Str × DV)) (z : Str) : Option DV := (f.find? fun e => decide (e.1 = z)).map (·.2)
def wIxK (f : List (Str × DV)) (wb : WE) : WE := fun ρ μ P => wb ρ μ fun y μ1 => match y with
  | .str z => atW (lookD f z) fun d => P d μ1
  | _ => False
theorem d_ixK {X : Cx} {x : Str} {f : List (Str × DV)} {b : Expr} {wb : WE} {pos p2 : Pos} (hg : Gl X x) (h : DctIs X.K X.w X.mg x f) (hb : PE X b (tD X.K wb)) (hs : PlainIx b := by exact fun _ _ => rfl) (hd : (x == ("__debug__" : Str)) = false := by decide) :
    PE X (.Subscript (.Name x p2) b pos) (tD X.K (wIxK f wb)) := by
  obtain ⟨p, hm, hf⟩ := h
  refine PE.imp (pe_ix ix_kdict (pe_glob (v := .ref p) hg hm rfl hd) hb hs) fun σ H Q ⟨R, ρ, μ, P, a, w, k⟩ => ?_
  refine ⟨R, ρ, μ, _, a, w, fun y μ1 u H1 p1 o1 s1 i1 => ?_⟩
  cases i1 with
  | str z =>
    obtain ⟨d, hl, q⟩ := atW_of (show atW (lookD f z) _ from p1)
    unfold lookD at hl
    cases hfz : f.find? fun e => decide (e.1 = z) with
    | none => rw [hfz] at hl; cases hl
    | some e =>
      rw [hfz] at hl
      have ed : e.2 = d := Option.some.inj hl
      have ez : e.1 = z := of_decide_eq_true (List.find?_some (p := fun e : Str × DV => decide (e.1 = z)) hfz)
      obtain ⟨v, kd, iv⟩ := hf e (List.mem_of_find?_eq_some hfz)
      rw [ez] at kd
      rw [ed] at iv
      exact ⟨p, z, v, rfl, rfl, kd, (k.step s1).val o1 q (iv _)⟩
  | _ => exact (show False from p1).elim
theorem dct_of {K : PySem.W.Frag} {h : Heap} {w : World} {mg : Str → Option Value} {x : Str} {p : Addr} {es : Array DictEntry} {n : Nat} {f : List (Str × DV)} (X : K.In h) (G : h.Ns mainGlobals mg) (a : PySem.W.nsIn K mainGlobals x = some (some (.ref p)))
    (l : K.lookup p = some ⟨.type "dict", none, .dict es n, #[]⟩) (hk : PySem.W.KeysLit w.params es.toList) (hf : ∀ e ∈ f, ∃ u, PySem.W.nsIn K p e.1 = some (some u) ∧ CI K u e.2) : DctIs K w mg x f := by
  refine ⟨p, PySem.W.mg_of X G a, fun e he => ?_⟩
  obtain ⟨u, h1, v, h2, h3⟩ := hf e he
  exact ⟨v, ⟨es, n, u, l, hk, h1, h2⟩, h3⟩
end Dz

set_option Elab.async false
set_option linter.all false
set_option maxRecDepth 100000
set_option maxHeartbeats 2000000
/-! DzW: an object that changes no more is plain data. -/
namespace Dz
open PySem L2

def delM (μ : Mh) (a : Addr) : Mh := fun b => if b = a then none else μ b
theorem delM_same {μ : Mh} {a : Addr} : delM μ a a = none := by unfold delM; rw [if_pos rfl]
theorem delM_ne {μ : Mh} {a b : Addr} (h : b ≠ a) : delM μ a b = μ b := by unfold delM; rw [if_neg h]
theorem Ok.free {K : PySem.W.Frag} {R : Hp} {μ : Mh} {H : Hp} {a : Addr} {m : MO} (k : Ok K R μ H) (h : μ a = some m) (hn : m ≠ .inner) : Ok K R (delM μ a) H ∧ Same (hid R μ H) (hid R (delM μ a) H) ∧ hid R (delM μ a) H a = H a := by
  have ra : R a = none := by
    cases e : R a with
    | none => rfl
    | some o => rw [k.dj a o e] at h; cases h
  have hs : Same (hid R μ H) (hid R (delM μ a) H) := fun b u e => by
    obtain ⟨e1, e2, e3⟩ := hid_some e
    have ne : b ≠ a := fun z => by subst z; rw [h] at e2; cases e2
    rw [hid_at e1 (by rw [delM_ne ne]; exact e2)]
    exact e3
  refine ⟨⟨k.fr, fun b o e => ?_, fun b u e => ?_⟩, hs, hid_at ra delM_same⟩
  · have := k.dj b o e
    unfold delM
    split
    · rfl
    · exact this
  · by_cases z : b = a
    · subst z
      rw [delM_same] at e
      cases e
    · rw [delM_ne z] at e
      refine (k.ob b u e).mono hs rfl (fun _ _ => rfl) e (fun c q => ?_)
      rw [delM_ne fun w => by subst w; rw [h] at q; cases q; exact hn rfl]
      exact q
/-- e, an object that changes no more -/
def wFrz (w : WE) : WE := fun ρ μ P => w ρ μ fun d μ1 => match d with
  | .obj a => match μ1 a with
    | some (.lst ds) => P (.lst ds) (delM μ1 a)
    | some (.dct ds) => P (.dct ds) (delM μ1 a)
    | _ => False
  | d => P d μ1
theorem d_frz {X : Cx} {e : Expr} {w : WE} (h : PE X e (tD X.K w)) : PE X e (tD X.K (wFrz w)) :=
  PE.imp h fun σ H Q ⟨R, ρ, μ, P, a, w, k⟩ => ⟨R, ρ, μ, _, a, w, fun x μ1 v H1 p1 o1 s1 i1 => by
    cases i1 with
    | obj b =>
      have p2 : (match μ1 b with | some (.lst ds) => P (.lst ds) (delM μ1 b) | some (.dct ds) => P (.dct ds) (delM μ1 b) | _ => False) := p1
      split at p2
      · rename_i ds e
        obtain ⟨xs, h1, r⟩ := o1.ob b _ e
        obtain ⟨o2, s2, e2⟩ := o1.free e (by intro z; cases z)
        exact k _ _ _ _ p2 o2 (s1.trans s2) (.lst (e2.trans h1) (r.mono s2))
      · rename_i ds e
        obtain ⟨xs, h1, q, r⟩ := o1.ob b _ e
        obtain ⟨o2, s2, e2⟩ := o1.free e (by intro z; cases z)
        exact k _ _ _ _ p2 o2 (s1.trans s2) (.dct (e2.trans h1) q (r.mono s2))
      · exact p2.elim
    | none => exact k _ _ _ _ p1 o1 s1 .none
    | bool c => exact k _ _ _ _ p1 o1 s1 (.bool c)
    | int c => exact k _ _ _ _ p1 o1 s1 (.int c)
    | str c => exact k _ _ _ _ p1 o1 s1 (.str c)
    | tup h1 r => exact k _ _ _ _ p1 o1 s1 (.tup h1 r)
    | lst h1 r => exact k _ _ _ _ p1 o1 s1 (.lst h1 r)
    | dct h1 q r => exact k _ _ _ _ p1 o1 s1 (.dct h1 q r)
    | fix h1 r => exact k _ _ _ _ p1 o1 s1 (.fix h1 r)
    | dn h1 n dp nd r r2 => exact k _ _ _ _ p1 o1 s1 (.dn h1 n dp nd r r2)⟩
/-! ### a def that leaves the objects as they were -/
/-- new lists and dicts aside, the same objects -/
def NewOf (μ μ' : Mh) : Prop := ∀ b, μ' b = μ b ∨ (μ b = none ∧ ((∃ ds, μ' b = some (.lst ds)) ∨ ∃ ds, μ' b = some (.dct ds)))
theorem NewOf.refl {μ : Mh} : NewOf μ μ := fun _ => .inl rfl
theorem NewOf.lst {μ μ1 : Mh} {p : Addr} {ds : List DV} (h : NewOf μ μ1) (n : μ p = none) : NewOf μ (updM μ1 p (.lst ds)) := fun b => by
  by_cases e : b = p
  · subst e
    exact .inr ⟨n, .inl ⟨ds, updM_same⟩⟩
  · rw [updM_ne e]
    exact h b
theorem NewOf.dct {μ μ1 : Mh} {p : Addr} {ds : List (Key × DV)} (h : NewOf μ μ1) (n : μ p = none) : NewOf μ (updM μ1 p (.dct ds)) := fun b => by
  by_cases e : b = p
  · subst e
    exact .inr ⟨n, .inr ⟨ds, updM_same⟩⟩
  · rw [updM_ne e]
    exact h b
theorem NewOf.del {μ μ1 : Mh} {p : Addr} (h : NewOf μ μ1) (n : μ p = none) : NewOf μ (delM μ1 p) := fun b => by
  by_cases e : b = p
  · subst e
    exact .inl (by rw [delM_same, n])
  · rw [delM_ne e]
    exact h b
theorem NewOf.none {μ μ1 : Mh} {b : Addr} (h : NewOf μ μ1) (n : μ1 b = none) : μ b = none := by
  rcases h b with e | ⟨e, _⟩
  · rw [← e]; exact n
  · exact e
theorem Ok.restrict {K : PySem.W.Frag} {R : Hp} {μ μ' : Mh} {H : Hp} (k : Ok K R μ' H) (n : NewOf μ μ') : Ok K R μ H ∧ Same (hid R μ' H) (hid R μ H) := by
  have hs : Same (hid R μ' H) (hid R μ H) := fun b u e => by
    obtain ⟨e1, e2, e3⟩ := hid_some e
    rw [hid_at e1 (n.none e2)]
    exact e3
  refine ⟨⟨k.fr, fun b o e => n.none (k.dj b o e), fun b u e => ?_⟩, hs⟩
  have e' : μ' b = some u := by
    rcases n b with z | ⟨z, _⟩
    · rw [z]; exact e
    · rw [z] at e; cases e
  refine (k.ob b u e').mono hs rfl (fun _ _ => rfl) e' (fun c q => ?_)
  rcases n c with z | ⟨_, ⟨ds, z⟩ | ⟨ds, z⟩⟩
  · rw [← z]; exact q
  · rw [z] at q; cases q
  · rw [z] at q; cases q
def wPure (w : WS) : WS := fun E ρ μ => w { nx := fun ρ' μ' => NewOf μ μ' ∧ E.nx ρ' μ, rt := fun d μ' => NewOf μ μ' ∧ E.rt d μ } ρ μ
theorem dss_pure {X : Cx} {body : List Stmt} {w : WS} (h : PSs X body (tDS X.K w)) : PSs X body (tDS X.K (wPure w)) :=
  PSs.imp h fun D σ H ⟨R, ρ, μ, E, a, w, k⟩ => ⟨R, ρ, μ, _, a, w, {
    nx := fun ρ' μ' σ' H' p a' s' => by
      obtain ⟨o2, s2⟩ := a'.ok.restrict p.1
      exact k.nx ρ' μ σ' H' p.2 ⟨o2, a'.sl.mono s2⟩ (s'.trans s2)
    rt := fun d μ' v H' p o' s' i => by
      obtain ⟨o2, s2⟩ := o'.restrict p.1
      exact k.rt d μ v H' p.2 o2 (s'.trans s2) (i.mono s2)
    bk := fun _ _ _ _ p => p.elim
    ct := fun _ _ _ _ p => p.elim }⟩
end Dz

set_option Elab.async false
set_option linter.all false
set_option maxRecDepth 100000
set_option maxHeartbeats 1000000
/-! DzX: what a written dict holds, entry by entry. -/
namespace Dz
open PySem L2

theorem ea_nil {K : PySem.W.Frag} {p : Addr} : ∀ e ∈ ([] : List (Str × DV)), ∃ u, PySem.W.nsIn K p e.1 = some (some u) ∧ CI K u e.2 := fun e h => by cases h
theorem ea_cons {K : PySem.W.Frag} {p : Addr} {k : Str} {d : DV} {f : List (Str × DV)} {u : Value} (h : PySem.W.nsIn K p k = some (some u)) (c : CI K u d) (r : ∀ e ∈ f, ∃ u, PySem.W.nsIn K p e.1 = some (some u) ∧ CI K u e.2) : ∀ e ∈ (k, d) :: f, ∃ u, PySem.W.nsIn K p e.1 = some (some u) ∧ CI K u e.2 := fun e he => by
  rcases List.mem_cons.mp he with rfl | he
  · exact ⟨u, h, c⟩
  · exact r e he
end Dz

set_option Elab.async false
set_option linter.all false
set_option maxRecDepth 100000
set_option maxHeartbeats 4000000
/-! DzY: list.count, list.extend by a tuple, unpacking a list, a name that holds an object that changes no more, a comprehension's list that will change. -/
namespace Dz
open PySem L2

section
variable {X : Cx}
/-! ### xs.count(y), any data -/
def rCountD (K : PySem.W.Frag) : V → List V → Hp → VK → Prop := fun x xs H Q => ∃ (a : Addr) (y : V) (d : PyData) (ds : List PyData), x = V.ref a ∧ xs = [y] ∧ Dp K H (V.ref a) (.list ds) ∧ Dp K H y d ∧
  SeqAt.shaped (.list ds) = true ∧ SeqAt.shaped d = true ∧ Q (.int (ds.countP fun z => PyData.eqv z d : Nat)) H
theorem mt_countD (hu : X.A.units + 65 < cLine) : MtR X "list.count" (rCountD X.K) := by
  intro pins s σ H x xs v us Q I rx rxs h
  obtain ⟨a, y, d, ds, rfl, rfl, hl, hy, sl, sd, q⟩ := h
  cases rx
  cases rxs with
  | cons ry rt =>
    rename_i uy ut
    cases rt
    obtain ⟨bs, r1⟩ := Dp.reads I d y uy hy ry
    have hxs : PyData.canLayAll0 ds = true := SeqAt.canLay_of_shaped sl
    have hroom : X.A.units + 1 + min (PyData.depthAll ds) d.depth < cLine := PyProof.Rows.room_in_shaped sd hu
    cases hl with
    | lst hs ha =>
      obtain ⟨its, rv, ⟨⟨cls, dd, data, sls⟩, n, ho, hc, hdn, hdt⟩, hlen⟩ := I.list hs
      simp only at hc hdt
      subst hc hdt
      obtain ⟨as, h4⟩ := Dp.readsAll I ds _ its ha rv
      have hmap : its.map (SeqAt.readOf s.heap) = ds := SeqAt.readsAll_map ds its as hxs h4
      refine call_meets PySem.F.slot_list_count ⟨_, ho, rfl⟩ PySem.F.entry_list_count (PySem.F.args_list_count_2 _ _)
        (SeqAt.list_countAt a its.toArray n dd sls uy (fun u => PyData.eqv (SeqAt.readOf s.heap u) d)) ⟨ho, SeqAt.items_eqAt (vs := its.toArray) (show ReadsAll s.heap its.toArray.toList ds as from h4) r1 hxs (SeqAt.canLay_of_shaped sd) hroom, ?_⟩
      have ec : its.toArray.toList.countP (fun u => PyData.eqv (SeqAt.readOf s.heap u) d) = ds.countP fun z => PyData.eqv z d := by
        rw [← hmap, List.countP_map]
        rfl
      refine ⟨.int (ds.countP fun z => PyData.eqv z d : Nat), H, I.tok _, ⟨s.toks, ?_⟩, q⟩
      show Value.int ((its.toArray.toList.countP (fun u => PyData.eqv (SeqAt.readOf s.heap u) d) : Nat) : Int) s.toks = Value.int ((ds.countP fun z => PyData.eqv z d : Nat) : Int) s.toks
      rw [ec]
def wCount (wo we : WE) : WE := fun ρ μ P => wo ρ μ fun x μ1 => match x with
  | .lst ds => we ρ μ1 fun y μ2 => shapedD (.lst ds) = true ∧ shapedD y = true ∧ P (.int (ds.countP fun z => deepEq z y : Nat)) μ2
  | _ => False
variable {oe e : Expr} {pos apos : Pos} {wo we : WE}
theorem d_count {k : Nat} (hr : Room k X.A) (ho : PE X oe (tD X.K wo)) (he : PE X e (tD X.K we)) (hs : starEach [e] X.env = [(false, eval e X.env)] := by rfl) (hbase : attributeBase oe "count" X.env (eval oe X.env) = eval oe X.env := by rfl)
    (hfew : ((backTo pos (starEach [e] X.env)).all (fun x => !x.1) && (backToKw pos (keywordEach [] X.env)).all (fun x => x.1.isSome) && decide (([e] : List Expr).length + ([] : List Keyword).length + (if ([] : List Keyword).isEmpty then 0 else 1) < 30)) = true := by rfl) (hline : (apos.endLine == pos.line) = true := by rfl) :
    PE X (.Call (.Attribute oe "count" apos) [e] [] pos) (tD X.K (wCount wo we)) :=
  PE.imp (pe_bm PySem.F.plainAttrs_list PySem.F.slot_list_count PySem.F.type_list_count (mt_countD (by have := hr.un; omega)) ho (pa_cons he pa_nil hs) hbase hfew hline hs) fun σ H Q ⟨R, ρ, μ, P, a, w, k⟩ => ⟨R, ρ, μ, _, a, w, fun x μ1 v H1 p1 o1 s1 i1 => by
    cases i1 with
    | @lst b xs ds hx rx =>
      refine ⟨.inl ⟨rfl, xs, SqL.of (hid_le _ _ hx)⟩, R, ρ, μ1, _, a.step o1 s1, p1, fun y μ2 u H2 p2 o2 s2 i2 => ?_⟩
      obtain ⟨sl1, sy, q⟩ := p2
      have hl2 : Is X.K H2 (.ref b) (.lst ds) := (Is.mono s2 (Is.lst hx rx)).mono hid_le
      have hy2 := i2.mono hid_le
      have d1 := hl2.dpS sl1
      have d2 := hy2.dpS sy
      refine ⟨b, u, toPy y, toPys ds, rfl, rfl, d1.1, d2.1, d1.2, d2.2, (k.step (s1.trans s2)).val o2 ?_ (.int _)⟩
      rw [toPys_map, List.countP_map]
      exact q
    | _ => exact (show False from p1).elim⟩
/-! ### xs.extend(a tuple) -/
theorem list_extend_tupA (l : Addr) (items : Array Value) (n : Nat) (b : Addr) (items2 : Array Value) (n2 : Nat) (dd : Option Addr) (sl : Array (Option Value)) (hs0 : ¬(!items.isEmpty && Builtin.List.listTooLong (items.size + items2.size)) = true) (hs1 : items.size ≤ sizeLine) (hs2 : items.size + items2.size ≤ sizeLine + 1) :
    Meets (Builtin.«list.extend» ⟨[.ref l, .ref b], []⟩) (fun _ R s => s.heap.get? l = some { cls := .type "list", dict := none, data := .seq items n, slots := #[] } ∧ s.heap.get? b = some { cls := .type "tuple", dict := dd, data := .seq items2 n2, slots := sl } ∧ R (.ok (.ret Value.none)) { s with heap := s.heap.update l (Obj.mapSeq fun x => x ++ items2), toks := s.toks }) :=
  .of_wp fun prog w A R s h => by
    obtain ⟨hp, g, d, tk, os⟩ := s; obtain ⟨hl, hb, h⟩ := h; have f1 := PySem.AutoSeq1.idx_int; have f2 := PySem.AutoSeq1.sub_tuple_tuple; have f3 := PySem.AutoSeq1.sub_list_list; have f4 := PySem.AutoSeq1.sub_tuple_list; have f5 := PySem.AutoSeq1.sub_list_tuple
    have hz' : (items ++ items2).size ≤ sizeLine + 1 := by rw [Array.size_append]; exact hs2
    wp_walk using (wpAny_updateSeq hl rfl (hz := hs1) (_hz' := hz')), PySem.AutoSeq1.wpAny_loadPart' hl, PySem.AutoSeq1.wpAny_loadPart' hb; exact ⟨_, rfl, h⟩
def rExtendT (K : PySem.W.Frag) : V → List V → Hp → VK → Prop := fun x vs H Q => ∃ l b xs zs, x = .ref l ∧ vs = [.ref b] ∧ H l = some (.lst xs) ∧ ((H b = some (.lst zs)) ∨ SqT K H b zs) ∧ xs.length + zs.length ≤ sizeLine ∧ Q .non (upd H l (.lst (xs ++ zs)))
theorem mt_extendT : MtM X "list.extend" (rExtendT X.K) := by
  intro pins s σ H x vs v us Q I rx rv h
  obtain ⟨l, b, xs, zs, rfl, rfl, hH, hB | hB, hz, q⟩ := h
  · exact mt_extend pins s σ H _ _ v us Q I rx rv ⟨l, b, xs, zs, rfl, rfl, hH, hB, hz, q⟩
  cases rx
  obtain ⟨u, rfl, ru⟩ := rv.one
  cases ru
  obtain ⟨z, its, n, r, hl, e⟩ := I.lstM hH
  obtain ⟨its2, r2, ⟨⟨cls, dd, data, sl⟩, e2, hc, n2, hd⟩, hz2⟩ := I.tuple hB
  simp only at hc hd
  subst hc hd
  have hl2 := r2.length
  have hsz : its.toArray.size + its2.toArray.size ≤ sizeLine := by rw [List.size_toArray, List.size_toArray]; omega
  have hlong : ¬ (!its.toArray.isEmpty && Builtin.List.listTooLong (its.toArray.size + its2.toArray.size)) = true := by
    rw [notLongL hsz, Bool.and_false]
    exact Bool.false_ne_true
  refine call_meets PySem.F.slot_list_extend ⟨_, e, rfl⟩ PySem.F.entry_list_extend (PySem.F.args_list_extend_2 _ _)
    (list_extend_tupA l its.toArray n b its2.toArray n2 dd sl hlong (by rw [List.size_toArray]; omega) (by omega)) ⟨e, e2, ?_⟩
  refine ⟨.non, _, I.lset (its' := its ++ its2) hH e (by simp) (r.append r2) ?_, rfl, q⟩
  rw [List.length_append]
  omega
def extTW (ds : List DV) (y : DV) (Q : List DV → Prop) : Prop := match y with
  | .lst es => ds.length + es.length ≤ sizeLine ∧ Q (ds ++ es)
  | .tup es => ds.length + es.length ≤ sizeLine ∧ Q (ds ++ es)
  | _ => False
def wExtT (wo we : WE) : WE := fun ρ μ P => wo ρ μ fun x μ1 => isLstM x μ1 ∧ we ρ μ1 fun y μ2 => match x with
  | .obj a => match μ2 a with
    | some (.lst ds) => extTW ds y fun zs => P .none (updM μ2 a (.lst zs))
    | _ => False
  | _ => False
theorem d_extendT (ho : PE X oe (tD X.K wo)) (he : PE X e (tD X.K we)) (hs : starEach [e] X.env = [(false, eval e X.env)] := by rfl) (hbase : attributeBase oe "extend" X.env (eval oe X.env) = eval oe X.env := by rfl)
    (hfew : ((backTo pos (starEach [e] X.env)).all (fun x => !x.1) && (backToKw pos (keywordEach [] X.env)).all (fun x => x.1.isSome) && decide (([e] : List Expr).length + ([] : List Keyword).length + (if ([] : List Keyword).isEmpty then 0 else 1) < 30)) = true := by rfl) (hline : (apos.endLine == pos.line) = true := by rfl) : PE X (.Call (.Attribute oe "extend" apos) [e] [] pos) (tD X.K (wExtT wo we)) :=
  PE.imp (pe_bm PySem.F.plainAttrs_list PySem.F.slot_list_extend PySem.F.type_list_extend mt_extendT ho (pa_cons he pa_nil hs) hbase hfew hline hs) fun σ H Q ⟨R, ρ, μ, P, a, w, k⟩ => ⟨R, ρ, μ, _, a, w, fun x μ1 v H1 p1 o1 s1 i1 => by
    obtain ⟨b, rfl, rfl, ht⟩ := isLstM_of o1 i1 p1.1
    refine ⟨ht, R, ρ, μ1, _, a.step o1 s1, p1.2, fun y μ2 u H2 p2 o2 s2 i2 => ?_⟩
    have p2' : (match μ2 b with | some (.lst ds) => extTW ds y fun zs => P .none (updM μ2 b (.lst zs)) | _ => False) := p2
    split at p2'
    · rename_i ds e
      obtain ⟨xs, h3, h4⟩ := o2.ob b _ e
      cases i2 with
      | lst h5 h6 =>
        obtain ⟨o4, e4⟩ := o2.setM (o := .lst (xs ++ _)) (m := .lst (ds ++ _)) e (by intro z; cases z) ⟨_, upd_same, h4.append h6⟩
        refine ⟨b, _, xs, _, rfl, rfl, h3, .inl (hid_le _ _ h5), by rw [h4.length, h6.length]; exact p2'.1, k _ _ _ _ p2'.2 o4 ?_ .none⟩
        rw [e4]
        exact s1.trans s2
      | tup h5 h6 =>
        obtain ⟨o4, e4⟩ := o2.setM (o := .lst (xs ++ _)) (m := .lst (ds ++ _)) e (by intro z; cases z) ⟨_, upd_same, h4.append h6⟩
        refine ⟨b, _, xs, _, rfl, rfl, h3, .inr (Same.seqT hid_le h5.t), by rw [h4.length, h6.length]; exact p2'.1, k _ _ _ _ p2'.2 o4 ?_ .none⟩
        rw [e4]
        exact s1.trans s2
      | _ => exact (show False from p2').elim
    · exact p2'.elim⟩
/-! ### a, b = a list -/
def wgLst (n : Nat) (gs : WGs) : WG := fun d ρ P => match d with | .lst ds => ds.length = n ∧ gs ds ρ P | _ => False
theorem dg_lst {es : List Expr} {gs : WGs} {s1 : List Nat} {k n : Nat} (hc : X.calm = true) (h : PGs X es (tDGs X.K s1 gs)) (hn : (assignEach es X.env).length = n := by rfl) (hst : (assignEach es X.env).findIdx? (·.1) = none := by rfl) : PG X (.Tuple es k pos) (tDG X.K s1 (wgLst n gs)) :=
  PG.imp (pg_unl hc h hn hst) fun v σ H Q ⟨R, ρ, μ, d, P, a, r, w, k⟩ => by
    cases r with
    | lst hx rx => exact ⟨_, _, rfl, SqL.of (hid_le _ _ hx), by rw [rx.length]; exact w.1, R, ρ, μ, _, P, a, rx, w.2, k⟩
    | _ => exact (show False from w).elim
end
/-! ### a name whose object changes no more -/
theorem Sl.reset {K : PySem.W.Frag} {H : Hp} {σ : St} {ρ : Rho} {i : Nat} {v : V} {d : DV} (h : Sl K H σ ρ) (hv : σ[i]? = some (some v)) (r : Is K H v d) : Sl K H σ (ρ.set i (some d)) := by
  refine ⟨by rw [List.length_set]; exact h.len, fun j e he => ?_⟩
  by_cases z : i = j
  · subst z
    by_cases hl : i < ρ.length
    · rw [List.getElem?_set_self hl] at he
      cases he
      exact ⟨v, hv, r⟩
    · rw [List.getElem?_eq_none (by rw [List.length_set]; omega)] at he
      cases he
  · rw [List.getElem?_set_ne z] at he
    exact h.at_ j e he
/-- the rest of a block, slot i's list plain data from here on -/
def wFrzV (i : Nat) (w : WS) : WS := fun E ρ μ => match ρ[i]? with
  | some (some (.obj a)) => match μ a with
    | some (.lst ds) => w E (ρ.set i (some (.lst ds))) (delM μ a)
    | _ => False
  | _ => False
theorem dss_frzv {X : Cx} {body : List Stmt} {w : WS} (i : Nat) (h : PSs X body (tDS X.K w)) : PSs X body (tDS X.K (wFrzV i w)) :=
  PSs.imp h fun D σ H ⟨R, ρ, μ, E, a, w0, k⟩ => by
    have w1 : (match ρ[i]? with | some (some (.obj a)) => (match μ a with | some (.lst ds) => w E (ρ.set i (some (.lst ds))) (delM μ a) | _ => False) | _ => False) := w0
    split at w1
    · rename_i b eb
      split at w1
      · rename_i ds e
        obtain ⟨xs, h1, r⟩ := a.ok.ob b _ e
        obtain ⟨o2, s2, e2⟩ := a.ok.free e (by intro z; cases z)
        obtain ⟨v, hv, iv⟩ := a.sl.at_ i _ eb
        cases iv
        exact ⟨R, _, _, E, ⟨o2, (a.sl.mono s2).reset hv (.lst (e2.trans h1) (r.mono s2))⟩, w1, k.step s2⟩
      · exact w1.elim
    · exact w1.elim
/-! ### a comprehension's list that will change -/
theorem Ok.unframeM {K : PySem.W.Frag} {R : Hp} {μ : Mh} {H : Hp} {D : Addr} {accV : List V} {acc : List DV} (k : Ok K (upd R D (.lst accV)) μ H) (n : R D = none) (r : Iss K (hid (upd R D (.lst accV)) μ H) accV acc) :
    Ok K R (updM μ D (.lst acc)) H ∧ hid R (updM μ D (.lst acc)) H = hid (upd R D (.lst accV)) μ H ∧ μ D = none := by
  have hm : μ D = none := k.dj D _ upd_same
  have hH : H D = some (.lst accV) := k.fr D _ upd_same
  have e : hid R (updM μ D (.lst acc)) H = hid (upd R D (.lst accV)) μ H := by
    funext b
    by_cases z : b = D
    · subst z
      have h1 : hid (upd R b (.lst accV)) μ H b = none := by
        unfold hid
        rw [if_neg fun q => by rw [upd_same] at q; exact Bool.false_ne_true q.1]
      have h2 : hid R (updM μ b (.lst acc)) H b = none := by
        unfold hid
        rw [if_neg fun q => by rw [updM_same] at q; exact Bool.false_ne_true q.2]
      rw [h1, h2]
    · unfold hid
      rw [upd_ne z, updM_ne z]
  refine ⟨⟨fun a u h => ?_, fun a u h => ?_, fun a u h => ?_⟩, e, hm⟩
  · exact k.fr a u (by rw [upd_ne fun z => by subst z; rw [n] at h; cases h]; exact h)
  · have z : a ≠ D := fun z => by subst z; rw [n] at h; cases h
    rw [updM_ne z]
    exact k.dj a u (by rw [upd_ne z]; exact h)
  · rw [e]
    by_cases z : a = D
    · subst z
      rw [updM_same] at h
      cases h
      exact ⟨accV, hH, r⟩
    · rw [updM_ne z] at h
      exact (k.ob a u h).mono (Same.refl _) rfl (fun _ _ => rfl) h fun c q => by
        rw [updM_ne fun w => by subst w; rw [hm] at q; cases q]
        exact q
def wLcM (ws : WI) (g : WG) (t : WT) (e : WE) (vs : List Nat) : WE := fun ρ μ P => ws ρ μ fun xs μ1 => compW g t e (wipeD ρ vs) xs [] μ1 fun acc μ2 => ∀ p, μ2 p = none → P (.obj p) (updM μ2 p (.lst acc))
section
variable {X : Cx} {elt tg iter : Expr} {ifs : List Expr} {scope : Scope} {own : List (Str × Nat)} {pos : Pos} {ws : WI} {g : WG} {t : WT} {e : WE} {sl : List Nat}
theorem lcM_imp {K : PySem.W.Frag} {vs : List Nat} (hv : ∀ i ∈ sl, i ∈ vs) : ∀ σ H Q, tD K (wLcM ws g t e vs) σ H Q → tLc (tDI K ws) (tDG K sl g) (tDT K t) (tD K e) vs σ H Q := fun σ H Q ⟨R, ρ, μ, P, a, w, k⟩ =>
  ⟨R, ρ, μ, _, a, w, fun xs μ1 H1 J p1 o1 s1 it => fun D n => by
    have rn := o1.freeR n
    refine ⟨fun i m H' => m = xs.length - i ∧ i ≤ xs.length ∧ ∃ μ' acc accV, Ok K (upd R D (.lst accV)) μ' H' ∧ Same (hid R μ1 H1) (hid (upd R D (.lst accV)) μ' H') ∧ Iss K (hid (upd R D (.lst accV)) μ' H') accV acc ∧
      compW g t e (wipeD ρ vs) (xs.drop i) acc μ' fun acc μ2 => ∀ p, μ2 p = none → P (.obj p) (updM μ2 p (.lst acc)), ?_, ?_⟩
    · obtain ⟨o2, e2⟩ := o1.frame (o := .lst []) n
      exact ⟨_, rfl, Nat.zero_le _, μ1, [], [], o2, by rw [e2]; exact Same.refl _, .nil, p1⟩
    rintro i m H2 ⟨rfl, hi, μ2, acc, accV, o2, s2, r2, w2⟩
    by_cases hlt : i < xs.length
    · refine .inr ⟨it.go _ μ2 H2 i o2 s2 hlt, fun H' => ∃ μ' acc accV, Ok K (upd R D (.lst accV)) μ' H' ∧ Same (hid R μ1 H1) (hid (upd R D (.lst accV)) μ' H') ∧ Iss K (hid (upd R D (.lst accV)) μ' H') accV acc ∧
        compW g t e (wipeD ρ vs) (xs.drop (i + 1)) acc μ' fun acc μ2 => ∀ p, μ2 p = none → P (.obj p) (updM μ2 p (.lst acc)), fun H' ⟨μ', acc', accV', o', s', r', w'⟩ => ⟨_, ?_, rfl, hlt, μ', acc', accV', o', s', r', w'⟩, fun x H3 y => ?_⟩
      · omega
      · obtain ⟨d, hd, o3, s3, r3⟩ := it.yld _ μ2 H2 i x H3 o2 s2 y hlt
        rw [drop_at hd] at w2
        have sl3 : Sl K (hid (upd R D (.lst accV)) μ2 H3) (wipe σ vs) (wipeD ρ vs) := (a.sl.mono ((s1.trans s2).trans s3)).wipe vs
        refine ⟨_, wipeD ρ vs, μ2, d, _, ⟨o3, sl3⟩, r3, w2, fun ρ4 σ4 w4 sl4 ww => ⟨by rw [ww vs hv, wipe_wipe], _, ρ4, μ2, _, ⟨o3, sl4⟩, w4, fun b μ5 H5 p5 o5 s5 => ?_⟩⟩
        cases b with
        | false => exact iteF ⟨μ5, acc, accV, o5, (s2.trans s3).trans s5, r2.mono (s3.trans s5), p5⟩
        | true =>
          refine iteT ⟨_, ρ4, μ5, _, ⟨o5, sl4.mono s5⟩, p5, fun y μ6 v H6 p6 o6 s6 r6 => ⟨accV, o6.fr D _ upd_same, ?_, ?_⟩⟩
          · rw [r2.length]
            exact p6.1
          · obtain ⟨o7, e7⟩ := o6.reframe (o' := .lst (accV ++ [v]))
            refine ⟨μ6, acc ++ [y], accV ++ [v], o7, ?_, ?_, p6.2⟩
            · rw [e7]
              exact ((s2.trans s3).trans s5).trans s6
            · rw [e7]
              exact (r2.mono ((s3.trans s5).trans s6)).append (.cons r6 .nil)
    · have e' : i = xs.length := by omega
      subst e'
      rw [List.drop_length] at w2
      obtain ⟨o4, e4, hm⟩ := o2.unframeM rn r2
      exact .inl ⟨it.stop _ μ2 H2 _ o2 s2 (Nat.le_refl _), k _ _ _ H2 (w2 D hm) o4 (by rw [e4]; exact s1.trans s2) (.obj D)⟩⟩
theorem d_lcM (hi : PI X tg iter (tDI X.K ws)) (ok : BlkOk X.N X.env.scope scope own)
    (hg : ∀ (s : Shared) (H : Hp) (C : Addr) (cl : List (Str × Addr)) (fp : List Addr), PG (X.blk s H scope (compEnvC scope cl C X.env) fp) tg (tDG X.K sl g)) (ht : ∀ (s : Shared) (H : Hp) (C : Addr) (cl : List (Str × Addr)) (fp : List Addr), PTs (X.blk s H scope (compEnvC scope cl C X.env) fp) ifs (tDT X.K t))
    (he : ∀ (s : Shared) (H : Hp) (C : Addr) (cl : List (Str × Addr)) (fp : List Addr), PE (X.blk s H scope (compEnvC scope cl C X.env) fp) elt (tD X.K e)) (hN : X.N.Nodup) (hv : ∀ i ∈ sl, i ∈ own.map (·.2) := by decide) (hc : X.calm = true := by rfl) (hs : ∀ x, foldedSetIterable iter X.env x = pure x := by intro _; rfl) :
    PE X (.ListComp elt [⟨tg, iter, ifs, 0⟩] scope pos) (tD X.K (wLcM ws g t e (own.map (·.2)))) := PE.imp (pe_lc hc hN hi ok hg ht he hs) (lcM_imp hv)
theorem ds_setLcM {i : Nat} {y : Str} {py spos : Pos} (hy : X.N[i]? = some y) (hyl : X.env.scope.names.lookup y = some .local) (hsw : swapsWith (.ListComp elt [⟨tg, iter, ifs, 0⟩] scope pos) (some (.Name y py)) spos.line X.env = pure true) (hi : PI X tg iter (tDI X.K ws)) (ok : BlkOk X.N X.env.scope scope own)
    (hg : ∀ (s : Shared) (H : Hp) (C : Addr) (cl : List (Str × Addr)) (fp : List Addr), PG (X.blk s H scope (compEnvC scope cl C X.env) fp) tg (tDG X.K sl g)) (ht : ∀ (s : Shared) (H : Hp) (C : Addr) (cl : List (Str × Addr)) (fp : List Addr), PTs (X.blk s H scope (compEnvC scope cl C X.env) fp) ifs (tDT X.K t))
    (he : ∀ (s : Shared) (H : Hp) (C : Addr) (cl : List (Str × Addr)) (fp : List Addr), PE (X.blk s H scope (compEnvC scope cl C X.env) fp) elt (tD X.K e)) (hN : X.N.Nodup) (hv : ∀ i ∈ sl, i ∈ own.map (·.2) := by decide) (hc : X.calm = true := by rfl) (hs : ∀ x, foldedSetIterable iter X.env x = pure x := by intro _; rfl) :
    PS X (.Assign [.Name y py] (.ListComp elt [⟨tg, iter, ifs, 0⟩] scope pos) spos) (tDS X.K (wAsg (wLcM ws g t e (own.map (·.2))) (wgName i))) :=
  PS.imp (ps_setLc hc hN hy hyl hsw hi ok hg ht he hs) fun D σ H ⟨R, ρ, μ, E, a, w, k⟩ => lcM_imp hv σ H _ ⟨R, ρ, μ, _, a, w, fun d μ1 v H1 p1 o1 s1 i1 => k.nx _ μ1 _ H1 p1 ⟨o1, (a.sl.mono s1).set i i1⟩ s1⟩
end
end Dz

set_option Elab.async false
set_option linter.all false
set_option maxRecDepth 100000
set_option maxHeartbeats 4000000
/-! DzZ: comprehensions of two clauses; defs with a star parameter. -/
namespace Dz
open PySem PySem.Spec L2 PyProof.Rows StX

def compW2 (g : WG) (t : WT) (ws1 : WI) (g1 : WG) (t1 : WT) (e : WE) (vs1 : List Nat) (ρ : Rho) : List DV → List DV → Mh → (List DV → Mh → Prop) → Prop
  | [], acc, μ, P => P acc μ
  | x :: xs, acc, μ, P => g x ρ fun ρ1 => t ρ1 μ fun b μ1 => match b with
    | true => ws1 ρ1 μ1 fun ys μ2 => compW g1 t1 e (wipeD ρ1 vs1) ys acc μ2 fun acc' μ3 => compW2 g t ws1 g1 t1 e vs1 ρ xs acc' μ3 P
    | false => compW2 g t ws1 g1 t1 e vs1 ρ xs acc μ1 P
def wLc2 (ws : WI) (g : WG) (t : WT) (ws1 : WI) (g1 : WG) (t1 : WT) (e : WE) (vs vs1 : List Nat) : WE := fun ρ μ P => ws ρ μ fun xs μ1 => compW2 g t ws1 g1 t1 e vs1 (wipeD ρ vs) xs [] μ1 fun acc μ2 => P (.lst acc) μ2
section
variable {X : Cx} {elt tg iter tg1 iter1 : Expr} {ifs ifs1 : List Expr} {scope : Scope} {own : List (Str × Nat)} {vs1 : List Nat} {pos : Pos} {ws ws1 : WI} {g g1 : WG} {t t1 : WT} {e : WE} {sl sl1 : List Nat}
theorem lc2_imp {K : PySem.W.Frag} {vs : List Nat} (hv : ∀ i ∈ sl, i ∈ vs) (hv1 : ∀ i ∈ sl1, i ∈ vs1) : ∀ σ H Q, tD K (wLc2 ws g t ws1 g1 t1 e vs vs1) σ H Q → tLc2 (tDI K ws) (tDG K sl g) (tDT K t) (tDI K ws1) (tDG K sl1 g1) (tDT K t1) (tD K e) vs vs1 σ H Q := fun σ H Q ⟨R, ρ, μ, P, a, w, k⟩ =>
  ⟨R, ρ, μ, _, a, w, fun xs μ1 H1 J p1 o1 s1 it => fun D n => by
    have rn := o1.freeR n
    refine ⟨fun i m H' => m = xs.length - i ∧ i ≤ xs.length ∧ ∃ μ' acc accV, Ok K (upd R D (.lst accV)) μ' H' ∧ Same (hid R μ1 H1) (hid (upd R D (.lst accV)) μ' H') ∧ Iss K (hid (upd R D (.lst accV)) μ' H') accV acc ∧
      compW2 g t ws1 g1 t1 e vs1 (wipeD ρ vs) (xs.drop i) acc μ' fun acc μ2 => P (.lst acc) μ2, ?_, ?_⟩
    · obtain ⟨o2, e2⟩ := o1.frame (o := .lst []) n
      exact ⟨_, rfl, Nat.zero_le _, μ1, [], [], o2, by rw [e2]; exact Same.refl _, .nil, p1⟩
    rintro i m H2 ⟨rfl, hi, μ2, acc, accV, o2, s2, r2, w2⟩
    by_cases hlt : i < xs.length
    · refine .inr ⟨it.go _ μ2 H2 i o2 s2 hlt, fun H' => ∃ μ' acc accV, Ok K (upd R D (.lst accV)) μ' H' ∧ Same (hid R μ1 H1) (hid (upd R D (.lst accV)) μ' H') ∧ Iss K (hid (upd R D (.lst accV)) μ' H') accV acc ∧
        compW2 g t ws1 g1 t1 e vs1 (wipeD ρ vs) (xs.drop (i + 1)) acc μ' fun acc μ2 => P (.lst acc) μ2, fun H' ⟨μ', acc', accV', o', s', r', w'⟩ => ⟨_, ?_, rfl, hlt, μ', acc', accV', o', s', r', w'⟩, fun x H3 y => ?_⟩
      · omega
      · obtain ⟨d, hd, o3, s3, r3⟩ := it.yld _ μ2 H2 i x H3 o2 s2 y hlt
        rw [drop_at hd] at w2
        have sl3 : Sl K (hid (upd R D (.lst accV)) μ2 H3) (wipe σ vs) (wipeD ρ vs) := (a.sl.mono ((s1.trans s2).trans s3)).wipe vs
        refine ⟨_, wipeD ρ vs, μ2, d, _, ⟨o3, sl3⟩, r3, w2, fun ρ4 σ4 w4 sl4 ww => ⟨by rw [ww vs hv, wipe_wipe], _, ρ4, μ2, _, ⟨o3, sl4⟩, w4, fun b μ5 H5 p5 o5 s5 => ?_⟩⟩
        cases b with
        | false => exact iteF ⟨μ5, acc, accV, o5, (s2.trans s3).trans s5, r2.mono (s3.trans s5), p5⟩
        | true =>
          refine iteT ⟨_, ρ4, μ5, _, ⟨o5, sl4.mono s5⟩, p5, fun ys μ6 H6 J1 p6 o6 s6 it1 => ?_⟩
          have r6 := r2.mono ((s3.trans s5).trans s6)
          have s16 := ((s2.trans s3).trans s5).trans s6
          refine ⟨fun j m H' => m = ys.length - j ∧ j ≤ ys.length ∧ ∃ μ' acc accV', Ok K (upd R D (.lst accV')) μ' H' ∧ Same (hid (upd R D (.lst accV)) μ6 H6) (hid (upd R D (.lst accV')) μ' H') ∧ Iss K (hid (upd R D (.lst accV')) μ' H') accV' acc ∧
            compW g1 t1 e (wipeD ρ4 vs1) (ys.drop j) acc μ' fun acc' μ3 => compW2 g t ws1 g1 t1 e vs1 (wipeD ρ vs) (xs.drop (i + 1)) acc' μ3 fun acc μ2 => P (.lst acc) μ2, ⟨_, rfl, Nat.zero_le _, μ6, acc, accV, o6, Same.refl _, r6, p6⟩, ?_⟩
          rintro j m2 H7 ⟨rfl, hj, μ7, acc7, accV7, o7, s7, r7, w7⟩
          by_cases hlt2 : j < ys.length
          · refine .inr ⟨it1.go _ μ7 H7 j o7 s7 hlt2, fun H' => ∃ μ' acc accV', Ok K (upd R D (.lst accV')) μ' H' ∧ Same (hid (upd R D (.lst accV)) μ6 H6) (hid (upd R D (.lst accV')) μ' H') ∧ Iss K (hid (upd R D (.lst accV')) μ' H') accV' acc ∧
              compW g1 t1 e (wipeD ρ4 vs1) (ys.drop (j + 1)) acc μ' fun acc' μ3 => compW2 g t ws1 g1 t1 e vs1 (wipeD ρ vs) (xs.drop (i + 1)) acc' μ3 fun acc μ2 => P (.lst acc) μ2, fun H' ⟨μ', acc', accV', o', s', r', w'⟩ => ⟨_, ?_, rfl, hlt2, μ', acc', accV', o', s', r', w'⟩, fun x8 H8 y8 => ?_⟩
            · omega
            · obtain ⟨d8, hd8, o8, s8, r8⟩ := it1.yld _ μ7 H7 j x8 H8 o7 s7 y8 hlt2
              rw [drop_at hd8] at w7
              have sl8 : Sl K (hid (upd R D (.lst accV7)) μ7 H8) (wipe σ4 vs1) (wipeD ρ4 vs1) := (sl4.mono (((s5.trans s6).trans s7).trans s8)).wipe vs1
              refine ⟨_, wipeD ρ4 vs1, μ7, d8, _, ⟨o8, sl8⟩, r8, w7, fun ρ9 σ9 w9 sl9 ww9 => ⟨by rw [ww9 vs1 hv1, wipe_wipe], _, ρ9, μ7, _, ⟨o8, sl9⟩, w9, fun b μ10 H10 p10 o10 s10 => ?_⟩⟩
              cases b with
              | false => exact iteF ⟨μ10, acc7, accV7, o10, (s7.trans s8).trans s10, r7.mono (s8.trans s10), p10⟩
              | true =>
                refine iteT ⟨_, ρ9, μ10, _, ⟨o10, sl9.mono s10⟩, p10, fun y μ11 v H11 p11 o11 s11 r11 => ⟨accV7, o11.fr D _ upd_same, ?_, ?_⟩⟩
                · rw [r7.length]
                  exact p11.1
                · obtain ⟨o12, e12⟩ := o11.reframe (o' := .lst (accV7 ++ [v]))
                  refine ⟨μ11, acc7 ++ [y], accV7 ++ [v], o12, ?_, ?_, p11.2⟩
                  · rw [e12]
                    exact ((s7.trans s8).trans s10).trans s11
                  · rw [e12]
                    exact (r7.mono ((s8.trans s10).trans s11)).append (.cons r11 .nil)
          · have e' : j = ys.length := by omega
            subst e'
            rw [List.drop_length] at w7
            exact .inl ⟨it1.stop _ μ7 H7 _ o7 s7 (Nat.le_refl _), μ7, acc7, accV7, o7, s16.trans s7, r7, w7⟩
    · have e' : i = xs.length := by omega
      subst e'
      rw [List.drop_length] at w2
      obtain ⟨o4, s4, h4⟩ := o2.unframe rn
      exact .inl ⟨it.stop _ μ2 H2 _ o2 s2 (Nat.le_refl _), k _ μ2 _ H2 w2 o4 (s1.trans (s2.trans s4)) (.lst h4 (r2.mono s4))⟩⟩
theorem d_lc2 (hi : PI X tg iter (tDI X.K ws)) (ok : BlkOk X.N X.env.scope scope own)
    (hg : ∀ (s : Shared) (H : Hp) (C : Addr) (cl : List (Str × Addr)) (fp : List Addr), PG (X.blk s H scope (compEnvC scope cl C X.env) fp) tg (tDG X.K sl g)) (ht : ∀ (s : Shared) (H : Hp) (C : Addr) (cl : List (Str × Addr)) (fp : List Addr), PTs (X.blk s H scope (compEnvC scope cl C X.env) fp) ifs (tDT X.K t))
    (hi1 : ∀ (s : Shared) (H : Hp) (C : Addr) (cl : List (Str × Addr)) (fp : List Addr), PI (X.blk s H scope (compEnvC scope cl C X.env) fp) tg1 iter1 (tDI X.K ws1))
    (hg1 : ∀ (s : Shared) (H : Hp) (C : Addr) (cl : List (Str × Addr)) (fp : List Addr), PG (X.blk s H scope (compEnvC scope cl C X.env) fp) tg1 (tDG X.K sl1 g1)) (ht1 : ∀ (s : Shared) (H : Hp) (C : Addr) (cl : List (Str × Addr)) (fp : List Addr), PTs (X.blk s H scope (compEnvC scope cl C X.env) fp) ifs1 (tDT X.K t1))
    (he : ∀ (s : Shared) (H : Hp) (C : Addr) (cl : List (Str × Addr)) (fp : List Addr), PE (X.blk s H scope (compEnvC scope cl C X.env) fp) elt (tD X.K e)) (hN : X.N.Nodup) (hv : ∀ i ∈ sl, i ∈ own.map (·.2) := by decide) (hv1 : ∀ i ∈ sl1, i ∈ vs1 := by decide) (hvo : ∀ i ∈ vs1, i ∈ own.map (·.2) := by decide) (hc : X.calm = true := by rfl) (hs : ∀ x, foldedSetIterable iter X.env x = pure x := by intro _; rfl) (hs1 : ∀ env x, foldedSetIterable iter1 env x = pure x := by intro _ _; rfl) :
    PE X (.ListComp elt [⟨tg, iter, ifs, 0⟩, ⟨tg1, iter1, ifs1, 0⟩] scope pos) (tD X.K (wLc2 ws g t ws1 g1 t1 e (own.map (·.2)) vs1)) := PE.imp (pe_lc2 hc hN hi ok hvo hg ht hi1 hg1 ht1 he hs hs1) (lc2_imp hv hv1)
theorem ds_setLc2 {i : Nat} {y : Str} {py spos : Pos} (hy : X.N[i]? = some y) (hyl : X.env.scope.names.lookup y = some .local) (hsw : swapsWith (.ListComp elt [⟨tg, iter, ifs, 0⟩, ⟨tg1, iter1, ifs1, 0⟩] scope pos) (some (.Name y py)) spos.line X.env = pure true) (hi : PI X tg iter (tDI X.K ws)) (ok : BlkOk X.N X.env.scope scope own)
    (hg : ∀ (s : Shared) (H : Hp) (C : Addr) (cl : List (Str × Addr)) (fp : List Addr), PG (X.blk s H scope (compEnvC scope cl C X.env) fp) tg (tDG X.K sl g)) (ht : ∀ (s : Shared) (H : Hp) (C : Addr) (cl : List (Str × Addr)) (fp : List Addr), PTs (X.blk s H scope (compEnvC scope cl C X.env) fp) ifs (tDT X.K t))
    (hi1 : ∀ (s : Shared) (H : Hp) (C : Addr) (cl : List (Str × Addr)) (fp : List Addr), PI (X.blk s H scope (compEnvC scope cl C X.env) fp) tg1 iter1 (tDI X.K ws1))
    (hg1 : ∀ (s : Shared) (H : Hp) (C : Addr) (cl : List (Str × Addr)) (fp : List Addr), PG (X.blk s H scope (compEnvC scope cl C X.env) fp) tg1 (tDG X.K sl1 g1)) (ht1 : ∀ (s : Shared) (H : Hp) (C : Addr) (cl : List (Str × Addr)) (fp : List Addr), PTs (X.blk s H scope (compEnvC scope cl C X.env) fp) ifs1 (tDT X.K t1))
    (he : ∀ (s : Shared) (H : Hp) (C : Addr) (cl : List (Str × Addr)) (fp : List Addr), PE (X.blk s H scope (compEnvC scope cl C X.env) fp) elt (tD X.K e)) (hN : X.N.Nodup) (hv : ∀ i ∈ sl, i ∈ own.map (·.2) := by decide) (hv1 : ∀ i ∈ sl1, i ∈ vs1 := by decide) (hvo : ∀ i ∈ vs1, i ∈ own.map (·.2) := by decide) (hc : X.calm = true := by rfl) (hs : ∀ x, foldedSetIterable iter X.env x = pure x := by intro _; rfl) (hs1 : ∀ env x, foldedSetIterable iter1 env x = pure x := by intro _ _; rfl) :
    PS X (.Assign [.Name y py] (.ListComp elt [⟨tg, iter, ifs, 0⟩, ⟨tg1, iter1, ifs1, 0⟩] scope pos) spos) (tDS X.K (wAsg (wLc2 ws g t ws1 g1 t1 e (own.map (·.2)) vs1) (wgName i))) :=
  PS.imp (ps_setLc2 hc hN hy hyl hsw hi ok hvo hg ht hi1 hg1 ht1 he hs hs1) fun D σ H ⟨R, ρ, μ, E, a, w, k⟩ => lc2_imp hv hv1 σ H _ ⟨R, ρ, μ, _, a, w, fun d μ1 v H1 p1 o1 s1 i1 => k.nx _ μ1 _ H1 p1 ⟨o1, (a.sl.mono s1).set i i1⟩ s1⟩
end
/-! ### def f(a, .., *v) -/
/-- as FnR, where no repr runs around; the promise over data, any number of arguments -/
def FnSG (P : Program) (w : World) (K : PySem.W.Frag) (mg : Str → Option Value) (base : Heap) (k : Nat) (f : Addr) (wf : WF) : Prop :=
  ∀ (A : Around) (outer : List Env) (s : Shared) (H : Hp) (us : List Value) (vs : List V) (Q : VK) (E : XK), A.guards = some [] → Room k A → Env0 P w K mg base A outer s H → Vals vs us →
    (∃ R ds μ P', Ok K R μ H ∧ Iss K (hid R μ H) vs ds ∧ wf ds μ P' ∧ Nxt K R μ H P' Q) → codeAny (model P w) A (.call (.ref f) ⟨us, []⟩) (CR CX0 outer P w H s Q E) s
theorem FnSG.mono {P : Program} {w : World} {K : PySem.W.Frag} {mg : Str → Option Value} {base : Heap} {j k : Nat} {f : Addr} {wf : WF} (F : FnSG P w K mg base j f wf) (h : j ≤ k) : FnSG P w K mg base k f wf :=
  fun A outer s H us vs Q E g r => F A outer s H us vs Q E g (r.mono h)
section
variable {P : Program} {w : World} {K : PySem.W.Frag} {mg : Str → Option Value} {base : Heap} {k : Nat} {f : Addr} {x qual : Str} {st : Stmt} {fd : FuncData} {N ps : List Str} {pv : Str} {wS : WS} {wf : WF}
theorem fnsg_of (F : Fun K x qual st f fd) (S : FnScope N (ps ++ [pv]) (defScope st))
    (hb : ∀ (kV doc pm : Value) (an : Option Addr) (cdv ct : Value) (us rest : List Value), us.length = ps.length → bindArgs (PySem.W.fnOf x qual (defArgs st) (defBody st) (defScope st) .none kV doc pm an cdv ct) ⟨us ++ rest, []⟩ = (newTuple rest >>= fun t => pure (ps.zip us ++ [(pv, t)])))
    (hbody : ∀ (cdv : Value) (A : Around) (outer : List Env) (s : Shared) (H : Hp) (E : XK), A.guards = some [] → Room k (A.deeper (envOfC qual (defScope st) s.heap.objs.size f cdv)) →
      PSs (cxOf CX0 P w K mg base N qual (defScope st) f cdv A outer s H E).nox (defBody st) (tDS K wS))
    (hw : ∀ ds rs μ Q, ds.length = ps.length → wf (ds ++ rs) μ Q → wS { nx := fun _ μ' => Q .none μ', rt := Q } ((ds ++ [DV.tup rs]).map some ++ List.replicate (N.length - (ps.length + 1)) none) μ)
    (hmin : ∀ ds μ Q, wf ds μ Q → ps.length ≤ ds.length ∧ ds.length ≤ 1000) : FnSG P w K mg base (k + 1) f wf := by
  obtain ⟨oc, od, kV, doc, pm, an, cdv, ct, osl, rfl, lk, hcd⟩ := F.ex
  intro A outer s H us vs Q E hgd hr e0 r ⟨R, ds, μ, P', o, i, w1, k1⟩
  obtain ⟨hm1, hm2⟩ := hmin ds μ P' w1
  have hlen := i.length
  -- split
  have ew : vs = vs.take ps.length ++ vs.drop ps.length := (List.take_append_drop _ _).symm
  have ed : ds = ds.take ps.length ++ ds.drop ps.length := (List.take_append_drop _ _).symm
  have iw := i.take ps.length
  have ir := i.drop ps.length
  generalize vs.take ps.length = wv at ew iw
  generalize vs.drop ps.length = rest at ew ir
  generalize hds1 : ds.take ps.length = d1 at ed iw
  generalize hds2 : ds.drop ps.length = d2 at ed ir
  have hl1 : d1.length = ps.length := by rw [← hds1, List.length_take]; omega
  have hl2 : d2.length ≤ 1000 := by rw [← hds2, List.length_drop]; omega
  subst ew ed
  obtain ⟨u1, u2, eu, r1, r2⟩ := vals_split r
  subst eu
  have hn : H s.heap.objs.size = Option.none := e0.hok.fresh (Nat.le_refl _)
  have hwl : wv.length = ps.length := by rw [iw.length]; exact hl1
  have hu1 : u1.length = ps.length := by rw [← r1.length]; exact hwl
  have hsz : u2.length ≤ sizeLine := by
    rw [← r2.length, ir.length, sizeLine_eq]
    omega
  refine run_bnd lk hcd S hr e0 (CX := CX0) (Q := Q) (E := E) (G := fun xs H2 => ∃ p ob, H p = Option.none ∧ NewT ob ∧ xs = wv ++ [V.ref p] ∧ H2 = upd H p (.frz ob (.tup rest))) (fun A' Ex Q' h => ?_) fun s2 H2 xs ⟨p, ob, hp, nt, ex, eH⟩ hr' => ?_
  · rw [hb kV doc pm an cdv ct u1 u2 hu1]
    refine wpAny_bind (wpAny_newTuple (wpAny_pure ?_) hsz)
    have new := newT_ok (P := P) (w := w) (H := upd H s.heap.objs.size (.frz { cls := .type "tuple", data := .seq u2.toArray } (.tup rest))) (h := s.heap) r2 (by rw [r2.length]; exact hsz)
    have un := un_laid (fs := frs outer) (s := s) (o := ({ cls := .type "tuple", data := .seq u2.toArray } : Obj)) (u := .frz { cls := .type "tuple", data := .seq u2.toArray } (.tup rest)) hn
    have z := h _ _ (wv ++ [V.ref s.heap.objs.size]) (u1 ++ [Value.ref s.heap.objs.size]) (env0_laid e0 new) un rfl (fun e s' hx => (show False from hx).elim) (r1.append (.cons rfl .nil))
      (by rw [List.length_append, List.length_append, hwl] <;> rfl) ⟨_, _, hn, ⟨rfl, rfl⟩, rfl, rfl⟩
    rw [List.zip_append hu1.symm] at z
    exact z
  · subst ex eH
    have o2 := o.new (o := .frz ob (.tup rest)) hp
    have s2' := o.sameNew (o := .frz ob (.tup rest)) hp
    have it : Iss K (hid R μ (upd H p (.frz ob (.tup rest)))) (wv ++ [V.ref p]) (d1 ++ [.tup d2]) := (iw.mono s2').append (.cons (isTup nt o hp ir) .nil)
    have hd1 : (d1 ++ [DV.tup d2]).length = ps.length + 1 := by rw [List.length_append, List.length_singleton, hl1]
    have ha : At K R (start N (wv ++ [V.ref p])) ((d1 ++ [DV.tup d2]).map some ++ List.replicate (N.length - (ps.length + 1)) none) μ (upd H p (.frz ob (.tup rest))) := ⟨o2, by
      rw [← hd1]
      exact Sl.start it⟩
    refine ⟨_, (hbody cdv A outer s2 (upd H p (.frz ob (.tup rest))) E hgd hr').nox, R, _, μ, _, ha, hw d1 d2 μ P' hl1 w1, ⟨fun ρ' μ' σ' H' p' a' s' => ?_, k1.step s2', fun _ _ _ _ p => p.elim, fun _ _ _ _ p => p.elim⟩⟩
    exact k1 .none μ' .non H' p' a'.ok (s2'.trans s') .none
end
end Dz

set_option Elab.async false
set_option linter.all false
set_option maxRecDepth 100000
set_option maxHeartbeats 4000000
/-! DzZa: defs with a star parameter, by name. -/
namespace Dz
open PySem PySem.Spec L2 PyProof.Rows StX

def DefS (P : Program) (w : World) (K : PySem.W.Frag) (mg : Str → Option Value) (base : Heap) (k : Nat) (x : Str) (st : Stmt) (wf : WF) : Prop := ∃ f fd, mg x = some (.ref f) ∧ Fun K x x st f fd ∧ FnSG P w K mg base k f wf
theorem DefS.mono {P : Program} {w : World} {K : PySem.W.Frag} {mg : Str → Option Value} {base : Heap} {j k : Nat} {x : Str} {st : Stmt} {wf : WF} (h : DefS P w K mg base j x st wf) (l : j ≤ k) : DefS P w K mg base k x st wf :=
  let ⟨f, fd, a, b, c⟩ := h; ⟨f, fd, a, b, c.mono l⟩
theorem defS_of {P : Program} {w0 : World} {K : PySem.W.Frag} {mg : Str → Option Value} {base : Heap} {x : Str} {st : Stmt} {N ps : List Str} {pv : Str} {k : Nat} {w : WS} {wf : WF} (h : At1 K mg x st) (S : FnScope N (ps ++ [pv]) (defScope st))
    (hbi : ∀ (kV doc pm : Value) (an : Option Addr) (cdv ct : Value) (us rest : List Value), us.length = ps.length → bindArgs (PySem.W.fnOf x x (defArgs st) (defBody st) (defScope st) .none kV doc pm an cdv ct) ⟨us ++ rest, []⟩ = (newTuple rest >>= fun t => pure (ps.zip us ++ [(pv, t)])))
    (hb : ∀ (f : Addr) (cdv : Value) (A : Around) (outer : List Env) (s : Shared) (H : Hp) (E : XK), A.guards = some [] → Room k (A.deeper (envOfC x (defScope st) s.heap.objs.size f cdv)) →
      PSs (cxOf CX0 P w0 K mg base N x (defScope st) f cdv A outer s H E).nox (defBody st) (tDS K w))
    (hmin : ∀ ds μ Q, wf ds μ Q → ps.length ≤ ds.length ∧ ds.length ≤ 1000)
    (hw : ∀ ds rs μ Q, ds.length = ps.length → wf (ds ++ rs) μ Q → w { nx := fun _ μ' => Q .none μ', rt := Q } ((ds ++ [DV.tup rs]).map some ++ List.replicate (N.length - (ps.length + 1)) none) μ) : DefS P w0 K mg base (k + 1) x st wf := by
  obtain ⟨f, fd, a, F⟩ := h
  exact ⟨f, fd, a, F, fnsg_of F S hbi (hb f) hw hmin⟩
def wCallS (wf : WF) (wa : WA) : WE := fun ρ μ P => wa ρ μ fun ds μ1 => wf ds μ1 P
theorem d_fS {X : Cx} {k j : Nat} {st : Stmt} {wf : WF} {x : Str} {p pos : Pos} {e : Expr} {es : List Expr} {wa : WA} (D : DefS X.prog X.w X.K X.mg X.base k x st wf) (hgd : X.A.guards = some []) (hr : Room j X.A) (hk : k ≤ j) (hg : Gl X x)
    (ha : PA X (e :: es) (tDA X.K wa)) (hdb : (x == ("__debug__" : Str)) = false := by decide) (he : starEach (e :: es) X.env = (false, eval e X.env) :: starEach es X.env := by rfl) (hpl : (backTo pos (starEach es X.env)).any (·.1) = false := by rfl) :
    PE X (.Call (.Name x p) (e :: es) [] pos) (tD X.K (wCallS wf wa)) := by
  obtain ⟨f, fd, hm, F, G⟩ := D
  constructor
  intro pins s σ H Q I ⟨R, ρ, μ, P, a, w, kk⟩
  have h : tDA X.K wa σ H (fun vs H1 => ∃ R ds μ P', Ok X.K R μ H1 ∧ Iss X.K (hid R μ H1) vs ds ∧ wf ds μ P' ∧ Nxt X.K R μ H1 P' Q) := ⟨R, ρ, μ, _, a, w, fun ds μ1 vs H1 p1 o1 s1 i1 => ⟨R, ds, μ1, P, o1, i1, p1, kk.step s1⟩⟩
  refine wpAny_Call_Name_kw (ld_glob I hg hm (PySem.W.callWith_K (h₀ := X.base) I.ok.mod.kin F.kp (thn (ha.run pos pins s σ H _ I h) fun us s1 ⟨vs, H1, I1, r, q⟩ => ⟨I1.kIn, ?_⟩) he hpl) hdb)
  refine wpAny_call (codeAny_mono (G X.A X.stack s1 H1 us vs Q (fun _ _ _ => False) hgd (hr.mono hk) I1.env0 r q) fun res s' hq => ?_)
  match res, hq with
  | .ok (.ret u), hq => exact I1.after hq
end Dz

set_option Elab.async false
set_option linter.all false
set_option maxRecDepth 100000
set_option maxHeartbeats 4000000
/-! DzZb: a comprehension over the values of a dict that changes; sorted(dict) of int keys. -/
namespace Dz
open PySem PySem.Spec L2 PyProof.Rows StX

/-- as ItD, where what R0 frames is framed -/
structure ItR (K : PySem.W.Frag) (Hm R0 : Hp) (J : It) (xs : List DV) : Prop where
  go : ∀ R μ H i, Ok K R μ H → (∀ b o, R0 b = some o → R b = some o) → Same Hm (hid R μ H) → i < xs.length → J.go i H
  yld : ∀ R μ H i x H', Ok K R μ H → (∀ b o, R0 b = some o → R b = some o) → Same Hm (hid R μ H) → J.yld i H x H' → i < xs.length → ∃ d, xs[i]? = some d ∧ Ok K R μ H' ∧ Same (hid R μ H) (hid R μ H') ∧ Is K (hid R μ H') x d
  stop : ∀ R μ H i, Ok K R μ H → (∀ b o, R0 b = some o → R b = some o) → Same Hm (hid R μ H) → xs.length ≤ i → J.stop i H
theorem ItR.vals {K : PySem.W.Frag} {Hm R0 : Hp} {a : Addr} {od : Obj} {kvs : List (Key × V)} {xs : List DV} (h : R0 a = some (.frz od (.dK kvs))) (r : Iss K Hm (kvs.map (·.2)) xs) : ItR K Hm R0 (Itd a od kvs) xs where
  go := fun R μ H i o f s hi => ⟨o.fr a _ (f _ _ h), by rw [← r.length, List.length_map] at hi; exact hi⟩
  yld := fun R μ H i x H' o f s y hi => by
    obtain ⟨rfl, k, e⟩ := y
    have e2 : (kvs.map (·.2))[i]? = some x := by rw [List.getElem?_map, e]; rfl
    obtain ⟨d, e3, k⟩ := r.getV e2
    exact ⟨d, e3, o, Same.refl _, k.mono s⟩
  stop := fun R μ H i o f s hi => ⟨o.fr a _ (f _ _ h), by rw [← r.length, List.length_map] at hi; exact hi⟩
section
variable {X : Cx} {elt tg iter : Expr} {ifs : List Expr} {scope : Scope} {own : List (Str × Nat)} {pos : Pos} {g : WG} {t : WT} {e : WE} {sl : List Nat}
theorem lc_body {K : PySem.W.Frag} {vs : List Nat} (hv : ∀ i ∈ sl, i ∈ vs) {R : Hp} {ρ : Rho} {μ μ1 : Mh} {P : DV → Mh → Prop} {σ : L2.St} {H H1 : Hp} {Q : VK} {xs : List DV} {J : It} (a : At K R σ ρ μ H)
    (p1 : compW g t e (wipeD ρ vs) xs [] μ1 fun acc μ2 => P (.lst acc) μ2) (o1 : Ok K R μ1 H1) (s1 : Same (hid R μ H) (hid R μ1 H1)) (it : ItR K (hid R μ1 H1) R J xs) (k : Nxt K R μ H P Q) :
    tLc (fun _ _ RR => RR J H1) (tDG K sl g) (tDT K t) (tD K e) vs σ H Q := fun D n => by
    have rn := o1.freeR n
    have fD : ∀ (accV : List V) b o, R b = some o → upd R D (.lst accV) b = some o := fun accV b o q => by
      rw [upd_ne fun z => by subst z; rw [rn] at q; cases q]
      exact q
    refine ⟨fun i m H' => m = xs.length - i ∧ i ≤ xs.length ∧ ∃ μ' acc accV, Ok K (upd R D (.lst accV)) μ' H' ∧ Same (hid R μ1 H1) (hid (upd R D (.lst accV)) μ' H') ∧ Iss K (hid (upd R D (.lst accV)) μ' H') accV acc ∧
      compW g t e (wipeD ρ vs) (xs.drop i) acc μ' fun acc μ2 => P (.lst acc) μ2, ?_, ?_⟩
    · obtain ⟨o2, e2⟩ := o1.frame (o := .lst []) n
      exact ⟨_, rfl, Nat.zero_le _, μ1, [], [], o2, by rw [e2]; exact Same.refl _, .nil, p1⟩
    rintro i m H2 ⟨rfl, hi, μ2, acc, accV, o2, s2, r2, w2⟩
    by_cases hlt : i < xs.length
    · refine .inr ⟨it.go _ μ2 H2 i o2 (fD accV) s2 hlt, fun H' => ∃ μ' acc accV, Ok K (upd R D (.lst accV)) μ' H' ∧ Same (hid R μ1 H1) (hid (upd R D (.lst accV)) μ' H') ∧ Iss K (hid (upd R D (.lst accV)) μ' H') accV acc ∧
        compW g t e (wipeD ρ vs) (xs.drop (i + 1)) acc μ' fun acc μ2 => P (.lst acc) μ2, fun H' ⟨μ', acc', accV', o', s', r', w'⟩ => ⟨_, ?_, rfl, hlt, μ', acc', accV', o', s', r', w'⟩, fun x H3 y => ?_⟩
      · omega
      · obtain ⟨d, hd, o3, s3, r3⟩ := it.yld _ μ2 H2 i x H3 o2 (fD accV) s2 y hlt
        rw [drop_at hd] at w2
        have sl3 : Sl K (hid (upd R D (.lst accV)) μ2 H3) (wipe σ vs) (wipeD ρ vs) := (a.sl.mono ((s1.trans s2).trans s3)).wipe vs
        refine ⟨_, wipeD ρ vs, μ2, d, _, ⟨o3, sl3⟩, r3, w2, fun ρ4 σ4 w4 sl4 ww => ⟨by rw [ww vs hv, wipe_wipe], _, ρ4, μ2, _, ⟨o3, sl4⟩, w4, fun b μ5 H5 p5 o5 s5 => ?_⟩⟩
        cases b with
        | false => exact iteF ⟨μ5, acc, accV, o5, (s2.trans s3).trans s5, r2.mono (s3.trans s5), p5⟩
        | true =>
          refine iteT ⟨_, ρ4, μ5, _, ⟨o5, sl4.mono s5⟩, p5, fun y μ6 v H6 p6 o6 s6 r6 => ⟨accV, o6.fr D _ upd_same, ?_, ?_⟩⟩
          · rw [r2.length]
            exact p6.1
          · obtain ⟨o7, e7⟩ := o6.reframe (o' := .lst (accV ++ [v]))
            refine ⟨μ6, acc ++ [y], accV ++ [v], o7, ?_, ?_, p6.2⟩
            · rw [e7]
              exact ((s2.trans s3).trans s5).trans s6
            · rw [e7]
              exact (r2.mono ((s3.trans s5).trans s6)).append (.cons r6 .nil)
    · have e' : i = xs.length := by omega
      subst e'
      rw [List.drop_length] at w2
      obtain ⟨o4, s4, h4⟩ := o2.unframe rn
      exact .inl ⟨it.stop _ μ2 H2 _ o2 (fD accV) s2 (Nat.le_refl _), k _ μ2 _ H2 w2 o4 (s1.trans (s2.trans s4)) (.lst h4 (r2.mono s4))⟩
/-- [e for g in NAME.values() if t] -/
def wLcV (i : Nat) (g : WG) (t : WT) (e : WE) (vs : List Nat) : WE := fun ρ μ P => match ρ[i]? with
  | some (some (.obj a)) => match μ a with
    | some (.dct ds) => compW g t e (wipeD ρ vs) (ds.map (·.2)) [] (delM μ a) fun acc μ2 => μ2 a = none ∧ P (.lst acc) (updM μ2 a (.dct ds))
    | _ => False
  | _ => False
theorem lcV_imp {K : PySem.W.Frag} {vs : List Nat} {i : Nat} (hv : ∀ i ∈ sl, i ∈ vs) : ∀ σ H Q, tD K (wLcV i g t e vs) σ H Q → tLockE (tLc (iVals (tD K (wVar i))) (tDG K sl g) (tDT K t) (tD K e) vs) σ H Q := fun σ H Q ⟨R, ρ, μ, P, at', w, k⟩ => by
  have w1 : (match ρ[i]? with | some (some (.obj a)) => (match μ a with | some (.dct ds) => compW g t e (wipeD ρ vs) (ds.map (·.2)) [] (delM μ a) (fun acc μ2 => μ2 a = none ∧ P (.lst acc) (updM μ2 a (.dct ds))) | _ => False) | _ => False) := w
  split at w1
  case h_2 => exact w1.elim
  rename_i a ea
  split at w1
  case h_2 => exact w1.elim
  rename_i ds em
  obtain ⟨kvs, hH, hk, hr⟩ := at'.ok.ob a _ em
  have ra : R a = none := by
    cases e : R a with
    | none => rfl
    | some o => rw [at'.ok.dj a o e] at em; cases em
  refine ⟨a, .dK kvs, hH, trivial, fun od => ?_⟩
  have hidE : hid (upd R a (.frz od (.dK kvs))) (delM μ a) (upd H a (.frz od (.dK kvs))) = hid R μ H := by
    funext b
    unfold hid
    by_cases z : b = a
    · subst z
      rw [upd_same, if_neg (fun q => Bool.false_ne_true q.1), if_neg (fun q => by rw [em] at q; exact Bool.false_ne_true q.2)]
    · rw [upd_ne z, upd_ne z, delM_ne z]
  have ok' : Ok K (upd R a (.frz od (.dK kvs))) (delM μ a) (upd H a (.frz od (.dK kvs))) := by
    refine ⟨fun b o q => ?_, fun b o q => ?_, fun b o q => ?_⟩
    · by_cases z : b = a
      · subst z
        rw [upd_same] at q ⊢
        exact q
      · rw [upd_ne z] at q ⊢
        exact at'.ok.fr b o q
    · by_cases z : b = a
      · subst z
        exact delM_same
      · rw [upd_ne z] at q
        rw [delM_ne z]
        exact at'.ok.dj b o q
    · have z : b ≠ a := fun z => by subst z; rw [delM_same] at q; cases q
      rw [delM_ne z] at q
      rw [hidE]
      refine (at'.ok.ob b o q).mono (Same.refl _) (upd_ne z) (fun c hc => ?_) q (fun c hc => ?_)
      · rw [q] at hc
        cases o with
        | ext near φ =>
          obtain ⟨_, _, hn, _⟩ := at'.ok.ob b _ q
          exact upd_ne fun y => by subst y; have := hn c hc; rw [em] at this; cases this
        | _ => cases hc
      · rw [delM_ne fun y => by subst y; rw [em] at hc; cases hc]
        exact hc
  have at2 : At K (upd R a (.frz od (.dK kvs))) σ ρ (delM μ a) (upd H a (.frz od (.dK kvs))) := ⟨ok', by rw [hidE]; exact at'.sl⟩
  refine ⟨_, ρ, _, fun d m => d = .obj a ∧ m = delM μ a, at2, ?_, fun d m v H1 ⟨hd, hm⟩ o1 s1 i1 => ?_⟩
  · show (match ρ[i]? with | some (some d) => _ | _ => False)
    rw [ea]
    exact ⟨rfl, rfl⟩
  subst hd hm
  cases i1
  refine ⟨a, od, kvs, rfl, o1.fr a _ upd_same, ?_⟩
  have r1 : Iss K (hid (upd R a (.frz od (.dK kvs))) (delM μ a) H1) (kvs.map (·.2)) (ds.map (·.2)) := hr.mono (by rw [← hidE]; exact s1)
  refine lc_body (P := fun d μ2 => μ2 a = none ∧ P d (updM μ2 a (.dct ds))) (Q := fun v H' => H' a = some (.frz od (.dK kvs)) ∧ Q v (upd H' a (.dK kvs))) hv at2 w1 o1 s1 (.vals upd_same r1) fun d μ2 v H2 ⟨n2, p2⟩ o2 s2 i2 => ⟨o2.fr a _ upd_same, ?_⟩
  have hid3 : hid R (updM μ2 a (.dct ds)) (upd H2 a (.dK kvs)) = hid (upd R a (.frz od (.dK kvs))) μ2 H2 := by
    funext b
    unfold hid
    by_cases z : b = a
    · subst z
      rw [upd_same, updM_same, if_neg (fun q => Bool.false_ne_true q.2), if_neg (fun q => by rw [upd_same] at q; exact Bool.false_ne_true q.1)]
    · rw [upd_ne z, upd_ne z, updM_ne z]
  have s3 : Same (hid R μ H) (hid (upd R a (.frz od (.dK kvs))) μ2 H2) := by rw [← hidE]; exact s2
  refine k d _ v _ p2 ⟨fun b o q => ?_, fun b o q => ?_, fun b o q => ?_⟩ (by rw [hid3]; exact s3) (by rw [hid3]; exact i2)
  · have z : b ≠ a := fun z => by subst z; rw [ra] at q; cases q
    rw [upd_ne z]
    exact o2.fr b o (by rw [upd_ne z]; exact q)
  · have z : b ≠ a := fun z => by subst z; rw [ra] at q; cases q
    rw [updM_ne z]
    exact o2.dj b o (by rw [upd_ne z]; exact q)
  · rw [hid3]
    by_cases z : b = a
    · subst z
      rw [updM_same] at q
      cases q
      exact ⟨kvs, upd_same, hk, hr.mono s3⟩
    · rw [updM_ne z] at q
      refine (o2.ob b o q).mono (Same.refl _) (upd_ne z) (fun c hc => ?_) q (fun c hc => ?_)
      · rw [q] at hc
        cases o with
        | ext near φ =>
          obtain ⟨_, _, hn, _⟩ := o2.ob b _ q
          exact upd_ne fun y => by subst y; have := hn c hc; rw [n2] at this; cases this
        | _ => cases hc
      · rw [updM_ne fun y => by subst y; rw [n2] at hc; cases hc]
        exact hc
theorem d_lcV {i : Nat} {e0 : Expr} {apos cpos : Pos} (he0 : PE X e0 (tD X.K (wVar i))) (ok : BlkOk X.N X.env.scope scope own)
    (hg : ∀ (s : Shared) (H : Hp) (C : Addr) (cl : List (Str × Addr)) (fp : List Addr), PG (X.blk s H scope (compEnvC scope cl C X.env) fp) tg (tDG X.K sl g)) (ht : ∀ (s : Shared) (H : Hp) (C : Addr) (cl : List (Str × Addr)) (fp : List Addr), PTs (X.blk s H scope (compEnvC scope cl C X.env) fp) ifs (tDT X.K t))
    (he : ∀ (s : Shared) (H : Hp) (C : Addr) (cl : List (Str × Addr)) (fp : List Addr), PE (X.blk s H scope (compEnvC scope cl C X.env) fp) elt (tD X.K e)) (hN : X.N.Nodup) (hv : ∀ i ∈ sl, i ∈ own.map (·.2) := by decide) (hc : X.calm = true := by rfl)
    (hbase : attributeBase e0 "values" X.env (eval e0 X.env) = eval e0 X.env := by rfl) (hline : (apos.endLine == cpos.line) = true := by rfl)
    (hs : ∀ x, foldedSetIterable (.Call (.Attribute e0 "values" apos) [] [] cpos) X.env x = pure x := by intro _; rfl) :
    PE X (.ListComp elt [⟨tg, .Call (.Attribute e0 "values" apos) [] [] cpos, ifs, 0⟩] scope pos) (tD X.K (wLcV i g t e (own.map (·.2)))) := PE.imp (pe_lock (pe_lc hc hN (pi_values he0 hbase hline) ok hg ht he hs)) (lcV_imp hv)
end
theorem Iss.ofInts {K : PySem.W.Frag} {H : Hp} : ∀ (ks : List Int), Iss K H (ks.map V.int) (ks.map DV.int)
  | [] => .nil
  | k :: ks => .cons (.int k) (Iss.ofInts ks)
/-- sorted(d) of a dict whose keys are ints -/
def wSortDI (w : WE) : WE := fun ρ μ P => w ρ μ fun x μ1 => match look μ1 x with
  | .dct kvs => ∃ ks : List Int, kvs.map (·.1) = ks.map Sum.inl ∧ ks.length < 64 ∧ ∀ ys : List Int, ys.Perm ks → ys.Pairwise (· ≤ ·) → P (.lst (ys.map .int)) μ1
  | _ => False
section
variable {X : Cx} {p pos : Pos} {e : Expr} {w : WE}
theorem d_sortDI (hg : Gl X "sorted") (hm : X.mg "sorted" = none) (ha : PE X e (tD X.K w)) (hc : X.calm = true := by rfl) (hs : starEach [e] X.env = [(false, eval e X.env)] := by rfl) :
    PE X (.Call (.Name "sorted" p) [e] [] pos) (tD X.K (wSortDI w)) :=
  PE.imp (pe_callB (call_sortedDI hc) hg hm (by decide +kernel) (pa_cons ha pa_nil hs) (by decide) (by decide) hs rfl)
    fun σ H Q ⟨R, ρ, μ, P, a, w, k⟩ => ⟨R, ρ, μ, _, a, w, fun x μ1 v H1 p1 o1 s1 i1 => by
      have i2 := i1.look o1
      have p2 : (match look μ1 x with | .dct kvs => ∃ ks : List Int, kvs.map (·.1) = ks.map Sum.inl ∧ ks.length < 64 ∧ ∀ ys : List Int, ys.Perm ks → ys.Pairwise (· ≤ ·) → P (.lst (ys.map .int)) μ1 | _ => False) := p1
      generalize look μ1 x = y at i2 p2
      cases i2 with
      | @dct b xs ds hx hk rx =>
        obtain ⟨ks, h1, h2, q⟩ := p2
        exact ⟨b, xs, ks, rfl, .inl hx, hk.trans h1, h2, fun ys p' pm pw hp' => (k.step s1).lst o1 (q ys pm pw) (Iss.ofInts ys) hp'⟩
      | _ => exact (show False from p2).elim⟩
end
end Dz

set_option Elab.async false
set_option linter.all false
set_option maxRecDepth 100000
set_option maxHeartbeats 4000000
/-! DzZc: d[k], e[l] = two. -/
namespace Dz
open PySem PySem.Spec L2 PyProof.Rows StX

def putW (x y v : DV) (μ : Mh) (P : Mh → Prop) : Prop := match x with
  | .obj a => match μ a with
    | some (.dct kvs) => atW (keyD y) fun k => kvs.length < sizeLine ∧ P (updM μ a (.dct (putD kvs k v)))
    | _ => False
  | _ => False
theorem putW_of {K : PySem.W.Frag} {R : Hp} {μ : Mh} {H : Hp} {xv yv vv : V} {x y v : DV} {P : Mh → Prop} (w : putW x y v μ P) (o : Ok K R μ H) (i2 : Is K (hid R μ H) xv x) (i3 : Is K (hid R μ H) yv y) (i1 : Is K (hid R μ H) vv v) :
    ∃ b H4 μ4, xv = .ref b ∧ DPut H b yv vv H4 ∧ P μ4 ∧ Ok K R μ4 H4 ∧ Same (hid R μ H) (hid R μ4 H4) := by
  cases i2 with
  | obj b =>
    have p3' : (match μ b with | some (.dct kvs) => atW (keyD y) fun k => kvs.length < sizeLine ∧ P (updM μ b (.dct (putD kvs k v))) | _ => False) := w
    split at p3'
    · rename_i kvs e
      obtain ⟨key, h1, hl, w3⟩ := atW_of p3'
      obtain ⟨ks, h3, h4, h5⟩ := o.ob b _ e
      obtain ⟨h6, h7⟩ := Iss.put (k := key) h4 h5 i1
      obtain ⟨o4, e4⟩ := o.setM (o := .dK (putK ks key vv)) (m := .dct (putD kvs key v)) e (by intro z; cases z) ⟨_, upd_same, h6, h7⟩
      have hlen : ks.length = kvs.length := by have := congrArg List.length h4; simpa using this
      exact ⟨b, _, _, rfl, by rw [keyD_of i3 h1]; exact DPut.k h3 (by rw [hlen]; exact hl), w3, o4, by rw [e4]; exact Same.refl _⟩
    · exact p3'.elim
  | _ => exact (show False from w).elim
/-- d[k], e[l] = two -/
def wDPut2 (wd wk we wl wv : WE) : WS := fun E ρ μ => wv ρ μ fun v μ1 => match v with
  | .tup [v1, v2] => wd ρ μ1 fun x μ2 => wk ρ μ2 fun y μ3 => putW x y v1 μ3 fun μ4 => we ρ μ4 fun x2 μ5 => wl ρ μ5 fun y2 μ6 => putW x2 y2 v2 μ6 fun μ7 => E.nx ρ μ7
  | _ => False
section
variable {X : Cx} {oe ke oe2 ke2 ve : Expr} {pos p1 p2 tp : Pos} {kk : Nat} {wd wk we wl wv : WE}
theorem ds_dput2 {k : Nat} (hr : Room k X.A) (ho : PE X oe (tD X.K wd)) (hi : PE X ke (tD X.K wk)) (ho2 : PE X oe2 (tD X.K we)) (hi2 : PE X ke2 (tD X.K wl)) (hv : PE X ve (tD X.K wv)) (hc : X.calm = true := by rfl)
    (hs : swapsWithSole [.Tuple [.Subscript oe ke p1, .Subscript oe2 ke2 p2] kk tp] ve pos.line X.env = pure false := by rfl) (hw : swappedStores [.Tuple [.Subscript oe ke p1, .Subscript oe2 ke2 p2] kk tp] ve X.env = pure none := by rfl)
    (h1 : (assignEach [.Tuple [.Subscript oe ke p1, .Subscript oe2 ke2 p2] kk tp] X.env).map (·.2) = [assign (.Tuple [.Subscript oe ke p1, .Subscript oe2 ke2 p2] kk tp) X.env] := by rfl)
    (ha : ∀ v, assign (.Subscript oe ke p1) X.env v = (do
      let ov ← holding [v] (eval oe X.env)
      let iv ← holding [v, ov] (eval ke X.env)
      standAt p1
      holding [v, ov, iv] (setItem ov iv v)
      release [v, ov, iv] []) := by intro _; rfl)
    (hb : ∀ v, assign (.Subscript oe2 ke2 p2) X.env v = (do
      let ov ← holding [v] (eval oe2 X.env)
      let iv ← holding [v, ov] (eval ke2 X.env)
      standAt p2
      holding [v, ov, iv] (setItem ov iv v)
      release [v, ov, iv] []) := by intro _; rfl)
    (hn : (assignEach [.Subscript oe ke p1, .Subscript oe2 ke2 p2] X.env).length = 2 := by rfl) (hst : (assignEach [.Subscript oe ke p1, .Subscript oe2 ke2 p2] X.env).findIdx? (·.1) = none := by rfl)
    (hs1 : (assignEach [.Subscript oe ke p1, .Subscript oe2 ke2 p2] X.env).map (·.2) = assign (.Subscript oe ke p1) X.env :: (assignEach [.Subscript oe2 ke2 p2] X.env).map (·.2) := by rfl)
    (hs2 : (assignEach [.Subscript oe2 ke2 p2] X.env).map (·.2) = assign (.Subscript oe2 ke2 p2) X.env :: (assignEach [] X.env).map (·.2) := by rfl) :
    PS X (.Assign [.Tuple [.Subscript oe ke p1, .Subscript oe2 ke2 p2] kk tp] ve pos) (tDS X.K (wDPut2 wd wk we wl wv)) :=
  PS.imp (ps_asg hv (pg_tup hc (pgs_cons (pg_sub ho hi (set_dict (by have := hr.un; omega)) ha) (pgs_cons (pg_sub ho2 hi2 (set_dict (by have := hr.un; omega)) hb) pgs_nil hs2) hs1) hn hst) hs hw h1) fun D σ H ⟨R, ρ, μ, E, a, w, k⟩ => ⟨R, ρ, μ, _, a, w, fun v μ1 vv H1 p1 o1 s1 i1 => by
    cases i1 with
    | @tup b xs ds hx rx =>
      cases rx with
      | nil => exact (show False from p1).elim
      | @cons u1 us e1 es r1 rr =>
        cases rr with
        | nil => exact (show False from p1).elim
        | @cons u2 us2 e2 es2 r2 rr2 =>
          cases rr2 with
          | cons _ _ => exact (show False from p1).elim
          | nil =>
            refine ⟨b, _, rfl, Same.seqT hid_le hx.t, rfl, u1, [u2], rfl, R, ρ, μ1, _, a.step o1 s1, p1, fun x μ2 xv H2 p2 o2 s2 i2 => ⟨R, ρ, μ2, _, a.step o2 (s1.trans s2), p2, fun y μ3 yv H3 p3 o3 s3 i3 => ?_⟩⟩
            obtain ⟨c, H4, μ4, rfl, g4, p4, o4, s4⟩ := putW_of p3 o3 (i2.mono s3) i3 (r1.mono (s2.trans s3))
            have t4 := ((s1.trans s2).trans s3).trans s4
            refine ⟨c, H4, rfl, g4, u2, [], rfl, R, ρ, μ4, _, a.step o4 t4, p4, fun x μ5 xv H5 p5 o5 s5 i5 => ⟨R, ρ, μ5, _, a.step o5 (t4.trans s5), p5, fun y μ6 yv H6 p6 o6 s6 i6 => ?_⟩⟩
            obtain ⟨c2, H7, μ7, rfl, g7, p7, o7, s7⟩ := putW_of p6 o6 (i5.mono s6) i6 (r2.mono ((((s2.trans s3).trans s4).trans s5).trans s6))
            exact ⟨c2, H7, rfl, g7, rfl, k.nx ρ _ σ _ p7 (a.step o7 (((t4.trans s5).trans s6).trans s7)) (((t4.trans s5).trans s6).trans s7)⟩
    | _ => exact (show False from p1).elim⟩
end
end Dz

set_option Elab.async false
set_option linter.all false
set_option maxRecDepth 100000
set_option maxHeartbeats 4000000
/-! DzZd: xs[a:b] of a list that changes. -/
namespace Dz
open PySem PySem.Spec L2 PyProof.Rows StX

section
variable {X : Cx} {e : Expr} {pos : Pos}
/-- xs[a:b] of a list that changes: a new one that may change -/
def wSlM (w : WE) (wl wh : WO) : WE := fun ρ μ P => w ρ μ fun x μ1 => wl ρ μ1 fun l μ2 => wh ρ μ2 fun h μ3 => match x with
  | .obj a => match μ3 a with
    | some (.lst ds) => ∀ p, μ3 p = none → P (.obj p) (updM μ3 p (.lst (cutD ds l h)))
    | _ => False
  | .lst ds => ∀ p, μ3 p = none → P (.obj p) (updM μ3 p (.lst (cutD ds l h)))
  | _ => False
theorem d_sliceM {lo hi : Option Expr} {p2 : Pos} {w : WE} {wl wh : WO} (he : PE X e (tD X.K w)) (hl : PO X lo (tDO X.K wl)) (hu : PO X hi (tDO X.K wh)) : PE X (.Subscript e (.Slice lo hi none p2) pos) (tD X.K (wSlM w wl wh)) :=
  PE.imp (pe_slice sl_list he hl hu) fun σ H Q ⟨R, ρ, μ, P, a, w, k⟩ => ⟨R, ρ, μ, _, a, w, fun x μ1 v H1 p1 o1 s1 i1 => ⟨R, ρ, μ1, _, a.step o1 s1, p1, fun l μ2 H2 p2 o2 s2 => ⟨R, ρ, μ2, _, a.step o2 (s1.trans s2), p2, fun h μ3 H3 p3 o3 s3 => by
    have k3 := k.step ((s1.trans s2).trans s3)
    have i3 := i1.mono (s2.trans s3)
    cases i3 with
    | lst hx rx => exact ⟨_, _, rfl, SqL.of (hid_le _ _ hx), fun p n => k3.lstM o3 p3 (rx.cut l h) n⟩
    | obj b =>
      have p4 : (match μ3 b with | some (.lst ds) => ∀ p, μ3 p = none → P (.obj p) (updM μ3 p (.lst (cutD ds l h))) | _ => False) := p3
      split at p4
      · rename_i ds em
        obtain ⟨xs, h3, h4⟩ := o3.ob b _ em
        exact ⟨_, _, rfl, SqL.of h3, fun p n => k3.lstM o3 p4 (h4.cut l h) n⟩
      · exact p4.elim
    | _ => exact (show False from p3).elim⟩⟩⟩
end
end Dz

set_option Elab.async false
set_option linter.all false
set_option maxRecDepth 100000
set_option maxHeartbeats 4000000
/-! DzZe: t.index(x) of a tuple, t * k of a tuple. -/
namespace Dz
open PySem PySem.Spec L2 PyProof.Rows

section
variable {X : Cx} {oe e : Expr} {es : List Expr} {pos apos : Pos} {wo we : WE}
theorem SqN.noDict {pins : List (Addr × Obj)} {σ : L2.St} {H : Hp} {s : Shared} {a : Addr} {xs : List V} (I : Inv X pins σ H s) (h : SqN X.K H a xs) : ∃ o, s.heap.get? a = some o ∧ NewT o := by
  rcases h with ⟨o, h, n⟩ | ⟨o, its, k, h1, h2, _⟩
  · exact ⟨o, (I.hok a _ h).1, n⟩
  · exact ⟨o, I.kIn _ o h1, h2⟩
/-- t.m(e, ..), t a tuple known to have no dict of its own -/
theorem pe_bmN {o : Expr} {to : TE} {t : TA} {name : Str} {id : String} {cpos : Pos} {r : V → List V → Hp → VK → Prop} (slot : Slot "tuple" name id) (hty : typeOf (.builtin id) = pure (.type "method_descriptor")) (hm : MtR X id r) (ho : PE X o to) (ha : PA X (e :: es) t)
    (hbase : attributeBase o name X.env (eval o X.env) = eval o X.env := by rfl)
    (hfew : ((backTo cpos (starEach (e :: es) X.env)).all (fun x => !x.1) && (backToKw cpos (keywordEach [] X.env)).all (fun x => x.1.isSome)
      && decide ((e :: es).length + ([] : List Keyword).length + (if ([] : List Keyword).isEmpty then 0 else 1) < 30)) = true := by rfl)
    (hline : (apos.endLine == cpos.line) = true := by rfl) (hs : starEach (e :: es) X.env = (false, eval e X.env) :: starEach es X.env := by rfl) (hplain : (backTo cpos (starEach es X.env)).any (·.1) = false := by rfl) :
    PE X (.Call (.Attribute o name apos) (e :: es) [] cpos) (fun σ H Q => to σ H fun x H1 => (∃ a xs, x = V.ref a ∧ SqN X.K H1 a xs) ∧ t σ H1 fun xs H2 => r x xs H2 Q) := by
  refine ⟨fun pins s σ H Q I h => ?_⟩
  refine wpAny_Call_method_late hbase hfew hline rfl (thn (ho.run pins s σ H _ I h) fun v s1 ⟨x, H1, I1, r1, ty, q1⟩ => ?_)
  obtain ⟨a, xs, rfl, hN⟩ := ty
  obtain ⟨ob, hob, hn⟩ := hN.noDict I1
  obtain rfl : v = Value.ref a := r1
  refine ⟨"tuple", id, PySem.F.plainAttrs_tuple, slot, hty, ⟨ob, hob, hn.1⟩, fun b eb => by cases eb; exact ⟨ob, hob, hn.2⟩, ?_⟩
  have hA := ha.run cpos pins s1 σ H1 _ I1 q1
  rw [hs] at hA ⊢
  refine Calls.callWith_builtin (by show (false || (backTo cpos (starEach es X.env)).any (·.1)) = false; rw [hplain] <;> rfl) (Calls.evalArgs_plain ?_)
  exact thn hA fun us s2 ⟨vs, H2, I2, r2, q2⟩ => hm pins s2 σ H2 (V.ref a) vs (Value.ref a) us Q I2 rfl r2 q2

/-- t.index(x): the first place of an equal one -/
def rIndexTD (K : PySem.W.Frag) : V → List V → Hp → VK → Prop := fun x xs H Q => ∃ (a : Addr) (y : V) (d : PyData) (ds : List PyData) (j : Nat) (z : PyData), x = V.ref a ∧ xs = [y] ∧ Dp K H (V.ref a) (.tuple ds) ∧ Dp K H y d ∧
  SeqAt.shaped (.tuple ds) = true ∧ SeqAt.shaped d = true ∧ ds[j]? = some z ∧ PyData.eqv z d = true ∧ (∀ (m : Nat) (z' : PyData), m < j → ds[m]? = some z' → PyData.eqv z' d = false) ∧ Q (.int (j : Nat)) H
theorem mt_indexTD (hu : X.A.units + 65 < cLine) : MtR X "tuple.index" (rIndexTD X.K) := by
  intro pins s σ H x xs v us Q I rx rxs h
  obtain ⟨a, y, d, ds, j, z, rfl, rfl, hl, hy, sl, sd, hz, hzj, hno, q⟩ := h
  cases rx
  cases rxs with
  | cons ry rt =>
    rename_i uy ut
    cases rt
    obtain ⟨bs, r1⟩ := Dp.reads I d y uy hy ry
    have hxs : PyData.canLayAll0 ds = true := SeqAt.canLay_of_shaped sl
    have hroom : X.A.units + 1 + min (PyData.depthAll ds) d.depth < cLine := room_in_tup sd hu
    cases hl with
    | tup hs ha =>
      obtain ⟨its, rv, ⟨⟨cls, dd, data, sls⟩, ho, hc, n, hdt⟩, hlen⟩ := I.tuple hs
      simp only at hc hdt
      subst hc hdt
      obtain ⟨as, h4⟩ := Dp.readsAll I ds _ its ha rv
      have hn : its.length = ds.length := SeqAt.ReadsAll.length ds its as h4
      have hmap : its.map (SeqAt.readOf s.heap) = ds := SeqAt.readsAll_map ds its as hxs h4
      have hvl := rv.length
      have hsl := sizeLine_eq
      obtain ⟨hjd, _⟩ := List.getElem?_eq_some_iff.mp hz
      have hjl : j < its.length := by omega
      have hj : j < its.toArray.size := by simpa using hjl
      have at_ : ∀ (m : Nat) (hm : m < its.toArray.size) (z' : PyData), ds[m]? = some z' → SeqAt.readOf s.heap its.toArray[m] = z' := by
        intro m hm z' hz'
        have hml : m < its.length := by simpa using hm
        rw [← hmap, List.getElem?_map, List.getElem?_eq_getElem hml] at hz'
        have e1 : SeqAt.readOf s.heap its[m] = z' := Option.some.inj (show some (SeqAt.readOf s.heap its[m]) = some z' from hz')
        simpa using e1
      refine call_meets PySem.F.slot_tuple_index ⟨_, ho, rfl⟩ PySem.F.entry_tuple_index (PySem.F.args_tuple_index_2 _ _)
        (TI.tuple_indexAt a its.toArray n dd sls uy (fun u => PyData.eqv (SeqAt.readOf s.heap u) d) j hj ?_ ?_) ⟨ho, SeqAt.items_eqAt (vs := its.toArray) (show ReadsAll s.heap its.toArray.toList ds as from h4) r1 hxs (SeqAt.canLay_of_shaped sd) hroom, ?_⟩
      · show PyData.eqv (SeqAt.readOf s.heap its.toArray[j]) d = true
        rw [at_ j hj z hz]
        exact hzj
      · intro m hm hmj
        have hmd : m < ds.length := by omega
        have hz' : ds[m]? = some ds[m] := List.getElem?_eq_getElem hmd
        show PyData.eqv (SeqAt.readOf s.heap its.toArray[m]) d = false
        rw [at_ m hm _ hz']
        exact hno m _ hmj hz'
      · exact ⟨.int (j : Nat), H, I.tok _, ⟨_, rfl⟩, q⟩
/-- the first place of an equal one, in a tuple -/
def wIndexT (wo we : WE) : WE := fun ρ μ P => wo ρ μ fun x μ1 => match x with
  | .tup ds => we ρ μ1 fun y μ2 => shapedD (.tup ds) = true ∧ shapedD y = true ∧ ∃ j z, ds[j]? = some z ∧ deepEq z y = true ∧ (∀ m z', m < j → ds[m]? = some z' → deepEq z' y = false) ∧ P (.int (j : Nat)) μ2
  | _ => False
theorem d_indexT {k : Nat} (hr : Room k X.A) (ho : PE X oe (tD X.K wo)) (he : PE X e (tD X.K we)) (hs : starEach [e] X.env = [(false, eval e X.env)] := by rfl) (hbase : attributeBase oe "index" X.env (eval oe X.env) = eval oe X.env := by rfl)
    (hfew : ((backTo pos (starEach [e] X.env)).all (fun x => !x.1) && (backToKw pos (keywordEach [] X.env)).all (fun x => x.1.isSome) && decide (([e] : List Expr).length + ([] : List Keyword).length + (if ([] : List Keyword).isEmpty then 0 else 1) < 30)) = true := by rfl) (hline : (apos.endLine == pos.line) = true := by rfl) :
    PE X (.Call (.Attribute oe "index" apos) [e] [] pos) (tD X.K (wIndexT wo we)) :=
  PE.imp (pe_bmN PySem.F.slot_tuple_index PySem.F.type_tuple_index (mt_indexTD (by have := hr.un; omega)) ho (pa_cons he pa_nil hs) hbase hfew hline hs) fun σ H Q ⟨R, ρ, μ, P, a, w, k⟩ => ⟨R, ρ, μ, _, a, w, fun x μ1 v H1 p1 o1 s1 i1 => by
    cases i1 with
    | @tup b xs ds hx rx =>
      refine ⟨⟨b, xs, rfl, Same.seqN hid_le hx⟩, R, ρ, μ1, _, a.step o1 s1, p1, fun y μ2 u H2 p2 o2 s2 i2 => ?_⟩
      obtain ⟨sl1, sy, j, z, hj, hz, hno, q⟩ := p2
      have hl2 : Is X.K H2 (.ref b) (.tup ds) := (Is.mono s2 (Is.tup hx rx)).mono hid_le
      have hy2 := i2.mono hid_le
      have d1 := hl2.dpS sl1
      have d2 := hy2.dpS sy
      refine ⟨b, u, toPy y, toPys ds, j, toPy z, rfl, rfl, d1.1, d2.1, d1.2, d2.2, by rw [toPys_get, hj]; rfl, hz, fun m z' hm hz' => ?_, (k.step (s1.trans s2)).val o2 q (.int _)⟩
      rw [toPys_get] at hz'
      cases hd : ds[m]? with
      | none => rw [hd] at hz'; cases hz'
      | some d =>
        rw [hd] at hz'
        have : toPy d = z' := Option.some.inj hz'
        rw [← this]
        exact hno m d hm hd
    | _ => exact (show False from p1).elim⟩

/-! ### t * k -/
theorem tuple_mul1 (l : Addr) (items : Array Value) (n : Nat) (dd : Option Addr) (sl : Array (Option Value)) (x : Int) (u : Tok) (c0 : (decide (x < -(2 ^ 63)) || decide (x ≥ 2 ^ 63)) = false) (c1 : (items.isEmpty || x == 1) = true) :
    Meets (Builtin.«tuple.__mul__» ⟨[.ref l, .int x u], []⟩) (fun _ R s => s.heap.get? l = some { cls := .type "tuple", dict := dd, data := .seq items n, slots := sl } ∧ R (.ok (.ret (Value.ref l))) s) :=
  .of_wp fun prog w A R s h => by
    obtain ⟨hp, g, d, tk, os⟩ := s
    obtain ⟨hl, h⟩ := h
    have f1 := AutoSeq1.idx_int
    wp_walk using wpAny_loadPart' hl
    repeat (first
      | (refine wpAny_ite_false (decide_eq_false (by rw [c0]; exact Bool.false_ne_true)) ?_; wp_walk using wpAny_loadPart' hl)
      | (refine wpAny_ite_true (decide_eq_true c1) ?_; wp_walk using wpAny_loadPart' hl))
    exact ⟨_, rfl, h⟩
theorem tuple_mul0 (l : Addr) (items : Array Value) (n : Nat) (dd : Option Addr) (sl : Array (Option Value)) (x : Int) (u : Tok) (c0 : (decide (x < -(2 ^ 63)) || decide (x ≥ 2 ^ 63)) = false) (c1 : (items.isEmpty || x == 1) = false) (c2 : (decide (x ≤ 0) || items.isEmpty) = true) :
    Meets (Builtin.«tuple.__mul__» ⟨[.ref l, .int x u], []⟩) (fun _ R s => s.heap.get? l = some { cls := .type "tuple", dict := dd, data := .seq items n, slots := sl } ∧
      R (.ok (.ret (Value.ref s.heap.objs.size))) { s with heap := s.heap.push { cls := Value.type "tuple", data := Data.seq #[] }, toks := s.toks }) :=
  .of_wp fun prog w A R s h => by
    obtain ⟨hp, g, d, tk, os⟩ := s
    obtain ⟨hl, h⟩ := h
    have f1 := AutoSeq1.idx_int
    wp_walk using wpAny_loadPart' hl
    repeat (first
      | (refine wpAny_ite_false (decide_eq_false (by rw [c0]; exact Bool.false_ne_true)) ?_; wp_walk using wpAny_loadPart' hl)
      | (refine wpAny_ite_false (decide_eq_false (by rw [c1]; exact Bool.false_ne_true)) ?_; wp_walk using wpAny_loadPart' hl)
      | (refine wpAny_ite_true (decide_eq_true c2) ?_; wp_walk using wpAny_loadPart' hl))
    exact ⟨_, rfl, h⟩
/-- t * k -/
def rRepN (K : PySem.W.Frag) : R2 := fun x y H Q => ∃ l k xs, x = .ref l ∧ y = .int k ∧ SqT K H l xs ∧ -1000 ≤ k ∧ k ≤ 1000 ∧ xs.length ≤ 1000 ∧ ((xs = [] ∨ k = 1) → Q (.ref l) H) ∧
  (¬ (xs = [] ∨ k = 1) → ∀ p o, H p = none → NewT o → Q (.ref p) (upd H p (.frz o (.tup (List.replicate k.toNat xs).flatten))))
theorem op_repN : OpR X (binaryOp .Mult) (rRepN X.K) := by
  intro pins s σ H x y v u Q I rx ry h
  obtain ⟨l, k, xs, rfl, rfl, hT, h1, h2, hz, q1, q2⟩ := h
  cases rx
  obtain ⟨t, rfl⟩ := ry
  obtain ⟨its, r, ⟨⟨cls, dd, data, sl⟩, ho, hc, n, hd⟩, hs⟩ := I.tuple hT
  simp only at hc hd
  subst hc hd
  have hle : its.length = xs.length := r.length.symm
  have hsz0 : its.toArray.size = xs.length := by rw [List.size_toArray, hle]
  have c0 : (decide (k < -(2 ^ 63)) || decide (k ≥ 2 ^ 63)) = false := by
    rw [decide_eq_false (by omega), decide_eq_false (by omega)] <;> rfl
  refine wpAny_binaryOp_repeat_ref (T := "tuple") (U := "int") (by decide) ⟨_, ho, rfl⟩ (fun s' => typeIs_int s' k t) noFill_tuple_mul F.fills_int_mul F.slot_int_rmul repeat_tuple F.slot_int_index.lookup
    (call_meets F.slot_int_rmul (typeIs_int s k t) F.entry_int_rmul (F.args_int_rmul_2 _ _) (int_rmul_tuple k t l its.toArray n dd sl) ⟨ho, rfl, ⟨_, ho, rfl⟩, ?_⟩)
  by_cases hsame : xs = [] ∨ k = 1
  · have c1 : (its.toArray.isEmpty || k == 1) = true := by
      rcases hsame with e | e
      · subst e
        cases r
        rfl
      · subst e
        rw [Bool.or_eq_true]
        exact .inr rfl
    exact call_meets F.slot_tuple_mul ⟨_, ho, rfl⟩ F.entry_tuple_mul (F.args_tuple_mul_2 _ _) (tuple_mul1 l its.toArray n dd sl k t c0 c1) ⟨ho, ⟨.ref l, H, I, rfl, q1 hsame⟩⟩
  · have hne : xs ≠ [] := fun e => hsame (.inl e)
    have hk1 : k ≠ 1 := fun e => hsame (.inr e)
    have hn : its ≠ [] := fun e => hne (by
      rw [e] at hle
      exact List.eq_nil_of_length_eq_zero hle.symm)
    have hi : its.toArray.isEmpty = false := by
      cases its with
      | nil => exact absurd rfl hn
      | cons a b => rfl
    have c1 : (its.toArray.isEmpty || k == 1) = false := by
      rw [hi, Bool.false_or]
      exact beq_eq_false_iff_ne.mpr hk1
    by_cases hk0 : k ≤ 0
    · have c2 : (decide (k ≤ 0) || its.toArray.isEmpty) = true := by rw [decide_eq_true hk0]; rfl
      have e0 : (List.replicate k.toNat xs).flatten = [] := by
        have : k.toNat = 0 := by omega
        rw [this]
        rfl
      rw [e0] at q2
      refine call_meets F.slot_tuple_mul ⟨_, ho, rfl⟩ F.entry_tuple_mul (F.args_tuple_mul_2 _ _) (tuple_mul0 l its.toArray n dd sl k t c0 c1 c2) ⟨ho, ?_⟩
      exact ⟨.ref s.heap.objs.size, _, I.laid (t' := s.toks) (fun b ob q => Heap.get?_push_of_some _ q) (Nat.le_refl _) (newT_ok (us := []) .nil (Nat.zero_le _)), rfl, q2 hsame _ _ (I.hok.fresh (Nat.le_refl _)) ⟨rfl, rfl⟩⟩
    · have hm : ((its.toArray.size : Nat) : Int) * k ≤ 1000000 := by
        rw [hsz0]
        have a1 : ((xs.length : Nat) : Int) * k ≤ 1000 * k := Int.mul_le_mul_of_nonneg_right (by omega) (by omega)
        omega
      have flen : (List.replicate k.toNat its).flatten.length ≤ sizeLine := by
        rw [PyProof.Rows.lm_len_rep_flat, hle, sizeLine_eq]
        have a1 : k.toNat * xs.length ≤ 1000 * 1000 := Nat.mul_le_mul (by omega) hz
        omega
      have c2 : (decide (k ≤ 0) || its.toArray.isEmpty) = false := by
        rw [hi, Bool.or_false]
        exact decide_eq_false (by omega)
      have c4 : Builtin.Tuple.tupleTooMany (((its.toArray.size : Nat) : Int) * k) = false := by
        unfold Builtin.Tuple.tupleTooMany
        rw [sizeLine_eq]
        exact decide_eq_false (by omega)
      refine call_meets F.slot_tuple_mul ⟨_, ho, rfl⟩ F.entry_tuple_mul (F.args_tuple_mul_2 _ _) (tuple_mulW l its.toArray n dd sl k t c0 c1 c2 (by omega) c4 (by rw [size_rep, List.size_toArray]; exact flen)) ⟨ho, ?_⟩
      rw [size_rep]
      refine ⟨.ref s.heap.objs.size, _, I.laid (t' := s.toks) (fun b ob q => Heap.get?_push_of_some _ q) (Nat.le_refl _) (newT_ok (r.rep k.toNat) ?_), rfl, q2 hsame _ _ (I.hok.fresh (Nat.le_refl _)) ⟨rfl, rfl⟩⟩
      rw [PyProof.Rows.lm_len_rep_flat, sizeLine_eq]
      have a1 : k.toNat * xs.length ≤ 1000 * 1000 := Nat.mul_le_mul (by omega) hz
      omega
def wMulT : W2
  | .tup xs, .int k, μ, P => -1000 ≤ k ∧ k ≤ 1000 ∧ xs.length ≤ 1000 ∧ P (.tup (List.replicate k.toNat xs).flatten) μ
  | _, _, _, _ => False
theorem mulT_rd {K : PySem.W.Frag} : R2D K (rRepN K) wMulT := by
  intro R μ H x y dx dy P Q ok ix iy w k
  cases ix with
  | @tup a xs ds hx rx => cases iy with
    | int j =>
      obtain ⟨h1, h2, h3, q⟩ := w
      refine ⟨_, j, xs, rfl, rfl, Same.seqT hid_le hx.t, h1, h2, by rw [rx.length]; exact h3, fun hs => ?_, fun hs p t n nt => k.tup nt ok q (rx.replicate _) n⟩
      have e : (List.replicate j.toNat ds).flatten = ds := by
        rcases hs with e | e
        · subst e
          cases rx
          induction j.toNat with
          | zero => rfl
          | succ m ih => rw [List.replicate_succ, List.flatten_cons, ih]; rfl
        · subst e
          show (List.replicate 1 ds).flatten = ds
          simp
      rw [e] at q
      exact k.val ok q (.tup hx rx)
    | _ => exact (show False from w).elim
  | _ => exact (show False from w).elim
theorem d_mulT {a b : Expr} {wa wb : WE} {pos : Pos} (ha : PE X a (tD X.K wa)) (hb : PE X b (tD X.K wb)) : PE X (.BinOp a .Mult b pos) (tD X.K (wBin wMulT wa wb)) := d_op op_repN mulT_rd ha hb
end
end Dz

set_option Elab.async false
set_option linter.all false
set_option maxRecDepth 100000
set_option maxHeartbeats 2000000
/-! DzZf: objects that change no more, anywhere within a value, are plain data. -/
namespace Dz
open PySem L2

mutual
/-- the data x in place of the object at a -/
def subD (a : Addr) (x : DV) : DV → DV
  | .obj b => if b = a then x else .obj b
  | .tup ds => .tup (subDs a x ds)
  | .lst ds => .lst (subDs a x ds)
  | .dct kvs => .dct (subKv a x kvs)
  | .fix ds => .fix ds
  | .dn hs ks vs => .dn hs ks vs
  | .none => .none
  | .bool b => .bool b
  | .int i => .int i
  | .str s => .str s
def subDs (a : Addr) (x : DV) : List DV → List DV
  | [] => []
  | d :: ds => subD a x d :: subDs a x ds
def subKv (a : Addr) (x : DV) : List (Key × DV) → List (Key × DV)
  | [] => []
  | (k, d) :: ds => (k, subD a x d) :: subKv a x ds
end
theorem subKv_keys (a : Addr) (x : DV) : ∀ kvs : List (Key × DV), (subKv a x kvs).map (·.1) = kvs.map (·.1)
  | [] => rfl
  | (k, d) :: r => by rw [subKv, List.map_cons, List.map_cons, subKv_keys a x r]
theorem subKv_vals (a : Addr) (x : DV) : ∀ kvs : List (Key × DV), (subKv a x kvs).map (·.2) = subDs a x (kvs.map (·.2))
  | [] => by rw [List.map_nil, subDs]; rfl
  | (k, d) :: r => by rw [subKv, List.map_cons, List.map_cons, subDs, subKv_vals a x r]
mutual
theorem Is.sub {K : PySem.W.Frag} {H : Hp} {a : Addr} {x : DV} (hx : Is K H (.ref a) x) : ∀ {v : V} {d : DV}, Is K H v d → Is K H v (subD a x d)
  | _, _, .none => .none
  | _, _, .bool b => .bool b
  | _, _, .int i => .int i
  | _, _, .str s => .str s
  | _, _, .tup h r => by rw [subD]; exact .tup h (Iss.sub hx r)
  | _, _, .lst h r => by rw [subD]; exact .lst h (Iss.sub hx r)
  | _, _, .dct h k r => by
    rw [subD]
    exact .dct h (by rw [subKv_keys]; exact k) (by rw [subKv_vals]; exact Iss.sub hx r)
  | _, _, .obj b => by
    rw [subD]
    by_cases e : b = a
    · rw [if_pos e]
      subst e
      exact hx
    · rw [if_neg e]
      exact .obj b
  | _, _, .fix h r => .fix h r
  | _, _, .dn h n dp nd r r2 => .dn h n dp nd r r2
theorem Iss.sub {K : PySem.W.Frag} {H : Hp} {a : Addr} {x : DV} (hx : Is K H (.ref a) x) : ∀ {vs : List V} {ds : List DV}, Iss K H vs ds → Iss K H vs (subDs a x ds)
  | _, _, .nil => .nil
  | _, _, .cons h r => .cons (Is.sub hx h) (Iss.sub hx r)
end
/-- the objects at as are let go, one behind the other -/
def frzL : List Addr → DV → Mh → (DV → Mh → Prop) → Prop
  | [], d, μ, P => P d μ
  | a :: as, d, μ, P => match μ a with
    | some (.lst ds) => frzL as (subD a (.lst ds) d) (delM μ a) P
    | some (.dct kvs) => frzL as (subD a (.dct kvs) d) (delM μ a) P
    | _ => False
/-- e, in which objects, as one likes, are data from here on -/
def wFrzX (w : WE) : WE := fun ρ μ P => w ρ μ fun d μ1 => ∃ as, frzL as d μ1 P
theorem frzL_imp {K : PySem.W.Frag} {R : Hp} {H : Hp} {Q : VK} {v : V} {P : DV → Mh → Prop} : ∀ (as : List Addr) (d : DV) (μ0 : Mh) (H0 : Hp) (μ : Mh), Nxt K R μ0 H0 P Q → Ok K R μ H → Same (hid R μ0 H0) (hid R μ H) → Is K (hid R μ H) v d → frzL as d μ P → Q v H
  | [], d, μ0, H0, μ, k, o, s, i, p => k _ _ _ _ p o s i
  | a :: as, d, μ0, H0, μ, k, o, s, i, p => by
    have p2 : (match μ a with | some (.lst ds) => frzL as (subD a (.lst ds) d) (delM μ a) P | some (.dct kvs) => frzL as (subD a (.dct kvs) d) (delM μ a) P | _ => False) := p
    split at p2
    · rename_i ds e
      obtain ⟨xs, h1, r⟩ := o.ob a _ e
      obtain ⟨o2, s2, e2⟩ := o.free e (by intro z; cases z)
      exact frzL_imp as _ μ0 H0 _ k o2 (s.trans s2) (Is.sub (.lst (e2.trans h1) (r.mono s2)) (i.mono s2)) p2
    · rename_i ds e
      obtain ⟨xs, h1, q, r⟩ := o.ob a _ e
      obtain ⟨o2, s2, e2⟩ := o.free e (by intro z; cases z)
      exact frzL_imp as _ μ0 H0 _ k o2 (s.trans s2) (Is.sub (.dct (e2.trans h1) q (r.mono s2)) (i.mono s2)) p2
    · exact p2.elim
theorem d_frzX {X : Cx} {e : Expr} {w : WE} (h : PE X e (tD X.K w)) : PE X e (tD X.K (wFrzX w)) :=
  PE.imp h fun σ H Q ⟨R, ρ, μ, P, a, w, k⟩ => ⟨R, ρ, μ, _, a, w, fun x μ1 v H1 ⟨as, p1⟩ o1 s1 i1 => frzL_imp as x μ H μ1 k o1 s1 i1 p1⟩
end Dz

set_option Elab.async false
set_option linter.all false
set_option maxRecDepth 100000
set_option maxHeartbeats 2000000
/-! DzH: dicts whose keys are tuples, of any depth: {}, d[k], d[k] = v, k in d. -/
namespace Dz
open PySem PySem.Spec L2 PyProof.Rows

section
variable {X : Cx} {pins : List (Addr × Obj)} {σ : L2.St} {H Hm : Hp} {s : Shared}
mutual
theorem nkey_is (I : Inv X pins σ H s) (sm : Same Hm H) : ∀ {v : V} {d : DV} {k : NestedKey} {u : Value}, Is X.K Hm v d → nkey d = some k → RelV v u → NestedIs s.heap k u
  | _, _, _, _, .none, e, r => by
    cases e
    obtain rfl := (show _ = Value.none from r)
    exact .none
  | _, _, _, _, .int i, e, r => by
    cases e
    obtain ⟨t, rfl⟩ := (show ∃ t, _ = Value.int i t from r)
    exact .int i t
  | _, _, _, _, .str x, e, r => by
    cases e
    obtain ⟨t, rfl⟩ := (show ∃ t, _ = Value.str x t from r)
    exact .text x t
  | _, _, _, _, .tup (a := a) (ds := ds) hx rx, e, r => by
    have e : (nkeys ds).map NestedKey.tup = some _ := e
    obtain ⟨ks, h1, h2⟩ := Option.map_eq_some_iff.mp e
    subst h2
    obtain rfl := (show _ = Value.ref a from r)
    obtain ⟨its, r', ⟨o, g1, g2, n, g3⟩, _⟩ := I.tuple (Same.seqT sm hx.t)
    exact .tup g1 g2 g3 (nkeys_is I sm rx h1 (by simpa using r'))
  | _, _, _, _, .bool b, e, _ => by cases e
  | _, _, _, _, .lst _ _, e, _ => by cases e
  | _, _, _, _, .dct _ _ _, e, _ => by cases e
  | _, _, _, _, .obj _, e, _ => by cases e
  | _, _, _, _, .fix _ _, e, _ => by cases e
  | _, _, _, _, .dn _ _ _ _ _ _, e, _ => by cases e
theorem nkeys_is (I : Inv X pins σ H s) (sm : Same Hm H) : ∀ {vs : List V} {ds : List DV} {ks : List NestedKey} {us : List Value}, Iss X.K Hm vs ds → nkeys ds = some ks → Vals vs us → NestedAll s.heap ks us
  | _, _, _, _, .nil, e, r => by
    cases e
    cases r
    exact .nil
  | _, _, _, _, .cons (d := d) (ds := ds) h rs, e, r => by
    cases r with
    | cons r1 r2 =>
      have e : (match nkey d, nkeys ds with | some k, some ks => some (k :: ks) | _, _ => none) = some _ := e
      cases h1 : nkey d with
      | none => rw [h1] at e; cases e
      | some k =>
        cases h2 : nkeys ds with
        | none => rw [h1, h2] at e; cases e
        | some ks =>
          rw [h1, h2] at e
          cases e
          exact .cons (nkey_is I sm h h1 r1) (nkeys_is I sm rs h2 r2)
end
abbrev KN (X : Cx) : HeapKind X.prog X.w NestedKey := nestedKind X.prog X.w
abbrev hsOf (X : Cx) : NestedKey → Int := fun k => k.hash X.w
/-- the dict at a, its keys and values -/
structure NDict (K : PySem.W.Frag) (hs : NestedKey → Int) (Hm H : Hp) (a : Addr) (es : List (NestedKey × Addr × V)) : Prop where
  at_ : Rd H a (rawN a hs es)
  keys : ∀ e ∈ es, e.1.depth ≤ 8 ∧ ∃ d, Is K Hm (.ref e.2.1) d ∧ nkey d = some e.1
  nd : (es.map (·.1)).Nodup
abbrev xsOf (es : List (NestedKey × Addr × V)) (xs : List (NestedKey × Addr × Value)) : Prop := xs.map (fun x => (x.1, x.2.1)) = es.map (fun e => (e.1, e.2.1)) ∧ Vals (es.map (·.2.2)) (xs.map (·.2.2))
theorem NDict.dict {a : Addr} {es : List (NestedKey × Addr × V)} (n : NDict X.K (hsOf X) Hm H a es) (I : Inv X pins σ H s) (sm : Same Hm H) :
    es.length ≤ sizeLine ∧ (a == sysModules) = false ∧ ∃ xs, xsOf es xs ∧ s.heap.DictOfH (KN X) a xs := by
  obtain ⟨⟨h1, h2, xs, h3, h4, o, ds, ep, g1, g2, g3, g4⟩, _, _⟩ := (show ObjOk X.prog X.w H s.heap a (rawN a (hsOf X) es) from n.at_.ok I.hok)
  have hk : xs.map (·.1) = es.map (·.1) := by
    have := congrArg (List.map Prod.fst) h3
    rw [List.map_map, List.map_map] at this
    exact this
  refine ⟨h1, h2, xs, ⟨h3, h4⟩, o, ds, ep, g1, g2, g3, g4, fun x hx => ?_, by rw [hk]; exact n.nd⟩
  have hm : (x.1, x.2.1) ∈ es.map (fun e => (e.1, e.2.1)) := by
    rw [← h3]
    exact List.mem_map.mpr ⟨x, hx, rfl⟩
  obtain ⟨e, he, ee⟩ := List.mem_map.mp hm
  have e1 : e.1 = x.1 := congrArg Prod.fst ee
  have e2 : e.2.1 = x.2.1 := congrArg Prod.snd ee
  obtain ⟨z, d, i, nk⟩ := n.keys e he
  refine ⟨?_, by rw [← e1]; exact z⟩
  rw [← e1, ← e2]
  exact nkey_is I sm i nk rfl
def lkE (es : List (NestedKey × Addr × V)) (k : NestedKey) : Option V := (es.find? fun e => decide (e.1 = k)).map (·.2.2)
theorem xsOf.at {k : NestedKey} : ∀ {es : List (NestedKey × Addr × V)} {xs : List (NestedKey × Addr × Value)}, xsOf es xs → RelO (lkE es k) ((atKey xs k).map (·.2))
  | [], [], _ => trivial
  | [], _ :: _, h => by have := congrArg List.length h.1; simp at this
  | _ :: _, [], h => by have := congrArg List.length h.1; simp at this
  | e :: es, x :: xs, h => by
    obtain ⟨h1, h2⟩ := h
    rw [List.map_cons, List.map_cons] at h1 h2
    injection h1 with h3 h4
    cases h2 with
    | cons r1 r2 =>
      have ek : x.1 = e.1 := congrArg Prod.fst h3
      unfold lkE atKey
      rw [List.find?_cons, List.find?_cons, ek]
      cases decide (e.1 = k) with
      | true => exact r1
      | false => exact xsOf.at (k := k) ⟨h4, r2⟩
def putE (es : List (NestedKey × Addr × V)) (k : NestedKey) (b : Addr) (v : V) : List (NestedKey × Addr × V) :=
  if (lkE es k).isSome then es.map fun e => if e.1 = k then (e.1, e.2.1, v) else e else es ++ [(k, b, v)]
theorem xsOf.put {k : NestedKey} {b : Addr} {v : V} {u : Value} (r : RelV v u) {es : List (NestedKey × Addr × V)} {xs : List (NestedKey × Addr × Value)} (h : xsOf es xs) : xsOf (putE es k b v) (storedH xs k b u) := by
  have hs : (lkE es k).isSome = (atKey xs k).isSome := by
    have := h.at (k := k)
    cases e1 : lkE es k <;> cases e2 : atKey xs k <;> rw [e1, e2] at this <;> first | rfl | exact this.elim
  unfold putE storedH
  rw [← hs]
  by_cases c : (lkE es k).isSome = true
  · rw [if_pos c, if_pos c]
    clear hs c
    have go : ∀ {es : List (NestedKey × Addr × V)} {xs : List (NestedKey × Addr × Value)}, xsOf es xs → xsOf (es.map fun e => if e.1 = k then (e.1, e.2.1, v) else e) (xs.map (putAt k u)) := by
      intro es
      induction es with
      | nil =>
        intro xs h
        cases xs with
        | nil => exact h
        | cons x xs => have := congrArg List.length h.1; simp at this
      | cons e es ih =>
        intro xs h
        cases xs with
        | nil => have := congrArg List.length h.1; simp at this
        | cons x xs =>
          obtain ⟨h1, h2⟩ := h
          rw [List.map_cons, List.map_cons] at h1 h2
          injection h1 with h3 h4
          cases h2 with
          | cons r1 r2 =>
            obtain ⟨i1, i2⟩ := ih ⟨h4, r2⟩
            have ek : x.1 = e.1 := congrArg Prod.fst h3
            have ea : x.2.1 = e.2.1 := congrArg Prod.snd h3
            refine ⟨?_, ?_⟩
            · rw [List.map_cons, List.map_cons, List.map_cons, List.map_cons, i1]
              congr 1
              unfold putAt
              rw [ek]
              split
              · rw [ea]
              · rw [ek, ea]
            · rw [List.map_cons, List.map_cons, List.map_cons, List.map_cons]
              refine .cons ?_ i2
              unfold putAt
              rw [ek]
              split
              · exact r
              · exact r1
    exact go h
  · rw [if_neg c, if_neg c]
    refine ⟨?_, ?_⟩
    · rw [List.map_append, List.map_append, h.1]
      rfl
    · rw [List.map_append, List.map_append]
      exact h.2.append (.cons r .nil)
variable {a b : Addr} {es : List (NestedKey × Addr × V)} {k : NestedKey} {d : DV} {A : Around} {E : Value → Shared → Prop}
theorem n_get {v : V} {Q : Value → Shared → Prop} (hu : A.in1.units + 8 < cLine) (I : Inv X pins σ H s) (sm : Same Hm H) (n : NDict X.K (hsOf X) Hm H a es) (ik : Is X.K Hm (.ref b) d) (nk : nkey d = some k) (hk : k.depth ≤ 8) (l : lkE es k = some v)
    (h : ∀ w' s', Inv X pins σ H s' → RelV v w' → Q w' s') : wpAny (model X.prog X.w) A (getItem (.ref a) (.ref b)) Q E s := by
  obtain ⟨_, _, xs, hx, dd⟩ := n.dict I sm
  have r := hx.at (k := k)
  rw [l] at r
  cases e : atKey xs k with
  | none => rw [e] at r; exact r.elim
  | some p =>
    rw [e] at r
    exact wpAny_getItem_heap (knd := KN X) hu ⟨nkey_is I sm ik nk rfl, hk⟩ dd e (h p.2 _ (I.tok _) r)
theorem n_in {Q : Value → Shared → Prop} (hu : A.in1.units + 8 < cLine) (I : Inv X pins σ H s) (sm : Same Hm H) (n : NDict X.K (hsOf X) Hm H a es) (ik : Is X.K Hm (.ref b) d) (nk : nkey d = some k) (hk : k.depth ≤ 8)
    (h : ∀ s', Inv X pins σ H s' → Q (.bool (lkE es k).isSome) s') : wpAny (model X.prog X.w) A (compareOp .In (.ref b) (.ref a)) Q E s := by
  obtain ⟨_, hd, xs, hx, dd⟩ := n.dict I sm
  have hs : (lkE es k).isSome = (atKey xs k).isSome := by
    have := hx.at (k := k)
    cases e1 : lkE es k <;> cases e2 : atKey xs k <;> rw [e1, e2] at this <;> first | rfl | exact this.elim
  refine wpAny_in_heap (knd := KN X) hu ⟨nkey_is I sm ik nk rfl, hk⟩ hd dd ?_
  rw [← hs]
  exact h _ (I.tok _)
theorem n_notIn {Q : Value → Shared → Prop} (hu : A.in1.units + 8 < cLine) (I : Inv X pins σ H s) (sm : Same Hm H) (n : NDict X.K (hsOf X) Hm H a es) (ik : Is X.K Hm (.ref b) d) (nk : nkey d = some k) (hk : k.depth ≤ 8)
    (h : ∀ s', Inv X pins σ H s' → Q (.bool (!(lkE es k).isSome)) s') : wpAny (model X.prog X.w) A (compareOp .NotIn (.ref b) (.ref a)) Q E s := by
  obtain ⟨_, hd, xs, hx, dd⟩ := n.dict I sm
  have hs : (lkE es k).isSome = (atKey xs k).isSome := by
    have := hx.at (k := k)
    cases e1 : lkE es k <;> cases e2 : atKey xs k <;> rw [e1, e2] at this <;> first | rfl | exact this.elim
  refine wpAny_notIn_heap (knd := KN X) hu ⟨nkey_is I sm ik nk rfl, hk⟩ hd dd ?_
  rw [← hs]
  exact h _ (I.tok _)
theorem putE_len (es : List (NestedKey × Addr × V)) (k : NestedKey) (b : Addr) (v : V) : (putE es k b v).length ≤ es.length + 1 := by
  unfold putE
  split
  · rw [List.length_map]; omega
  · rw [List.length_append, List.length_singleton]; exact Nat.le_refl _
/-- d[k] = v -/
theorem n_set {v : V} {u : Value} {Q : Unit → Shared → Prop} (hu : A.in1.units + 8 < cLine) (I : Inv X pins σ H s) (sm : Same Hm H) (n : NDict X.K (hsOf X) Hm H a es) (ik : Is X.K Hm (.ref b) d) (nk : nkey d = some k) (hk : k.depth ≤ 8) (rv : RelV v u) (hl : es.length < sizeLine) (bare : H a = some (rawN a (hsOf X) es))
    (h : ∀ s', Inv X pins σ (upd H a (rawN a (hsOf X) (putE es k b v))) s' → Q () s') : wpAny (model X.prog X.w) A (setItem (.ref a) (.ref b) u) Q E s := by
  obtain ⟨_, hd, xs, hx, dd⟩ := n.dict I sm
  have hxl : xs.length = es.length := by
    have := congrArg List.length hx.1
    rw [List.length_map, List.length_map] at this
    exact this
  refine wpAny_setItem_heap (knd := KN X) (hsz := by rw [hxl]; omega) hu ⟨nkey_is I sm ik nk rfl, hk⟩ dd fun h' dd' hs => h _ ?_
  obtain ⟨q, ds, ep, hq, h2, h3, h4, _, h5⟩ := dd'
  have hp := hx.put (k := k) (b := b) rv
  refine d_write I (by rw [bare]; exact True.intro) hs ⟨q, hq⟩ ⟨⟨?_, hd, storedH xs k b u, hp.1, hp.2, q, ds, ep, hq, h2, h3, h4⟩, ⟨q, hq⟩, ?_⟩
  · have := putE_len es k b v
    omega
  · rintro h1 h2' ⟨z1, z2, xs', z3, z4, o, ds', ep', z5, z6⟩ keep
    exact ⟨z1, z2, xs', z3, z4, o, ds', ep', keep o z5, z6⟩
end
end Dz

set_option Elab.async false
set_option linter.all false
set_option maxRecDepth 100000
set_option maxHeartbeats 2000000
/-! DzH2: the rules for dicts whose keys are tuples. -/
namespace Dz
open PySem PySem.Spec L2 PyProof.Rows

def lkN (kvs : List (NestedKey × DV)) (k : NestedKey) : Option DV := (kvs.find? fun e => decide (e.1 = k)).map (·.2)
def putN (kvs : List (NestedKey × DV)) (k : NestedKey) (d : DV) : List (NestedKey × DV) := if (lkN kvs k).isSome then kvs.map fun e => if e.1 = k then (e.1, d) else e else kvs ++ [(k, d)]
/-- a key: a tuple of data, not too deep -/
def keyN (y : DV) (P : NestedKey → Prop) : Prop := match y with
  | .tup ds => match nkeys ds with
    | some ks => (NestedKey.tup ks).depth ≤ 8 ∧ P (.tup ks)
    | none => False
  | _ => False
section
variable {K : PySem.W.Frag} {Hm : Hp}
theorem keyN_of {u : V} {y : DV} {P : NestedKey → Prop} (i : Is K Hm u y) (h : keyN y P) : ∃ b k, u = .ref b ∧ nkey y = some k ∧ k.depth ≤ 8 ∧ P k := by
  cases i with
  | @tup b xs ds hx rx =>
    have h : (match nkeys ds with | some ks => (NestedKey.tup ks).depth ≤ 8 ∧ P (.tup ks) | none => False) := h
    cases e : nkeys ds with
    | none => rw [e] at h; exact h.elim
    | some ks =>
      rw [e] at h
      refine ⟨b, .tup ks, rfl, ?_, h.1, h.2⟩
      show (nkeys ds).map NestedKey.tup = _
      rw [e]
      rfl
  | _ => exact (show False from h).elim
theorem lk_rel {k : NestedKey} : ∀ {es : List (NestedKey × Addr × V)} {kvs : List (NestedKey × DV)}, es.map (·.1) = kvs.map (·.1) → Iss K Hm (es.map (·.2.2)) (kvs.map (·.2)) → (lkE es k = none ∧ lkN kvs k = none) ∨ ∃ v d, lkE es k = some v ∧ lkN kvs k = some d ∧ Is K Hm v d
  | [], [], _, _ => .inl ⟨rfl, rfl⟩
  | [], _ :: _, h, _ => by cases h
  | _ :: _, [], h, _ => by cases h
  | e :: es, x :: kvs, h, r => by
    rw [List.map_cons, List.map_cons] at h r
    injection h with h1 h2
    cases r with
    | cons r1 r2 =>
      unfold lkE lkN
      rw [List.find?_cons, List.find?_cons, h1]
      cases decide (x.1 = k) with
      | true => exact .inr ⟨_, _, rfl, rfl, r1⟩
      | false => exact lk_rel h2 r2
theorem put_rel {k : NestedKey} {b : Addr} {v : V} {d : DV} (i : Is K Hm v d) {es : List (NestedKey × Addr × V)} {kvs : List (NestedKey × DV)} (h : es.map (·.1) = kvs.map (·.1)) (r : Iss K Hm (es.map (·.2.2)) (kvs.map (·.2))) :
    (putE es k b v).map (·.1) = (putN kvs k d).map (·.1) ∧ Iss K Hm ((putE es k b v).map (·.2.2)) ((putN kvs k d).map (·.2)) := by
  have hs : (lkE es k).isSome = (lkN kvs k).isSome := by
    rcases lk_rel (k := k) h r with ⟨h1, h2⟩ | ⟨_, _, h1, h2, _⟩ <;> rw [h1, h2] <;> rfl
  unfold putE putN
  rw [← hs]
  by_cases c : (lkE es k).isSome = true
  · rw [if_pos c, if_pos c]
    clear hs c
    induction es generalizing kvs with
    | nil => cases kvs with
      | nil => exact ⟨rfl, .nil⟩
      | cons _ _ => cases h
    | cons e es ih => cases kvs with
      | nil => cases h
      | cons x kvs =>
        rw [List.map_cons, List.map_cons] at h r
        injection h with h1 h2
        cases r with
        | cons r1 r2 =>
          obtain ⟨i1, i2⟩ := ih h2 r2
          refine ⟨?_, ?_⟩
          · rw [List.map_cons, List.map_cons, List.map_cons, List.map_cons, i1]
            congr 1
            rw [h1]
            split
            · rfl
            · exact h1
          · rw [List.map_cons, List.map_cons, List.map_cons, List.map_cons]
            refine .cons ?_ i2
            rw [h1]
            split
            · exact i
            · exact r1
  · rw [if_neg c, if_neg c]
    refine ⟨?_, ?_⟩
    · rw [List.map_append, List.map_append, h]
      rfl
    · rw [List.map_append, List.map_append]
      exact r.append (.cons i .nil)
theorem put_keys {k : NestedKey} {b : Addr} {v : V} {y : DV} (ib : Is K Hm (.ref b) y) (nk : nkey y = some k) (hk : k.depth ≤ 8) {es : List (NestedKey × Addr × V)} (h : ∀ e ∈ es, e.1.depth ≤ 8 ∧ ∃ d, Is K Hm (.ref e.2.1) d ∧ nkey d = some e.1) (nd : (es.map (·.1)).Nodup) :
    (∀ e ∈ putE es k b v, e.1.depth ≤ 8 ∧ ∃ d, Is K Hm (.ref e.2.1) d ∧ nkey d = some e.1) ∧ ((putE es k b v).map (·.1)).Nodup := by
  unfold putE
  by_cases c : (lkE es k).isSome = true
  · rw [if_pos c]
    refine ⟨fun e he => ?_, ?_⟩
    · obtain ⟨x, hx, rfl⟩ := List.mem_map.mp he
      have := h x hx
      split
      · exact this
      · exact this
    · rw [List.map_map]
      have : es.map ((fun e => e.1) ∘ fun e => if e.1 = k then (e.1, e.2.1, v) else e) = es.map (·.1) := List.map_congr_left fun e _ => by
        show (if e.1 = k then (e.1, e.2.1, v) else e).1 = e.1
        split <;> rfl
      rw [this]
      exact nd
  · rw [if_neg c]
    refine ⟨fun e he => ?_, ?_⟩
    · rcases List.mem_append.mp he with he | he
      · exact h e he
      · rw [List.mem_singleton] at he
        rw [he]
        exact ⟨hk, y, ib, nk⟩
    · rw [List.map_append]
      refine List.nodup_append.mpr ⟨nd, List.pairwise_singleton _ _, fun x hx z hz e => ?_⟩
      rw [List.map_cons, List.map_nil, List.mem_singleton] at hz
      obtain ⟨w, hw, rfl⟩ := List.mem_map.mp hx
      refine c ?_
      have e2 : w.1 = k := e.trans hz
      unfold lkE
      rw [Option.isSome_map, List.find?_isSome]
      exact ⟨w, hw, decide_eq_true e2⟩
end
/-- the dict x at the key y -/
def nAt (hs : NestedKey → Int) (μ : Mh) (x y : DV) (T : Addr → List (NestedKey × DV) → NestedKey → Prop) : Prop := match x with
  | .obj a => match μ a with
    | some (.dcN hs' kvs) => hs' = hs ∧ keyN y fun k => T a kvs k
    | _ => False
  | _ => False
/-- d[k]: there -/
def wNGet (hs : NestedKey → Int) : W2 := fun x y μ P => nAt hs μ x y fun _ kvs k => atW (lkN kvs k) fun d => P d μ
def wNPut (hs : NestedKey → Int) (wd wk wv : WE) : WS := fun E ρ μ => wv ρ μ fun v μ1 => wd ρ μ1 fun x μ2 => wk ρ μ2 fun y μ3 => nAt hs μ3 x y fun a kvs k => kvs.length < sizeLine ∧ E.nx ρ (updM μ3 a (.dcN hs (putN kvs k v)))
def wInN (hs : NestedKey → Int) : W2 := fun y x μ P => nAt hs μ x y fun _ kvs k => P (.bool (lkN kvs k).isSome) μ
def wNotInN (hs : NestedKey → Int) : W2 := fun y x μ P => nAt hs μ x y fun _ kvs k => P (.bool (!(lkN kvs k).isSome)) μ
def wDctN0 (hs : NestedKey → Int) : WE := fun _ μ P => ∀ p, μ p = none → P (.obj p) (updM μ p (.dcN hs []))
theorem n_core {K : PySem.W.Frag} {hs : NestedKey → Int} {R : Hp} {μ : Mh} {H : Hp} {v u : V} {x y : DV} {T : Addr → List (NestedKey × DV) → NestedKey → Prop} (o : Ok K R μ H) (i : Is K (hid R μ H) v x) (j : Is K (hid R μ H) u y) (w : nAt hs μ x y T) :
    ∃ a b es kvs k, v = .ref a ∧ u = .ref b ∧ μ a = some (.dcN hs kvs) ∧ NDict K hs (hid R μ H) H a es ∧ es.map (·.1) = kvs.map (·.1) ∧ Iss K (hid R μ H) (es.map (·.2.2)) (kvs.map (·.2)) ∧ nkey y = some k ∧ k.depth ≤ 8 ∧ T a kvs k := by
  cases i with
  | obj a =>
    have w2 : (match μ a with | some (.dcN hs' kvs) => hs' = hs ∧ keyN y fun k => T a kvs k | _ => False) := w
    split at w2
    · rename_i hs' kvs e
      obtain ⟨e0, w3⟩ := w2
      subst e0
      obtain ⟨b, k, rfl, nk, hk, t⟩ := keyN_of j w3
      obtain ⟨es, h1, h2, h3, h4, h5⟩ := o.ob a _ e
      exact ⟨a, b, es, kvs, k, rfl, rfl, e, ⟨.inl h1, h2, h3⟩, h4, h5, nk, hk, t⟩
    · exact w2.elim
  | _ => exact (show False from w).elim
theorem bare_of {K : PySem.W.Frag} {hs hs' : NestedKey → Int} {Hm H : Hp} {a : Addr} {es : List (NestedKey × Addr × V)} (n : NDict K hs Hm H a es) (h : ∃ es', H a = some (rawN a hs' es')) : H a = some (rawN a hs es) := by
  obtain ⟨es', h⟩ := h
  rcases n.at_ with q | ⟨o, q⟩
  · exact q
  · rw [h] at q
    exact absurd (Option.some.inj q) (by unfold rawN; intro z; cases z)
section
variable {X : Cx} {oe ke ve : Expr} {pos apos : Pos} {wo wk wv : WE} {o i value : Expr} {td ty tv : TE}
/-- what is asked of a dict and a key -/
def NHas (X : Cx) (H : Hp) (x y : V) (T : Addr → Addr → List (NestedKey × Addr × V) → NestedKey → Prop) : Prop := ∃ a b Hm es d k, x = .ref a ∧ y = .ref b ∧ Same Hm H ∧ NDict X.K (hsOf X) Hm H a es ∧ Is X.K Hm (.ref b) d ∧ nkey d = some k ∧ k.depth ≤ 8 ∧ T a b es k
theorem pe_nget (hu : X.A.units + 9 < cLine) (ho : PE X o td) (hi : PE X i ty) (hs : NoSl i) : PE X (.Subscript o i pos) (fun σ H Q => td σ H fun x H1 => ty σ H1 fun y H2 => NHas X H2 x y fun _ _ es k => ∃ v, lkE es k = some v ∧ Q v H2) := by
  refine ⟨fun pins s σ H Q I h => ?_⟩
  refine subD_of PySem.F.slot_dict_getitem.lookup hs (thn (ho.run pins s σ H _ I h) fun u s1 ⟨x, H1, I1, rx, q1⟩ => thn (hi.run pins s1 σ H1 _ I1 q1) fun iv s2 ⟨y, H2, I2, ry, a, b, Hm, es, d, k, ex, ey, sm, n, ik, nk, hk, v, l, q2⟩ => ?_)
  subst ex ey
  obtain rfl : u = Value.ref a := rx
  obtain rfl : iv = Value.ref b := ry
  obtain ⟨_, _, xs, _, dd⟩ := n.dict I2 sm
  exact ⟨dd.typeIs, n_get (by show X.A.units + 1 + 8 < _; omega) I2 sm n ik nk hk l fun w' s3 I3 rw' => ⟨v, H2, I3, rw', q2⟩⟩
theorem ps_nput {pos' : Pos} (hu : X.A.units + 9 < cLine) (ho : PE X o td) (hi : PE X i ty) (hv : PE X value tv) (hs : swapsWith value (some (.Subscript o i pos')) pos.line X.env = pure false) :
    PS X (.Assign [.Subscript o i pos'] value pos) (fun D σ H => tv σ H fun v H1 => td σ H1 fun x H2 => ty σ H2 fun y H3 => NHas X H3 x y fun a b es k => es.length < sizeLine ∧ H3 a = some (rawN a (hsOf X) es) ∧ D.nx σ (upd H3 a (rawN a (hsOf X) (putE es k b v)))) := by
  refine ⟨fun pins s σ H D I h => ?_⟩
  refine wpAny_Assign_Subscript (thn (hv.run pins s σ H _ I h) fun r s1 ⟨v, H1, I1, rv, q1⟩ => thn (ho.run pins s1 σ H1 _ I1 q1) fun u s2 ⟨x, H2, I2, rx, q2⟩ => thn (hi.run pins s2 σ H2 _ I2 q2) fun iv s3 ⟨y, H3, I3, ry, a, b, Hm, es, d, k, ex, ey, sm, n, ik, nk, hk, hl, bare, q3⟩ => ?_) hs
  subst ex ey
  obtain rfl : u = Value.ref a := rx
  obtain rfl : iv = Value.ref b := ry
  exact n_set (by show X.A.units + 1 + 8 < _; omega) I3 sm n ik nk hk rv hl bare fun s4 I4 => ⟨σ, _, I4, q3⟩
theorem op_inN (hu : X.A.units + 9 < cLine) : OpR X (compareOp .In) (fun y x H Q => NHas X H x y fun _ _ es k => Q (.bl (lkE es k).isSome) H) := by
  intro pins s σ H y x v u Q I ry rx ⟨a, b, Hm, es, d, k, ex, ey, sm, n, ik, nk, hk, q⟩
  subst ex ey
  cases rx
  cases ry
  exact n_in (by show X.A.units + 1 + 8 < _; omega) I sm n ik nk hk fun s' I' => ⟨.bl _, H, I', rfl, q⟩
theorem op_notInN (hu : X.A.units + 9 < cLine) : OpR X (compareOp .NotIn) (fun y x H Q => NHas X H x y fun _ _ es k => Q (.bl (!(lkE es k).isSome)) H) := by
  intro pins s σ H y x v u Q I ry rx ⟨a, b, Hm, es, d, k, ex, ey, sm, n, ik, nk, hk, q⟩
  subst ex ey
  cases rx
  cases ry
  exact n_notIn (by show X.A.units + 1 + 8 < _; omega) I sm n ik nk hk fun s' I' => ⟨.bl _, H, I', rfl, q⟩
theorem d_nget {k : Nat} (hr : Room k X.A) (ho : PE X oe (tD X.K wo)) (hi : PE X ke (tD X.K wk)) (hs : NoSl ke := by exact fun _ _ => rfl) : PE X (.Subscript oe ke pos) (tD X.K (wBin (wNGet (hsOf X)) wo wk)) :=
  PE.imp (pe_nget (by have := hr.un; omega) ho hi hs) fun σ H Q ⟨R, ρ, μ, P, a, w, k⟩ => ⟨R, ρ, μ, _, a, w, fun x μ1 v H1 p1 o1 s1 i1 => ⟨R, ρ, μ1, _, a.step o1 s1, p1, fun y μ2 u H2 p2 o2 s2 i2 => by
    obtain ⟨a', b, es, kvs, key, rfl, rfl, e, n, h4, h5, nk, hk, t⟩ := n_core o2 (i1.mono s2) i2 p2
    obtain ⟨d, h6, p3⟩ := atW_of t
    rcases lk_rel (k := key) h4 h5 with ⟨_, z⟩ | ⟨vv, dd, z1, z2, iv⟩
    · rw [z] at h6; cases h6
    · rw [z2] at h6
      cases h6
      exact ⟨a', b, _, es, y, key, rfl, rfl, hid_le, n, i2, nk, hk, vv, z1, (k.step (s1.trans s2)).val o2 p3 iv⟩⟩⟩
theorem ds_nput {k : Nat} {pos' : Pos} {wd : WE} (hr : Room k X.A) (ho : PE X oe (tD X.K wd)) (hi : PE X ke (tD X.K wk)) (hv : PE X ve (tD X.K wv)) (hs : swapsWith ve (some (.Subscript oe ke pos')) pos.line X.env = pure false := by rfl) : PS X (.Assign [.Subscript oe ke pos'] ve pos) (tDS X.K (wNPut (hsOf X) wd wk wv)) :=
  PS.imp (ps_nput (by have := hr.un; omega) ho hi hv hs) fun D σ H ⟨R, ρ, μ, E, a, w, k⟩ => ⟨R, ρ, μ, _, a, w, fun v μ1 vv H1 p1 o1 s1 i1 => ⟨R, ρ, μ1, _, a.step o1 s1, p1, fun x μ2 xv H2 p2 o2 s2 i2 => ⟨R, ρ, μ2, _, a.step o2 (s1.trans s2), p2, fun y μ3 yv H3 p3 o3 s3 i3 => by
    obtain ⟨a', b, es, kvs, key, rfl, rfl, e, n, h4, h5, nk, hk, hl, w3⟩ := n_core o3 (i2.mono s3) i3 p3
    obtain ⟨q1, q2⟩ := put_rel (k := key) (b := b) (i1.mono (s2.trans s3)) h4 h5
    obtain ⟨q3, q4⟩ := put_keys (v := vv) i3 nk hk n.keys n.nd
    obtain ⟨o4, e4⟩ := o3.setM (o := rawN a' (hsOf X) (putE es key b vv)) (m := .dcN (hsOf X) (putN kvs key v)) e (by intro z; cases z) ⟨_, upd_same, q3, q4, q1, q2⟩
    have hlen : es.length = kvs.length := by have := congrArg List.length h4; simpa using this
    refine ⟨a', b, _, es, y, key, rfl, rfl, hid_le, n, i3, nk, hk, by rw [hlen]; exact hl, bare_of n (by obtain ⟨_, z, _⟩ := o3.ob a' _ e; exact ⟨_, z⟩), k.nx ρ _ σ _ w3 ⟨o4, ?_⟩ ?_⟩
    · rw [e4]
      exact a.sl.mono ((s1.trans s2).trans s3)
    · rw [e4]
      exact (s1.trans s2).trans s3⟩⟩⟩
theorem inN_rd : R2D X.K (fun y x H Q => NHas X H x y fun _ _ es k => Q (.bl (lkE es k).isSome) H) (wInN (hsOf X)) := by
  intro R μ H y x dy dx P Q ok iy ix w k
  obtain ⟨a', b, es, kvs, key, rfl, rfl, e, n, h4, h5, nk, hk, t⟩ := n_core ok ix iy w
  refine ⟨a', b, _, es, dy, key, rfl, rfl, hid_le, n, iy, nk, hk, ?_⟩
  have : (lkE es key).isSome = (lkN kvs key).isSome := by
    rcases lk_rel (k := key) h4 h5 with ⟨h1, h2⟩ | ⟨_, _, h1, h2, _⟩ <;> rw [h1, h2] <;> rfl
  show Q (.bl (lkE es key).isSome) H
  rw [this]
  exact k.val ok t (.bool _)
theorem notInN_rd : R2D X.K (fun y x H Q => NHas X H x y fun _ _ es k => Q (.bl (!(lkE es k).isSome)) H) (wNotInN (hsOf X)) := by
  intro R μ H y x dy dx P Q ok iy ix w k
  obtain ⟨a', b, es, kvs, key, rfl, rfl, e, n, h4, h5, nk, hk, t⟩ := n_core ok ix iy w
  refine ⟨a', b, _, es, dy, key, rfl, rfl, hid_le, n, iy, nk, hk, ?_⟩
  have : (lkE es key).isSome = (lkN kvs key).isSome := by
    rcases lk_rel (k := key) h4 h5 with ⟨h1, h2⟩ | ⟨_, _, h1, h2, _⟩ <;> rw [h1, h2] <;> rfl
  show Q (.bl (!(lkE es key).isSome)) H
  rw [this]
  exact k.val ok t (.bool _)
variable {a b : Expr} {wa wb : WE}
theorem t_inN {k : Nat} (hr : Room k X.A) (ha : PE X a (tD X.K wa)) (hb : PE X b (tD X.K wb)) (hm : behindInMarks .In b = false) : PT X (.Compare a [.In] [b] pos) (tDT X.K (wTest (wBin (wInN (hsOf X)) wa wb))) := dt_cmp (op_inN (by have := hr.un; omega)) inN_rd ha hb hm
theorem t_notinN {k : Nat} (hr : Room k X.A) (ha : PE X a (tD X.K wa)) (hb : PE X b (tD X.K wb)) (hm : behindInMarks .NotIn b = false) : PT X (.Compare a [.NotIn] [b] pos) (tDT X.K (wTest (wBin (wNotInN (hsOf X)) wa wb))) := dt_cmp (op_notInN (by have := hr.un; omega)) notInN_rd ha hb hm
/-- {} -/
theorem pe_dnewN : PE X (.Dict [] [] pos) (fun _ H Q => ∀ p, H p = none → Q (.ref p) (upd H p (rawN p (hsOf X) []))) := ⟨fun pins s σ H Q I h =>
  wpAny_Dict_empty ⟨.ref s.heap.objs.size, _, I.laid (a := s.heap.objs.size) (o := rawN s.heap.objs.size (hsOf X) []) (t' := s.toks) (fun _ _ q => Heap.get?_push_of_some _ q) (Nat.le_refl _)
    ⟨⟨Nat.zero_le _, beq_false_of_ne (Nat.ne_of_gt I.big), [], rfl, .nil, _, #[], 0, Heap.get?_push_size _ rfl, ⟨rfl, rfl, rfl⟩, rfl, rfl⟩, ⟨_, Heap.get?_push_size _ rfl⟩, by
      rintro h1 h2' ⟨z1, z2, xs', z3, z4, o, ds', ep', z5, z6⟩ keep
      exact ⟨z1, z2, xs', z3, z4, o, ds', ep', keep o z5, z6⟩⟩, rfl, h _ (I.hok.fresh (Nat.le_refl _))⟩⟩
theorem d_dctN0 : PE X (.Dict [] [] pos) (tD X.K (wDctN0 (hsOf X))) :=
  PE.imp pe_dnewN fun σ H Q ⟨R, ρ, μ, P, a, w, k⟩ => fun p n => by
    have fm := a.ok.freeM n
    have o1 := a.ok.newM (o := rawN p (hsOf X) []) (m := .dcN (hsOf X) []) n ⟨[], upd_same, (fun e h => by cases h), .nil, rfl, .nil⟩ (by intro z; cases z)
    exact k _ _ _ _ (w p fm) o1.1 o1.2 (.obj p)
end
end Dz

set_option Elab.async false
set_option linter.all false
set_option maxRecDepth 100000
set_option maxHeartbeats 2000000
/-! DzH3: copies of dicts whose keys are tuples. -/
namespace Dz
open PySem PySem.Spec L2 PyProof.Rows

section
variable {X : Cx} {pins : List (Addr × Obj)} {σ : L2.St} {H Hm : Hp} {s : Shared} {a : Addr} {es : List (NestedKey × Addr × V)} {A : Around} {E : Value → Shared → Prop}
theorem n_copy {Q : Value → Shared → Prop} (hu : A.in1.in1.units + 8 < cLine) (I : Inv X pins σ H s) (sm : Same Hm H) (n : NDict X.K (hsOf X) Hm H a es) (hap : (es.map fun e => e.1.hash X.w).Nodup)
    (h : ∀ p s', H p = none → Inv X pins σ (upd H p (rawN p (hsOf X) es)) s' → Q (.ref p) s') : wpAny (model X.prog X.w) A (call (.type "dict") [.ref a]) Q E s := by
  have hk : ∀ b o, s.heap.get? b = some o → (s.heap.push { cls := .type "dict", data := .dict #[] }).get? b = some o := fun b o e => Heap.get?_push_of_some _ e
  obtain ⟨hz, hd, xs, hx, dd⟩ := n.dict (I.kept (t' := s.toks) hk) sm
  refine callType_codes (Q₁ := fun obj s₁ => obj = .ref s.heap.objs.size ∧ s₁ = { s with heap := s.heap.push { cls := .type "dict", data := .dict #[] } }) F.kt_called_dict (F.kt_typeCall_dict_1 _) F.entry_dict_init (kt_code_dict_new _ ⟨rfl, rfl⟩) ?_
  rintro obj s₁ ⟨rfl, rfl⟩
  have hT : Shared.TypeIs { s with heap := s.heap.push { cls := .type "dict", data := .dict #[] } } (.ref s.heap.objs.size) "dict" := ⟨_, Heap.get?_push_size _ rfl, rfl⟩
  refine ⟨hT, F.args_dict_init_2 _ _, ?_⟩
  unfold Builtin.«dict.__init__»
  refine wpAny_bind ?_
  unfold Builtin.Dict.selfAndRest
  refine wpAny_bind (wpAny_notOrdered_dict hT ?_)
  show wpAny _ _ (pure (s.heap.objs.size, [Value.ref a])) _ _ _
  refine wpAny_pure ?_
  have hxl : xs.length = es.length := by
    have := congrArg List.length hx.1
    rw [List.length_map, List.length_map] at this
    exact this
  have hxk : xs.map (·.1) = es.map (·.1) := by
    have := congrArg (List.map Prod.fst) hx.1
    rw [List.map_map, List.map_map] at this
    exact this
  have hda : s.heap.objs.size ≠ a := fun e => by
    have := (n.at_.ok I.hok).lt
    exact absurd this (by rw [← e]; exact Nat.lt_irrefl _)
  obtain ⟨_, _, _, _, _, _, _, his, _⟩ := id dd
  refine updateFrom_dictH (A := A.in1) (knd := KN X) (kvs := []) .none hu hda hd (Heap.DictOfH.new s.heap) dd (.inr ⟨fun x hx' => ?_, ?_⟩) (by rw [List.length_nil, hxl]; omega) fun h' hd' ho' hs' => ?_
  · obtain ⟨hn, _⟩ := his x hx'
    generalize x.1 = kx at hn
    cases hn with
    | tup g1 g2 g3 g4 => exact ⟨_, g1, g2⟩
  · have : (xs.map fun x => (KN X).hash x.1) = es.map fun e => e.1.hash X.w := by
      have := congrArg (List.map fun k : NestedKey => k.hash X.w) hxk
      rw [List.map_map, List.map_map] at this
      exact this
    rw [this]
    exact hap
  · rw [storedAllH_nil_of_nodup xs dd.nodup] at hd'
    obtain ⟨o, ds, ep, g1, g2, g3, g4, _, _⟩ := hd'
    refine ⟨rfl, h _ _ (I.hok.fresh (Nat.le_refl _)) (I.laid (fun b u e => ?_) (Nat.le_refl _) ⟨⟨hz, ?_, xs, hx.1, hx.2, o, ds, ep, g1, g2, g3, g4⟩, ⟨o, g1⟩, ?_⟩)⟩
    · exact (hs'.2 b (Nat.ne_of_lt (Heap.lt_size e))).trans (hk b u e)
    · exact beq_false_of_ne (Nat.ne_of_gt I.big)
    · rintro h1 h2' ⟨z1, z2, xs', z3, z4, o, ds', ep', z5, z6⟩ keep
      exact ⟨z1, z2, xs', z3, z4, o, ds', ep', keep o z5, z6⟩
def rDictN (X : Cx) : List V → Hp → VK → Prop := fun xs H Q => ∃ a Hm es, xs = [.ref a] ∧ Same Hm H ∧ NDict X.K (hsOf X) Hm H a es ∧ (es.map fun e => e.1.hash X.w).Nodup ∧ ∀ p, H p = none → Q (.ref p) (upd H p (rawN p (hsOf X) es))
theorem call_dictN (hu : X.A.units + 10 < cLine) : CallR X (.type "dict") (rDictN X) := by
  intro pins s σ H xs us Q I r h
  obtain ⟨a, Hm, es, rfl, sm, n, hap, q⟩ := h
  obtain ⟨u, rfl, rx⟩ := vals1 r
  cases rx
  exact n_copy (by show X.A.units + 1 + 1 + 8 < _; omega) I sm n hap fun p s' hp I' => ⟨.ref p, _, I', rfl, q p hp⟩
/-- dict(d), a copy: the keys' hashes differ -/
def wDictN (hs : NestedKey → Int) : WB
  | [.obj a], μ, P => match μ a with
    | some (.dcN hs' kvs) => hs' = hs ∧ (kvs.map fun e => hs e.1).Nodup ∧ ∀ p, μ p = none → P (.obj p) (updM μ p (.dcN hs kvs))
    | _ => False
  | _, _, _ => False
theorem dictN_rd : RAD X.K (rDictN X) (wDictN (hsOf X)) := by
  intro R μ H vs ds P Q o i w k
  match ds, w with
  | [.obj a], w =>
    obtain ⟨v, rfl, i1⟩ := i.one
    cases i1
    have w2 : (match μ a with | some (.dcN hs' kvs) => hs' = hsOf X ∧ (kvs.map fun e => hsOf X e.1).Nodup ∧ ∀ p, μ p = none → P (.obj p) (updM μ p (.dcN (hsOf X) kvs)) | _ => False) := w
    split at w2
    · rename_i hs' kvs e
      obtain ⟨e0, hn, w3⟩ := w2
      subst e0
      obtain ⟨es, h1, h2, h3, h4, h5⟩ := o.ob a _ e
      refine ⟨a, _, es, rfl, hid_le, ⟨.inl h1, h2, h3⟩, ?_, fun p n => ?_⟩
      · have := congrArg (List.map fun k : NestedKey => k.hash X.w) h4
        rw [List.map_map, List.map_map] at this
        have e1 : (es.map fun e => e.1.hash X.w) = kvs.map fun e => hsOf X e.1 := this
        rw [e1]
        exact hn
      · have hs : Same (hid R μ H) (hid R (updM μ p (.dcN (hsOf X) kvs)) (upd H p (rawN p (hsOf X) es))) := fun b u e => by
          obtain ⟨e1, e2, e3⟩ := hid_some e
          have ne := ne_of_none e3 n
          rw [hid_at e1 (by rw [updM_ne ne]; exact e2), upd_ne ne]
          exact e3
        obtain ⟨o2, s2⟩ := o.newM (o := rawN p (hsOf X) es) (m := .dcN (hsOf X) kvs) n ⟨es, upd_same, fun x hx => let ⟨z, d, i, nk⟩ := h2 x hx; ⟨z, d, i.mono hs, nk⟩, h3, h4, h5.mono hs⟩ (by intro z; cases z)
        exact k _ _ _ _ (w3 p (o.freeM n)) o2 s2 (.obj p)
    · exact w2.elim
variable {e : Expr} {w : WE} {p pos : Pos}
theorem d_dictN {k : Nat} (hr : Room k X.A) (hg : Gl X "dict") (hm : X.mg "dict" = none) (ha : PE X e (tD X.K w)) (hs : starEach [e] X.env = [(false, eval e X.env)] := by rfl) : PE X (.Call (.Name "dict" p) [e] [] pos) (tD X.K (wB (wDictN (hsOf X)) (wCons w wNil))) :=
  d_callTy (call_dictN (by have := hr.un; omega)) dictN_rd hg hm (by decide +kernel) (da_cons ha da_nil hs) (by decide) (by decide) hs rfl
end
end Dz

set_option Elab.async false
set_option linter.all false
set_option maxRecDepth 100000
set_option maxHeartbeats 2000000
/-! DzH4: dict(pairs) whose keys are tuples. -/
namespace Dz
open PySem PySem.Spec L2 PyProof.Rows

section
variable {X : Cx} {pins : List (Addr × Obj)} {σ : L2.St} {H Hm : Hp} {s : Shared} {a : Addr} {A : Around} {E : Value → Shared → Prop}
theorem newT_at (I : Inv X pins σ H s) {xs : List V} (h : SqN X.K H a xs) : ∃ its : List Value, Vals xs its ∧ PlainSeq "tuple" s.heap a its.toArray := by
  obtain ⟨its, r, ⟨o, g1, g2, n, g3⟩, _⟩ := I.tuple h.t
  rcases h with ⟨o', h1, h2, h3⟩ | ⟨o', its', n', h1, ⟨h2, h3⟩, _⟩
  · have := (show ObjOk X.prog X.w H s.heap a (.frz o' (.tup xs)) from I.hok a _ h1).1
    rw [g1] at this
    cases this
    exact ⟨its, r, o, n, g1, g2, h3, g3⟩
  · have := I.kIn a o' h1
    rw [g1] at this
    cases this
    exact ⟨its, r, o, n, g1, g2, h3, g3⟩
theorem pairs_at (I : Inv X pins σ H s) : ∀ {qs : List (Addr × NestedKey × Addr × V)}, (∀ q ∈ qs, SqT X.K H q.1 [.ref q.2.2.1, q.2.2.2]) →
    ∃ us : List Value, Vals (qs.map (·.2.2.2)) us ∧ ∀ (j : Nat) (q : Addr × NestedKey × Addr × V) (u : Value), qs[j]? = some q → us[j]? = some u → PairAt s.heap q.1 (.ref q.2.2.1) u
  | [], _ => ⟨[], .nil, fun j q u h => by simp at h⟩
  | q :: qs, h => by
    obtain ⟨us, h1, h2⟩ := pairs_at I (qs := qs) fun x hx => h x (List.mem_cons_of_mem _ hx)
    obtain ⟨its, r, ⟨o, g1, g2, n, g3⟩, _⟩ := I.tuple (h q List.mem_cons_self)
    cases r with
    | cons r1 r =>
      cases r with
      | cons r2 r =>
        cases r
        cases r1
        rename_i u
        refine ⟨u :: us, .cons r2 h1, fun j q' u' e1 e2 => ?_⟩
        cases j with
        | zero =>
          simp only [List.getElem?_cons_zero, Option.some.injEq] at e1 e2
          subst e1 e2
          exact .inl ⟨o, g1, g2, n, g3⟩
        | succ j => exact h2 j q' u' (by simpa using e1) (by simpa using e2)
theorem vals_len {vs : List V} {us : List Value} (r : Vals vs us) : us.length = vs.length := r.length.symm
theorem n_pairs {xs : List V} {qs : List (Addr × NestedKey × Addr × V)} {Q : Value → Shared → Prop} (hh : A.handled = none) (hu : A.in1.in1.units + 8 < cLine) (I : Inv X pins σ H s) (sm : Same Hm H) (ht : SqN X.K H a xs) (hx : xs = qs.map fun q => .ref q.1)
    (hq : ∀ q ∈ qs, SqT X.K H q.1 [.ref q.2.2.1, q.2.2.2]) (hk : ∀ q ∈ qs, q.2.1.depth ≤ 8 ∧ ∃ d, Is X.K Hm (.ref q.2.2.1) d ∧ nkey d = some q.2.1) (nd : (qs.map (·.2.1)).Nodup) (hz : qs.length ≤ sizeLine)
    (h : ∀ p s', H p = none → Inv X pins σ (upd H p (rawN p (hsOf X) (qs.map (·.2)))) s' → Q (.ref p) s') : wpAny (model X.prog X.w) A (call (.type "dict") [.ref a]) Q E s := by
  obtain ⟨its, r, hp⟩ := newT_at I ht
  obtain ⟨us, ru, hus⟩ := pairs_at I hq
  have lu : us.length = qs.length := by rw [vals_len ru, List.length_map]
  have li : its.length = qs.length := by rw [vals_len r, hx, List.length_map]
  let Ts : Nat → Addr := fun j => match qs[j]? with | some q => q.1 | none => 0
  let ps : List (Value × Value) := (qs.zip us).map fun z => (.ref z.1.2.2.1, z.2)
  let ks : List (NestedKey × Addr × Value) := (qs.zip us).map fun z => (z.1.2.1, z.1.2.2.1, z.2)
  have lp : ps.length = qs.length := by
    show ((qs.zip us).map _).length = _
    rw [List.length_map, List.length_zip, lu, Nat.min_self]
  have lk : ks.length = qs.length := by
    show ((qs.zip us).map _).length = _
    rw [List.length_map, List.length_zip, lu, Nat.min_self]
  have hitem : ∀ (j : Nat) (q : Addr × NestedKey × Addr × V), qs[j]? = some q → its[j]? = some (Value.ref q.1) := fun j q e => by
    have e1 : xs[j]? = some (V.ref q.1) := by rw [hx, List.getElem?_map, e]; rfl
    obtain ⟨u, e2, e3⟩ := r.get e1
    cases e3
    exact e2
  have hok : PlainSeq "tuple" s.heap a its.toArray ∧ PairItems s.heap its.toArray Ts ps := by
    refine ⟨hp, by rw [lp]; simpa using li, fun j k v e => ?_⟩
    have e : ((qs.zip us).map fun z => ((.ref z.1.2.2.1 : Value), z.2))[j]? = some (k, v) := e
    rw [List.getElem?_map, Option.map_eq_some_iff] at e
    obtain ⟨⟨q, u⟩, e1, e2⟩ := e
    cases e2
    obtain ⟨e3, e4⟩ := List.getElem?_zip_eq_some.mp e1
    have et : Ts j = q.1 := by show (match qs[j]? with | some q => q.1 | none => 0) = _; rw [e3]
    rw [et]
    exact ⟨by simpa using hitem j q e3, hus j q u e3 e4⟩
  have hkeys : ∀ h' : Heap, (∀ b o, s.heap.get? b = some o → h'.get? b = some o) → ∀ x ∈ ks, (KN X).is h' x.1 x.2.1 := fun h' hk' x hx' => by
    obtain ⟨z, hz', rfl⟩ := List.mem_map.mp hx'
    have hm : z.1 ∈ qs := (List.of_mem_zip (show (z.1, z.2) ∈ qs.zip us from hz')).1
    obtain ⟨dz, d, i, nk⟩ := hk z.1 hm
    exact ⟨nkey_is (I.kept (h' := h') (t' := s.toks) hk') sm i nk rfl, dz⟩
  have nk : (ks.map (·.1)).Nodup := by
    have : ks.map (·.1) = qs.map (·.2.1) := by
      show ((qs.zip us).map _).map _ = _
      rw [List.map_map]
      have e : (qs.zip us).map ((fun x : NestedKey × Addr × Value => x.1) ∘ fun z => (z.1.2.1, z.1.2.2.1, z.2)) = ((qs.zip us).map Prod.fst).map (·.2.1) := by rw [List.map_map]; rfl
      rw [e, List.map_fst_zip (by omega)]
    rw [this]
    exact nd
  refine call_dict_pairsH (knd := KN X) (ps := ks) (PairArg.tuple a its.toArray Ts ps) hh hu hok ⟨by rw [lk, lp], fun i key v e => ?_⟩ (fun h' hk' => hkeys h' fun b o e => hk' b o (Nat.ne_of_lt (Heap.lt_size e)) (fun h => by cases h) e) (by rw [lp]; exact hz) fun h' tk hd' hk' => ?_
  · have e : ((qs.zip us).map fun z => ((.ref z.1.2.2.1 : Value), z.2))[i]? = some (key, v) := e
    rw [List.getElem?_map, Option.map_eq_some_iff] at e
    obtain ⟨⟨q, u⟩, e1, e2⟩ := e
    cases e2
    exact ⟨q.2.1, q.2.2.1, by show ((qs.zip us).map _)[i]? = _; rw [List.getElem?_map, e1]; rfl, rfl⟩
  · rw [storedAllH_nil_of_nodup ks nk] at hd'
    obtain ⟨o, ds, ep, g1, g2, g3, g4, _, _⟩ := hd'
    have hxs : xsOf (qs.map (·.2)) ks := by
      refine ⟨?_, ?_⟩
      · show ((qs.zip us).map _).map _ = (qs.map _).map _
        rw [List.map_map, List.map_map]
        have e : (qs.zip us).map ((fun x : NestedKey × Addr × Value => (x.1, x.2.1)) ∘ fun z => (z.1.2.1, z.1.2.2.1, z.2)) = ((qs.zip us).map Prod.fst).map fun q => (q.2.1, q.2.2.1) := by rw [List.map_map]; rfl
        rw [e, List.map_fst_zip (by omega)]
        rfl
      · have e1 : ks.map (·.2.2) = us := by
          show ((qs.zip us).map _).map _ = _
          rw [List.map_map]
          have e : (qs.zip us).map ((fun x : NestedKey × Addr × Value => x.2.2) ∘ fun z => (z.1.2.1, z.1.2.2.1, z.2)) = (qs.zip us).map Prod.snd := rfl
          rw [e, List.map_snd_zip (by omega)]
        rw [e1, List.map_map]
        exact ru
    refine h _ _ (I.hok.fresh (Nat.le_refl _)) (I.laid (fun b u e => hk' b u (fun h => by cases h) e) (Nat.le_refl _) ⟨⟨by rw [List.length_map]; exact hz, beq_false_of_ne (Nat.ne_of_gt I.big), ks, hxs.1, hxs.2, o, ds, ep, g1, g2, g3, g4⟩, ⟨o, g1⟩, ?_⟩)
    rintro h1 h2' ⟨z1, z2, xs', z3, z4, o, ds', ep', z5, z6⟩ keep
    exact ⟨z1, z2, xs', z3, z4, o, ds', ep', keep o z5, z6⟩
/-- the pairs of a tuple, with keys that are tuples -/
def pairsN : List DV → Option (List (NestedKey × DV))
  | [] => some []
  | .tup [.tup ks, v] :: r => match nkeys ks, pairsN r with
    | some k, some l => some ((.tup k, v) :: l)
    | _, _ => none
  | _ :: _ => none
theorem pairsN_is {K : PySem.W.Frag} {Hm : Hp} : ∀ {ds : List DV} {vs : List V} {kvs : List (NestedKey × DV)}, Iss K Hm vs ds → pairsN ds = some kvs →
    ∃ qs : List (Addr × NestedKey × Addr × V), vs = qs.map (fun q => V.ref q.1) ∧ (∀ q ∈ qs, SqT K Hm q.1 [.ref q.2.2.1, q.2.2.2]) ∧ (∀ q ∈ qs, ∃ d, Is K Hm (.ref q.2.2.1) d ∧ nkey d = some q.2.1) ∧ qs.map (·.2.1) = kvs.map (·.1) ∧ Iss K Hm (qs.map (·.2.2.2)) (kvs.map (·.2))
  | [], _, _, .nil, e => by
    cases e
    exact ⟨[], rfl, (fun q h => by cases h), (fun q h => by cases h), rfl, .nil⟩
  | .tup [.tup ks, v] :: r, _, kvs, .cons h rs, e => by
    have e : (match nkeys ks, pairsN r with | some k, some l => some ((NestedKey.tup k, v) :: l) | _, _ => none) = some kvs := e
    cases e1 : nkeys ks with
    | none => rw [e1] at e; cases e
    | some k =>
      cases e2 : pairsN r with
      | none => rw [e1, e2] at e; cases e
      | some l =>
        rw [e1, e2] at e
        cases e
        obtain ⟨qs, h1, h2, h3, h4, h5⟩ := pairsN_is rs e2
        cases h with
        | tup hx rx =>
          rename_i a xs
          cases rx with
          | cons i1 rx =>
            cases rx with
            | cons i2 rx =>
              cases rx
              cases i1 with
              | tup hk rk =>
                rename_i v2 b ys
                refine ⟨(a, .tup k, b, v2) :: qs, by rw [List.map_cons, h1], fun q hq => ?_, fun q hq => ?_, by rw [List.map_cons, List.map_cons, h4], .cons i2 h5⟩
                · rcases List.mem_cons.mp hq with rfl | hq
                  · exact hx.t
                  · exact h2 q hq
                · rcases List.mem_cons.mp hq with rfl | hq
                  · refine ⟨.tup ks, .tup hk rk, ?_⟩
                    show (nkeys ks).map NestedKey.tup = _
                    rw [e1]
                    rfl
                  · exact h3 q hq
def rDictP (X : Cx) : List V → Hp → VK → Prop := fun zs H Q => ∃ a Hm xs, ∃ qs : List (Addr × NestedKey × Addr × V), zs = [.ref a] ∧ Same Hm H ∧ SqN X.K H a xs ∧ xs = qs.map (fun q => V.ref q.1) ∧ (∀ q ∈ qs, SqT X.K H q.1 [.ref q.2.2.1, q.2.2.2]) ∧
  (∀ q ∈ qs, q.2.1.depth ≤ 8 ∧ ∃ d, Is X.K Hm (.ref q.2.2.1) d ∧ nkey d = some q.2.1) ∧ (qs.map (·.2.1)).Nodup ∧ qs.length ≤ sizeLine ∧ ∀ p, H p = none → Q (.ref p) (upd H p (rawN p (hsOf X) (qs.map (·.2))))
theorem call_dictP (hc : X.calm = true) (hu : X.A.units + 10 < cLine) : CallR X (.type "dict") (rDictP X) := by
  intro pins s σ H zs us Q I r h
  obtain ⟨a, Hm, xs, qs, rfl, sm, ht, hx, hq, hk, nd, hz, q⟩ := h
  obtain ⟨u, rfl, rx⟩ := vals1 r
  cases rx
  exact n_pairs (I.ok.hd hc) (by show X.A.units + 1 + 1 + 8 < _; omega) I sm ht hx hq hk nd hz fun p s' hp I' => ⟨.ref p, _, I', rfl, q p hp⟩
/-- dict(t) of a tuple of pairs whose keys are tuples, all different -/
def wDictP (hs : NestedKey → Int) : WB
  | [.tup ds], μ, P => ∃ kvs, pairsN ds = some kvs ∧ (∀ e ∈ kvs, e.1.depth ≤ 8) ∧ (kvs.map (·.1)).Nodup ∧ kvs.length ≤ sizeLine ∧ ∀ p, μ p = none → P (.obj p) (updM μ p (.dcN hs kvs))
  | _, _, _ => False
theorem dictP_rd : RAD X.K (rDictP X) (wDictP (hsOf X)) := by
  intro R μ H vs ds P Q o i w k
  match ds, w with
  | [.tup ds], w =>
    obtain ⟨v, rfl, i1⟩ := i.one
    obtain ⟨kvs, hp, hd, hn, hz, w3⟩ := w
    cases i1 with
    | @tup a xs _ hx rx =>
      obtain ⟨qs, h1, h2, h3, h4, h5⟩ := pairsN_is rx hp
      have hk : ∀ q ∈ qs, q.2.1.depth ≤ 8 ∧ ∃ d, Is X.K (hid R μ H) (.ref q.2.2.1) d ∧ nkey d = some q.2.1 := fun q hq => by
        refine ⟨?_, h3 q hq⟩
        have hm : q.2.1 ∈ kvs.map (·.1) := by rw [← h4]; exact List.mem_map.mpr ⟨q, hq, rfl⟩
        obtain ⟨e, he, ee⟩ := List.mem_map.mp hm
        rw [← ee]
        exact hd e he
      have hlen : qs.length = kvs.length := by have := congrArg List.length h4; simpa using this
      have e1 : (qs.map (·.2)).map (·.1) = kvs.map (·.1) := by rw [List.map_map]; exact h4
      refine ⟨a, _, xs, qs, rfl, hid_le, Same.seqN hid_le hx, h1, fun q hq => Same.seqT hid_le (h2 q hq), hk, by rw [h4]; exact hn, by rw [hlen]; exact hz, fun p n => ?_⟩
      have hs : Same (hid R μ H) (hid R (updM μ p (.dcN (hsOf X) kvs)) (upd H p (rawN p (hsOf X) (qs.map (·.2))))) := fun b u e => by
        obtain ⟨e1, e2, e3⟩ := hid_some e
        have ne := ne_of_none e3 n
        rw [hid_at e1 (by rw [updM_ne ne]; exact e2), upd_ne ne]
        exact e3
      obtain ⟨o2, s2⟩ := o.newM (o := rawN p (hsOf X) (qs.map (·.2))) (m := .dcN (hsOf X) kvs) n ⟨qs.map (·.2), upd_same, fun x hx => by
        obtain ⟨q, hq, rfl⟩ := List.mem_map.mp hx
        obtain ⟨z, d, i, nk⟩ := hk q hq
        exact ⟨z, d, i.mono hs, nk⟩, by rw [e1]; exact hn, e1, by rw [List.map_map]; exact h5.mono hs⟩ (by intro z; cases z)
      exact k _ _ _ _ (w3 p (o.freeM n)) o2 s2 (.obj p)
variable {e : Expr} {w : WE} {p pos : Pos}
theorem d_dictP {k : Nat} (hr : Room k X.A) (hg : Gl X "dict") (hm : X.mg "dict" = none) (ha : PE X e (tD X.K w)) (hc : X.calm = true := by rfl) (hs : starEach [e] X.env = [(false, eval e X.env)] := by rfl) : PE X (.Call (.Name "dict" p) [e] [] pos) (tD X.K (wB (wDictP (hsOf X)) (wCons w wNil))) :=
  d_callTy (call_dictP hc (by have := hr.un; omega)) dictP_rd hg hm (by decide +kernel) (da_cons ha da_nil hs) (by decide) (by decide) hs rfl
end
end Dz

set_option Elab.async false
set_option linter.all false
set_option maxRecDepth 100000
set_option maxHeartbeats 2000000
/-! DzH5: sorted(d.items()) of a dict whose keys are tuples. -/
namespace Dz
open PySem PySem.Spec L2 PyProof.Rows

mutual
/-- a key's data -/
def kd : NestedKey → DV
  | .none => .none
  | .num i => .int i
  | .text x => .str x
  | .tup ks => .tup (kds ks)
def kds : List NestedKey → List DV
  | [] => []
  | k :: ks => kd k :: kds ks
end
mutual
theorem nkey_kd : ∀ (d : DV) (k : NestedKey), nkey d = some k → d = kd k
  | .none, k, h => by cases h; rfl
  | .int i, k, h => by cases h; rfl
  | .str x, k, h => by cases h; rfl
  | .tup ds, k, h => by
    have h : (nkeys ds).map NestedKey.tup = some k := h
    obtain ⟨ks, h1, h2⟩ := Option.map_eq_some_iff.mp h
    subst h2
    show DV.tup ds = .tup (kds ks)
    rw [nkeys_kd ds ks h1]
  | .bool b, k, h => by cases h
  | .lst _, k, h => by cases h
  | .dct _, k, h => by cases h
  | .obj _, k, h => by cases h
  | .fix _, k, h => by cases h
theorem nkeys_kd : ∀ (ds : List DV) (ks : List NestedKey), nkeys ds = some ks → ds = kds ks
  | [], ks, h => by cases h; rfl
  | d :: ds, ks, h => by
    have h : (match nkey d, nkeys ds with | some k, some ks => some (k :: ks) | _, _ => none) = some ks := h
    cases e1 : nkey d with
    | none => rw [e1] at h; cases h
    | some k =>
      cases e2 : nkeys ds with
      | none => rw [e1, e2] at h; cases h
      | some l =>
        rw [e1, e2] at h
        cases h
        show d :: ds = kd k :: kds l
        rw [nkey_kd d k e1, nkeys_kd ds l e2]
end

mutual
/-- the addresses that data reads off are there -/
theorem reads_in {h : Heap} : ∀ {d : PyData} {v : Value} {as : List Addr}, Reads h v d as → ∀ a ∈ as, ∃ o, h.get? a = some o
  | _, _, _, .none, a, m => by cases m
  | _, _, _, .bool _, a, m => by cases m
  | _, _, _, .int _ _, a, m => by cases m
  | _, _, _, .str _ _, a, m => by cases m
  | _, _, _, .list h1 _ _ r, a, m => by
    rcases List.mem_cons.mp m with rfl | m
    · exact ⟨_, h1⟩
    · exact readsAll_in r a m
  | _, _, _, .tuple _ _ _ r, a, m => readsAll_in r a m
  | _, _, _, .dict h1 _ _ r1 r2, a, m => by
    rcases List.mem_append.mp m with m | m
    · rcases List.mem_cons.mp m with rfl | m
      · exact ⟨_, h1⟩
      · exact readsAll_in r1 a m
    · exact readsAll_in r2 a m
theorem readsAll_in {h : Heap} : ∀ {ds : List PyData} {vs : List Value} {as : List Addr}, ReadsAll h vs ds as → ∀ a ∈ as, ∃ o, h.get? a = some o
  | _, _, _, .nil, a, m => by cases m
  | _, _, _, .cons r1 r2, a, m => by
    rcases List.mem_append.mp m with m | m
    · exact reads_in r1 a m
    · exact readsAll_in r2 a m
end
/-- new things laid one by one -/
inductive Grown (H : Hp) : Hp → Prop
  | refl : Grown H H
  | step {H1 : Hp} {p : Addr} {o : HO} : Grown H H1 → H1 p = none → Grown H (upd H1 p o)
theorem Grown.same {H H' : Hp} (g : Grown H H') : Same H H' := by
  induction g with
  | refl => exact Same.refl _
  | step g n ih => exact fun b o e => by rw [upd_ne (ne_of_none (ih b o e) n)]; exact ih b o e
theorem Grown.pre {H H1 : Hp} {p : Addr} {o : HO} (n : H p = none) {H' : Hp} (g : Grown (upd H p o) H') : Grown H H' := by
  induction g with
  | refl => exact .step .refl n
  | step _ n' ih => exact .step ih n'
theorem Ok.grown {K : PySem.W.Frag} {R : Hp} {μ : Mh} {H H' : Hp} (k : Ok K R μ H) (g : Grown H H') : Ok K R μ H' ∧ Same (hid R μ H) (hid R μ H') := by
  induction g with
  | refl => exact ⟨k, Same.refl _⟩
  | step _ n ih => exact ⟨ih.1.new n, ih.2.trans (ih.1.sameNew n)⟩
/-- the items of a dict, as data -/
def itemN (e : NestedKey × DV) : DV := .tup [kd e.1, e.2]
/-- what data can be sorted -/
structure SortOk (ds : List DV) : Prop where
  no : noObjs ds = true
  al : allAlike ds = true
  so : sortable ds = true
  dp : ∀ d ∈ ds, (toPy d).depth ≤ 60
  sz : ds.length ≤ sizeLine
section
variable {X : Cx}
theorem takeG {α : Type} {pins : List (Addr × Obj)} {σ : L2.St} {H0 : Hp} {s : Shared} {h' : Heap} {tk : Nat} {P : Addr × α → Obj → List V → Prop} (I0 : Inv X pins σ H0 s) : ∀ (L : List (Addr × α)) (H1 : Hp), Inv X pins σ H1 { s with heap := h', toks := tk } → (L.map (·.1)).Nodup →
    (∀ z ∈ L, s.heap.objs.size ≤ z.1 ∧ H1 z.1 = none ∧ ∃ o vs, P z o vs ∧ ∀ H2, ObjOk X.prog X.w H2 h' z.1 (.frz o (.tup vs))) →
    ∃ H2, Inv X pins σ H2 { s with heap := h', toks := tk } ∧ Grown H1 H2 ∧ ∀ z ∈ L, ∃ o vs, P z o vs ∧ H2 z.1 = some (.frz o (.tup vs))
  | [], H1, I1, _, _ => ⟨H1, I1, .refl, fun _ h => nomatch h⟩
  | z :: L, H1, I1, hn, h => by
    obtain ⟨hb, hnone, o, vs, hP, ok⟩ := h z (List.mem_cons_self ..)
    have I2 : Inv X pins σ (upd H1 z.1 (.frz o (.tup vs))) { s with heap := h', toks := tk } := I1.take (h' := h') (t' := tk) (fun b ob _ e => e) (I0.fpOk hb hnone) (ok _)
    rw [List.map_cons, List.nodup_cons] at hn
    obtain ⟨H2, I3, g, q⟩ := takeG I0 L (upd H1 z.1 (.frz o (.tup vs))) I2 hn.2 fun c hc => by
      obtain ⟨c1, c2, c3⟩ := h c (List.mem_cons_of_mem _ hc)
      exact ⟨c1, by rw [upd_ne (fun e => hn.1 (by rw [← e]; exact List.mem_map_of_mem hc))]; exact c2, c3⟩
    refine ⟨H2, I3, g.pre (H1 := H1) hnone, fun c hc => ?_⟩
    rcases List.mem_cons.mp hc with rfl | hc
    · exact ⟨o, vs, hP, g.same _ _ upd_same⟩
    · exact q c hc
/-- a fresh pair -/
def PairF (K : PySem.W.Frag) (Hm H H' : Hp) (x : V) (d : DV) : Prop := ∃ b o e v k y, x = .ref b ∧ d = itemN (k, y) ∧ H b = none ∧ H' b = some (.frz o (.tup [.ref e, v])) ∧ NewT o ∧ Is K Hm (.ref e) (kd k) ∧ Is K Hm v y
def rSortN (X : Cx) : List V → Hp → VK → Prop := fun zs H Q => ∃ (p a : Addr) (Hm : Hp) (es : List (NestedKey × Addr × V)) (kvs : List (NestedKey × DV)), zs = [.ref p] ∧ H p = some (L2.DX.itemsO p a) ∧ Same Hm H ∧ NDict X.K (hsOf X) Hm H a es ∧
  es.map (·.1) = kvs.map (·.1) ∧ Iss X.K Hm (es.map (·.2.2)) (kvs.map (·.2)) ∧ SortOk (kvs.map itemN) ∧
  ∀ (H' : Hp) (ps : List (V × DV)) (l : Addr), Grown H H' → (∀ q ∈ ps, PairF X.K Hm H H' q.1 q.2) → (ps.map (·.2)).Perm (kvs.map itemN) → (ps.map (·.2)).Pairwise (fun a b => leD a b = true) → H' l = none → Q (.ref l) (upd H' l (.lst (ps.map (·.1))))
theorem cr_sortN {k : Nat} (hrm : Room k X.A) (hsm : ∃ o, X.base.get? sysModules = some o) (hc : X.calm = true) : CallR X (.builtin "sorted") (rSortN X) := by
  intro pins s σ H zs us Q I r h
  obtain ⟨p, a, Hm, es, kvs, rfl, hp, sm, n, hk, hr, so, q⟩ := h
  obtain rfl := Vals.ref1 r
  have view : s.heap.IsItemsView p a := (show ObjOk X.prog X.w H s.heap p (L2.DX.itemsO p a) from I.hok p _ hp).1
  obtain ⟨hz, hd, xs, hx, dd⟩ := n.dict I sm
  obtain ⟨o, ds, ep, ho, hex, hdat, hes, _, hnd⟩ := id dd
  have lx : xs.length = es.length := by have := congrArg List.length hx.1; simpa using this
  have ld : ds.size = xs.length := size_of_entries hes
  have lk : kvs.length = es.length := by have := congrArg List.length hk; simpa using this.symm
  have hh : X.A.handled = none := I.ok.hd hc
  refine DT.sortedI (es := ds) (ep := ep) hh view ⟨o, ho, hex, hdat⟩ (by omega) fun h' tk as hkeep hlt hl hG => ?_
  have lak : as.length = kvs.length := by omega
  have nd : as.Nodup := List.Pairwise.imp (fun h => Nat.ne_of_lt h) hG.rise
  let L : List (Addr × (NestedKey × DV)) := as.zip kvs
  have L1 : L.map (·.1) = as := List.map_fst_zip (by omega)
  have L2' : L.map (·.2) = kvs := List.map_snd_zip (by omega)
  let P : Addr × (NestedKey × DV) → Obj → List V → Prop := fun z o vs => NewT o ∧ ∃ e v, vs = [.ref e, v] ∧ Is X.K Hm (.ref e) (kd z.2.1) ∧ Is X.K Hm v z.2.2
  have I1 : Inv X pins σ H { s with heap := h', toks := tk } := I.kept (t' := tk) hkeep
  obtain ⟨H2, I2, g, qt⟩ := takeG (P := P) I L H I1 (by rw [L1]; exact nd) fun z hz' => by
    obtain ⟨j, hj⟩ := List.mem_iff_getElem?.mp hz'
    obtain ⟨hj1, hj2⟩ := List.getElem?_zip_eq_some.mp hj
    obtain ⟨en, he, hg⟩ := hG.pairs j z.1 hj1
    have hbl : s.heap.objs.size ≤ z.1 := Nat.le_of_lt (hG.above z.1 (List.mem_of_getElem? hj1))
    rw [entry_at hes j] at he
    cases hxj : xs[j]? with
    | none => rw [hxj] at he; exact nomatch (show (none : Option DictEntry) = some en from he)
    | some x =>
      rw [hxj] at he
      have een : entryOfKey (KN X) x = en := Option.some.inj he
      have hej : (es.map (fun e => (e.1, e.2.1)))[j]? = some (x.1, x.2.1) := by rw [← hx.1, List.getElem?_map, hxj]; rfl
      rw [List.getElem?_map, Option.map_eq_some_iff] at hej
      obtain ⟨e, hej, ee⟩ := hej
      have e1 : e.1 = x.1 := congrArg Prod.fst ee
      have e2 : e.2.1 = x.2.1 := congrArg Prod.snd ee
      have hv : ∃ u, (xs.map (·.2.2))[j]? = some u ∧ RelV e.2.2 u := hx.2.get (by rw [List.getElem?_map, hej]; rfl)
      obtain ⟨u, hu1, hu2⟩ := hv
      rw [List.getElem?_map, hxj] at hu1
      cases hu1
      have hk1 : e.1 = z.2.1 := by
        have := congrArg (fun l => l[j]?) hk
        simp only [List.getElem?_map, hej, hj2, Option.map_some, Option.some.injEq] at this
        exact this
      obtain ⟨y, hy1, hy2⟩ := hr.getV (i := j) (v := e.2.2) (by rw [List.getElem?_map, hej]; rfl)
      rw [List.getElem?_map, hj2] at hy1
      cases hy1
      obtain ⟨dz, d, i, nk⟩ := n.keys e (List.mem_of_getElem? hej)
      have hkd := nkey_kd d e.1 nk
      rw [hkd, hk1] at i
      refine ⟨hbl, I.hok.fresh hbl, { cls := .type "tuple", data := .seq #[.ref x.2.1, x.2.2] }, [.ref e.2.1, e.2.2], ⟨⟨rfl, rfl⟩, e.2.1, e.2.2, rfl, i, hy2⟩, fun H3 => ?_⟩
      have hg2 : h'.get? z.1 = some { cls := .type "tuple", data := .seq #[.ref x.2.1, x.2.2] } := by
        rw [hg, ← een]
        rfl
      refine ⟨hg2, (by rw [sizeLine_eq]; show 2 ≤ 16777216; omega), [Value.ref x.2.1, x.2.2], .cons (by rw [e2]; rfl) (.cons hu2 .nil), ⟨_, hg2, rfl, 0, rfl⟩⟩
  have hs2 : Same Hm H2 := sm.trans g.same
  have hall : ∀ l : List (Addr × (NestedKey × DV)), (∀ z ∈ l, z ∈ L) → Iss X.K H2 (l.map fun z => V.ref z.1) (l.map fun z => itemN z.2) := by
    intro l
    induction l with
    | nil => exact fun _ => .nil
    | cons z l ih =>
      intro hm
      refine .cons ?_ (ih fun y hy => hm y (List.mem_cons_of_mem _ hy))
      obtain ⟨o, vs, ⟨h1, e, v, rfl, i1, i2⟩, h2⟩ := qt z (hm z List.mem_cons_self)
      exact .tup (.inl ⟨o, h2, h1⟩) (.cons (i1.mono hs2) (.cons (i2.mono hs2) .nil))
  have hI := hall L fun _ h => h
  have eds : L.map (fun z => itemN z.2) = kvs.map itemN := by rw [← L2', List.map_map]; rfl
  have eus : L.map (fun z => Value.ref z.1) = as.map Value.ref := by rw [← L1, List.map_map]; rfl
  have rv : Vals (L.map fun z => V.ref z.1) (L.map fun z => Value.ref z.1) := by
    generalize L = l
    induction l with
    | nil => exact .nil
    | cons z l ih => exact .cons rfl ih
  rw [eds] at hI
  rw [eus] at rv
  generalize hXs : (L.map fun z => V.ref z.1) = Xs at hI rv
  generalize hDs : kvs.map itemN = Ds at hI so q
  obtain ⟨e1, e2⟩ := each_of I2 hsm hI so.no rv
  have hlen : (Xs.zip Ds).length = Ds.length := by rw [List.length_zip, hI.length, Nat.min_self]
  have hsnd : (Xs.zip Ds).map (fun b => toPy b.2) = Ds.map toPy := by
    have := congrArg (List.map toPy) (zip_snd hI.length)
    rw [List.map_map] at this
    exact this
  have hmem : ∀ b ∈ Xs.zip Ds, b.2 ∈ Ds := fun b hb => by
    have := List.mem_map_of_mem (f := (·.2)) hb
    rw [zip_snd hI.length] at this
    exact this
  have hob : (h'.push { cls := .type "list", data := .seq (as.map Value.ref).toArray }).get? h'.objs.size = some (seqObj "list" (as.map Value.ref).toArray 0) := Heap.get?_push_size _ rfl
  have ne0 : ∀ b o, h'.get? b = some o → b ≠ h'.objs.size := fun b o e => Nat.ne_of_lt (Heap.lt_size e)
  have ka : ∀ b o, h'.get? b = some o → (h'.push { cls := .type "list", data := .seq (as.map Value.ref).toArray }).get? b = some o := fun b o e => Heap.get?_push_of_some _ e
  generalize hh2 : h'.push { cls := .type "list", data := .seq (as.map Value.ref).toArray } = h2 at hob ka ⊢
  have er : PySem.W.EachIs (fun (v : Value) (b : V × DV) => ∃ as, Reads h2 v (toPy b.2) as ∧ h'.objs.size ∉ as) (as.map Value.ref) (Xs.zip Ds) := e2.mono fun v b ⟨as', rd⟩ => ⟨as', PyProof.Rows.Reads.keeps (fun b o e => ka b o e) rd, fun m => by
    obtain ⟨o', ho'⟩ := reads_in rd _ m
    exact ne0 _ _ ho' rfl⟩
  refine PySem.W.list_sort_data (s := { s with heap := h2, toks := tk }) (enc := fun b : V × DV => toPy b.2) hob e1 er ?_ ?_ (by rw [hlen]; exact so.sz) (fun b hb => ?_) fun out h1 h2' => ?_
  · rw [hsnd]
    intro d hd d' hd'
    rw [List.mem_map] at hd hd'
    obtain ⟨x, hx, rfl⟩ := hd
    obtain ⟨y, hy, rfl⟩ := hd'
    have al := so.al
    unfold allAlike at al
    rw [List.all_eq_true] at al
    have := al x hx
    rw [List.all_eq_true] at this
    exact this y hy
  · rw [hsnd]
    have so' := so.so
    unfold sortable at so'
    rw [Bool.or_eq_true, List.all_eq_true, List.all_eq_true] at so'
    rcases so' with so' | so'
    · refine .inl fun d hd => ?_
      rw [List.mem_map] at hd
      obtain ⟨x, hx, rfl⟩ := hd
      have := so' x hx
      match x, this with
      | .tup (y :: ys), _ => exact ⟨toPy y, toPys ys, rfl⟩
    · refine .inr fun d hd => ?_
      rw [List.mem_map] at hd
      obtain ⟨x, hx, rfl⟩ := hd
      have := so' x hx
      match x, this with
      | .int i, _ => exact ⟨fun z => (by cases z), fun xs z => (by cases z)⟩
      | .str i, _ => exact ⟨fun z => (by cases z), fun xs z => (by cases z)⟩
  · have h1 := so.dp b.2 (hmem b hb)
    have := hrm.un
    show X.A.units + 1 + 1 + (toPy b.2).depth < cLine
    omega
  · obtain ⟨ep', he'⟩ := PyProof.Rows.sortedHeap_at (vs := as.map Value.ref) (out := out.toArray) hob
    have rv2 := vals_of_each h2'
    have pw := List.pairwise_mergeSort (le := PySem.W.dataLe false fun b : V × DV => toPy b.2) (PySem.W.sortLe_total _ false _).trans (fun a b => by
      rw [Bool.or_eq_true]
      exact (PySem.W.sortLe_total (PyProof.Rows.listOrd PyProof.Rows.itemOrd) false fun b : V × DV => PySem.W.keyToks (toPy b.2)).total a b) (Xs.zip Ds)
    have pm := List.mergeSort_perm (Xs.zip Ds) (PySem.W.dataLe false fun b : V × DV => toPy b.2)
    generalize hms : (Xs.zip Ds).mergeSort (PySem.W.dataLe false fun b : V × DV => toPy b.2) = ps at rv2 pm pw
    have hz2 : (ps.map (·.1)).length ≤ sizeLine := by
      rw [List.length_map, pm.length_eq, hlen]
      exact so.sz
    have kF : ∀ b o, h'.get? b = some o → (PyProof.Rows.sortedHeap h2 h'.objs.size (as.map Value.ref) out.toArray).get? b = some o := fun b o e => (PyProof.Rows.sortedHeap_old (ne0 b o e) (Heap.lt_size (ka b o e))).trans (ka b o e)
    refine ⟨.ref h'.objs.size, upd H2 h'.objs.size (.lst (ps.map (·.1))), I2.laid (t' := tk) kF (Nat.le_refl _) ⟨hz2, out, ep', rv2, he'⟩, rfl, q H2 ps _ g (fun z hz' => ?_) ?_ ?_ (I2.hok.fresh (Nat.le_refl _))⟩
    · have hm := pm.mem_iff.mp hz'
      have hm2 : ∀ l : List (Addr × (NestedKey × DV)), z ∈ (l.map fun z => V.ref z.1).zip (l.map fun z => itemN z.2) → ∃ y ∈ l, z = (V.ref y.1, itemN y.2) := by
        intro l
        induction l with
        | nil => exact fun h => nomatch h
        | cons y l ih =>
          intro h
          rw [List.map_cons, List.map_cons, List.zip_cons_cons] at h
          rcases List.mem_cons.mp h with h | h
          · exact ⟨y, List.mem_cons_self, h⟩
          · obtain ⟨w, hw, e⟩ := ih h
            exact ⟨w, List.mem_cons_of_mem _ hw, e⟩
      rw [← hXs, ← hDs, ← eds] at hm
      obtain ⟨y, hy, rfl⟩ := hm2 L hm
      obtain ⟨o', vs, ⟨h3, e, v, rfl, i1, i2⟩, h4⟩ := qt y hy
      obtain ⟨j, hj⟩ := List.mem_iff_getElem?.mp hy
      have hb := hG.above y.1 (List.mem_of_getElem? (List.getElem?_zip_eq_some.mp hj).1)
      exact ⟨y.1, o', e, v, y.2.1, y.2.2, rfl, rfl, I.hok.fresh (Nat.le_of_lt hb), h4, h3, i1, i2⟩
    · have := pm.map (·.2)
      rw [zip_snd hI.length] at this
      exact this
    · rw [List.pairwise_map]
      exact pw.imp fun {a b} h => h
end
end Dz

set_option Elab.async false
set_option linter.all false
set_option maxRecDepth 100000
set_option maxHeartbeats 2000000
/-! DzH6: sorted(d.items()) as a rule. -/
namespace Dz
open PySem PySem.Spec L2 PyProof.Rows

section
variable {X : Cx}
def tyN (x : V) (H : Hp) : Prop := ∃ a hs es, x = .ref a ∧ H a = some (rawN a hs es)
theorem ty_N : TyOk X "dict" tyN := by
  intro pins σ H s x v I r ty
  obtain ⟨a, hs, es, rfl, e⟩ := ty
  cases r
  obtain ⟨⟨h1, h2, xs, h3, h4, o, ds, ep, g1, g2, g3, g4⟩, _, _⟩ := (show ObjOk X.prog X.w H s.heap a (rawN a hs es) from I.hok a _ e)
  refine ⟨⟨o, g1, g2.1⟩, fun b hb => ?_⟩
  cases hb
  exact ⟨o, g1, g2.2.1⟩
def rItemsN : V → List V → Hp → VK → Prop := fun x xs H Q => ∃ a hs es, x = .ref a ∧ xs = [] ∧ H a = some (rawN a hs es) ∧ ∀ p, H p = none → Q (.ref p) (upd H p (L2.DX.itemsO p a))
theorem mt_itemsN : MtR X "dict.items" rItemsN := by
  intro pins s σ H x xs v us Q I rx rxs h
  obtain ⟨a, hs, es, rfl, rfl, ha, q⟩ := h
  cases rx
  cases rxs
  obtain ⟨⟨_, hd, xs', h3, h4, o, ds, ep, ho, hx, hdat, _⟩, _, _⟩ := (show ObjOk X.prog X.w H s.heap a (rawN a hs es) from I.hok a _ ha)
  refine DT.callItems (es := ds) (ep := ep) hd ⟨o, ho, hx, hdat⟩ ?_
  have hf : H s.heap.objs.size = none := I.hok.fresh (Nat.le_refl _)
  exact ⟨.ref s.heap.objs.size, upd H s.heap.objs.size (L2.DX.itemsO s.heap.objs.size a), I.laid (t' := s.toks) (fun b u e => Heap.get?_push_of_some _ e) (Nat.le_refl _) (L2.DX.itemsO_ok (Heap.get?_push_size _ rfl)), rfl, q _ hf⟩
/-- a name of the module, as a constant -/
theorem pe_globE {x : Str} {v : V} {pos : Pos} (hg : Gl X x) (hm : ∃ u, X.mg x = some u ∧ RelV v u) (hd : (x == ("__debug__" : Str)) = false := by decide) : PE X (.Name x pos) (tC v) := by
  obtain ⟨u, hu, r⟩ := hm
  exact pe_glob hg hu r hd
abbrev hsW (w : World) : NestedKey → Int := fun k => k.hash w
/-- sorted(d.items()) -/
def wSortN (hs : NestedKey → Int) (wo : WE) : WE := fun ρ μ P => wo ρ μ fun x μ1 => match x with
  | .obj a => match μ1 a with
    | some (.dcN hs' kvs) => hs' = hs ∧ sortW (kvs.map itemN) μ1 P
    | _ => False
  | _ => False
variable {oe : Expr} {wo : WE} {p pos pos2 apos : Pos}
theorem d_sortN {k : Nat} (hr : Room k X.A) (hsm : ∃ o, X.base.get? sysModules = some o) (hg : Gl X "sorted") (hm : X.mg "sorted" = none) (ho : PE X oe (tD X.K wo)) (hc : X.calm = true := by rfl)
    (hbase : attributeBase oe "items" X.env (eval oe X.env) = eval oe X.env := by rfl) (hline : (apos.endLine == pos2.line) = true := by rfl)
    (hs2 : starEach [.Call (.Attribute oe "items" apos) [] [] pos2] X.env = [(false, eval (.Call (.Attribute oe "items" apos) [] [] pos2) X.env)] := by rfl) :
    PE X (.Call (.Name "sorted" p) [.Call (.Attribute oe "items" apos) [] [] pos2] [] pos) (tD X.K (wSortN (hsOf X) wo)) :=
  PE.imp (pe_callB (cr_sortN hr hsm hc) hg hm (by decide +kernel) (pa_cons (pe_mG0 ty_N PySem.F.plainAttrs_dict PySem.F.slot_dict_items PySem.F.type_dict_items mt_itemsN ho hbase hline) pa_nil hs2) (by decide) (by decide) hs2 rfl)
    fun σ H Q ⟨R, ρ, μ, P, a, w, k⟩ => ⟨R, ρ, μ, _, a, w, fun x μ1 v H1 p1 o1 s1 i1 => by
      cases i1 with
      | obj b =>
        have p1 : (match μ1 b with | some (.dcN hs' kvs) => hs' = hsOf X ∧ sortW (kvs.map itemN) μ1 P | _ => False) := p1
        split at p1
        case h_2 => exact p1.elim
        rename_i hs' kvs em
        obtain ⟨rfl, no, al, so, dp, sz, w⟩ := p1
        obtain ⟨es, hb, hk, hn, hkk, hv⟩ := o1.ob b _ em
        refine ⟨⟨b, _, es, rfl, hb⟩, b, _, es, rfl, rfl, hb, fun p hp => ?_⟩
        have o2 := o1.new (o := L2.DX.itemsO p b) hp
        have s2 := o1.sameNew (o := L2.DX.itemsO p b) hp
        have nb : b ≠ p := fun z => by subst z; rw [hp] at hb; cases hb
        refine ⟨p, b, hid R μ1 H1, es, kvs, rfl, upd_same, s2.trans hid_le, ⟨.inl (by rw [upd_ne nb]; exact hb), hk, hn⟩, hkk, hv, ⟨no, al, so, dp, sz⟩, fun H' ps l g hp' pm pw nl => ?_⟩
        obtain ⟨o3, s3⟩ := o2.grown g
        refine ((k.step s1).step (s2.trans s3)).lst o3 (w _ pm pw) (Iss.ofAll fun q hq => ?_) nl
        obtain ⟨c, oc, e, v, kk, y, h1, h2, h3, h4, h5, h6, h7⟩ := hp' q hq
        rw [h1, h2]
        have hc : hid R μ1 H' c = some (.frz oc (.tup [.ref e, v])) := by rw [hid_at (o2.freeR h3) (o2.freeM h3)]; exact h4
        have sm := s2.trans s3
        exact .tup (.inl ⟨oc, hc, h5⟩) (.cons (h6.mono sm) (.cons (h7.mono sm) .nil))
      | _ => exact (show False from p1).elim⟩
end
end Dz

set_option Elab.async false
set_option linter.all false
set_option maxRecDepth 100000
set_option maxHeartbeats 2000000
/-! DzH7: a def that leaves the objects as they were, dicts with tuple keys among the new ones. -/
namespace Dz
open PySem L2

/-- new lists and dicts aside, the same objects -/
def NewN (μ μ' : Mh) : Prop := ∀ b, μ' b = μ b ∨ (μ b = none ∧ ∃ o, μ' b = some o ∧ o ≠ .inner)
theorem NewN.refl {μ : Mh} : NewN μ μ := fun _ => .inl rfl
theorem NewN.upd {μ μ1 : Mh} {p : Addr} {o : MO} (h : NewN μ μ1) (n : μ p = none) (i : o ≠ .inner) : NewN μ (updM μ1 p o) := fun b => by
  by_cases e : b = p
  · subst e
    exact .inr ⟨n, o, updM_same, i⟩
  · rw [updM_ne e]
    exact h b
theorem NewN.del {μ μ1 : Mh} {p : Addr} (h : NewN μ μ1) (n : μ p = none) : NewN μ (delM μ1 p) := fun b => by
  by_cases e : b = p
  · subst e
    exact .inl (by rw [delM_same, n])
  · rw [delM_ne e]
    exact h b
theorem NewN.none {μ μ1 : Mh} {b : Addr} (h : NewN μ μ1) (n : μ1 b = none) : μ b = none := by
  rcases h b with e | ⟨e, _⟩
  · rw [← e]; exact n
  · exact e
theorem NewN.at {μ μ1 : Mh} {b : Addr} {o : MO} (h : NewN μ μ1) (n : μ b = some o) : μ1 b = some o := by
  rcases h b with e | ⟨e, _⟩
  · rw [e]; exact n
  · rw [n] at e; cases e
theorem NewN.trans {μ μ1 μ2 : Mh} (h : NewN μ μ1) (h2 : NewN μ1 μ2) : NewN μ μ2 := fun b => by
  rcases h2 b with e | ⟨e, o, e2, i⟩
  · rw [e]; exact h b
  · exact .inr ⟨h.none e, o, e2, i⟩
theorem Ok.restrictN {K : PySem.W.Frag} {R : Hp} {μ μ' : Mh} {H : Hp} (k : Ok K R μ' H) (n : NewN μ μ') : Ok K R μ H ∧ Same (hid R μ' H) (hid R μ H) := by
  have hs : Same (hid R μ' H) (hid R μ H) := fun b u e => by
    obtain ⟨e1, e2, e3⟩ := hid_some e
    rw [hid_at e1 (n.none e2)]
    exact e3
  refine ⟨⟨k.fr, fun b o e => n.none (k.dj b o e), fun b u e => ?_⟩, hs⟩
  have e' : μ' b = some u := n.at e
  refine (k.ob b u e').mono hs rfl (fun _ _ => rfl) e' (fun c q => ?_)
  rcases n c with z | ⟨_, o, z, i⟩
  · rw [← z]; exact q
  · rw [z] at q; cases q; exact (i rfl).elim
def wPureN (w : WS) : WS := fun E ρ μ => w { nx := fun ρ' μ' => NewN μ μ' ∧ E.nx ρ' μ, rt := fun d μ' => NewN μ μ' ∧ E.rt d μ } ρ μ
theorem dss_pureN {X : Cx} {body : List Stmt} {w : WS} (h : PSs X body (tDS X.K w)) : PSs X body (tDS X.K (wPureN w)) :=
  PSs.imp h fun D σ H ⟨R, ρ, μ, E, a, w, k⟩ => ⟨R, ρ, μ, _, a, w, {
    nx := fun ρ' μ' σ' H' p a' s' => by
      obtain ⟨o2, s2⟩ := a'.ok.restrictN p.1
      exact k.nx ρ' μ σ' H' p.2 ⟨o2, a'.sl.mono s2⟩ (s'.trans s2)
    rt := fun d μ' v H' p o' s' i => by
      obtain ⟨o2, s2⟩ := o'.restrictN p.1
      exact k.rt d μ v H' p.2 o2 (s'.trans s2) (i.mono s2)
    bk := fun _ _ _ _ p => p.elim
    ct := fun _ _ _ _ p => p.elim }⟩
end Dz

set_option Elab.async false
set_option linter.all false
set_option maxRecDepth 100000
set_option maxHeartbeats 2000000
/-! DzH8: {k: v} whose key is a tuple. -/
namespace Dz
open PySem PySem.Spec L2 PyProof.Rows

/-- a framed thing becomes an object -/
theorem Ok.unframeG {K : PySem.W.Frag} {R : Hp} {μ : Mh} {H : Hp} {D : Addr} {o : HO} {m : MO} (k : Ok K (upd R D o) μ H) (n : R D = none) (hm' : MOk K (hid (upd R D o) μ H) H (updM μ D m) D m) :
    Ok K R (updM μ D m) H ∧ hid R (updM μ D m) H = hid (upd R D o) μ H := by
  have hm : μ D = none := k.dj D _ upd_same
  have e : hid R (updM μ D m) H = hid (upd R D o) μ H := by
    funext b
    by_cases z : b = D
    · subst z
      have h1 : hid (upd R b o) μ H b = none := by
        unfold hid
        rw [if_neg fun q => by rw [upd_same] at q; exact Bool.false_ne_true q.1]
      have h2 : hid R (updM μ b m) H b = none := by
        unfold hid
        rw [if_neg fun q => by rw [updM_same] at q; exact Bool.false_ne_true q.2]
      rw [h1, h2]
    · unfold hid
      rw [upd_ne z, updM_ne z]
  refine ⟨⟨fun a u h => ?_, fun a u h => ?_, fun a u h => ?_⟩, e⟩
  · exact k.fr a u (by rw [upd_ne fun z => by subst z; rw [n] at h; cases h]; exact h)
  · have z : a ≠ D := fun z => by subst z; rw [n] at h; cases h
    rw [updM_ne z]
    exact k.dj a u (by rw [upd_ne z]; exact h)
  · rw [e]
    by_cases z : a = D
    · subst z
      rw [updM_same] at h
      cases h
      exact hm'
    · rw [updM_ne z] at h
      exact (k.ob a u h).mono (Same.refl _) rfl (fun _ _ => rfl) h fun c q => by
        rw [updM_ne fun w => by subst w; rw [hm] at q; cases q]
        exact q
section
variable {X : Cx} {pos : Pos} {kx vx : Expr} {tk tv : TE} {wk wv : WE}
def disp1Q (X : Cx) (p : Addr) (Q : VK) : List (V × V) → Hp → Prop := fun ps H2 => ∃ y b k d Hm, ps = [(.ref b, y)] ∧ Same Hm H2 ∧ Is X.K Hm (.ref b) d ∧ nkey d = some k ∧ k.depth ≤ 8 ∧ H2 p = some (rawN p (hsOf X) []) ∧
  Q (.ref p) (upd H2 p (rawN p (hsOf X) [(k, b, y)]))
def tDisp1N (X : Cx) (tk tv : TE) : TE := fun σ H Q => ∀ p, H p = none → tPairs [(tk, tv)] σ (upd H p (rawN p (hsOf X) [])) (disp1Q X p Q)
theorem pe_disp1N (hu : X.A.units + 8 < cLine) (hk : PE X kx tk) (hv : PE X vx tv) : PE X (.Dict [some kx] [vx] pos) (tDisp1N X tk tv) := by
  refine ⟨fun pins s σ H Q I h => ?_⟩
  have I1 := I.laid (a := s.heap.objs.size) (o := rawN s.heap.objs.size (hsOf X) []) (h' := s.heap.push { cls := .type "dict", data := .dict #[] }) (t' := s.toks) (fun _ _ q => Heap.get?_push_of_some _ q) (Nat.le_refl _)
    ⟨⟨Nat.zero_le _, beq_false_of_ne (Nat.ne_of_gt I.big), [], rfl, .nil, _, #[], 0, Heap.get?_push_size _ rfl, ⟨rfl, rfl, rfl⟩, rfl, rfl⟩, ⟨_, Heap.get?_push_size _ rfl⟩, by
      rintro h1 h2' ⟨z1, z2, xs', z3, z4, o, ds', ep', z5, z6⟩ keep
      exact ⟨z1, z2, xs', z3, z4, o, ds', ep', keep o z5, z6⟩⟩
  have q := h s.heap.objs.size (I.hok.fresh (Nat.le_refl _))
  refine wpAny_Dict_any rfl rfl (by simp) (Nat.le_of_ble_eq_true rfl) (thn ((pps_cons hk hv pps_nil).run pins _ σ _ _ I1 q) fun vs s2 ⟨ps, H2, I2, rel, hq⟩ => ?_)
  obtain ⟨y, b, k, d, Hm, rfl, sm, ik, nk, hd, hp, q2⟩ := hq
  cases rel with
  | @cons pa pb as bs hr t =>
    cases t
    obtain ⟨u1, u2⟩ := pb
    obtain ⟨r1, r2⟩ := hr
    obtain rfl := (show u1 = Value.ref b from r1)
    have n : NDict X.K (hsOf X) Hm H2 s.heap.objs.size [] := ⟨.inl hp, fun e he => (by cases he), .nil⟩
    obtain ⟨_, hsys, xs, hx, dd⟩ := n.dict I2 sm
    have hxs : xs = [] := by
      have := congrArg List.length hx.1
      rw [List.length_map] at this
      exact List.eq_nil_of_length_eq_zero this
    subst hxs
    unfold storeAll
    rw [List.forIn_cons]
    refine wpAny_bind (wpAny_bind (wpAny_dictSet_heap (knd := KN X) (hsz := Nat.zero_le _) hu ⟨nkey_is I2 sm ik nk rfl, hd⟩ dd fun h' dd' hs => wpAny_pure ?_))
    dsimp only
    rw [List.forIn_nil]
    refine wpAny_pure ⟨.ref s.heap.objs.size, _, ?_, rfl, q2⟩
    obtain ⟨q, ds, ep, hq, h2, h3, h4, _, h5⟩ := dd'
    refine d_write I2 (by rw [hp]; exact True.intro) hs ⟨q, hq⟩ ⟨⟨?_, hsys, [(k, b, u2)], rfl, .cons r2 .nil, q, ds, ep, hq, h2, h3, h4⟩, ⟨q, hq⟩, ?_⟩
    · rw [sizeLine_eq]
      show 1 ≤ 16777216
      omega
    · rintro h1 h2' ⟨z1, z2, xs', z3, z4, o, ds', ep', z5, z6⟩ keep
      exact ⟨z1, z2, xs', z3, z4, o, ds', ep', keep o z5, z6⟩
/-- {k: v}: k a tuple -/
def wDctN1 (hs : NestedKey → Int) (wk wv : WE) : WE := fun ρ μ P => wk ρ μ fun y μ1 => wv ρ μ1 fun v μ2 => keyN y fun k => ∀ p, μ2 p = none → P (.obj p) (updM μ2 p (.dcN hs [(k, v)]))
theorem d_dctN1 {j : Nat} (hr : Room j X.A) (hk : PE X kx (tD X.K wk)) (hv : PE X vx (tD X.K wv)) : PE X (.Dict [some kx] [vx] pos) (tD X.K (wDctN1 (hsOf X) wk wv)) :=
  PE.imp (pe_disp1N (by have := hr.un; omega) hk hv) fun σ H Q ⟨R, ρ, μ, P, a, w, k⟩ => fun p n => by
    obtain ⟨o1, e1⟩ := a.ok.frame (o := rawN p (hsOf X) []) n
    refine ⟨upd R p (rawN p (hsOf X) []), ρ, μ, _, ⟨o1, by rw [e1]; exact a.sl⟩, w, fun y μ1 kv H1 p1 o2 s2 i2 => ⟨upd R p (rawN p (hsOf X) []), ρ, μ1, _, ⟨o2, (by rw [e1] at s2; exact a.sl.mono s2)⟩, p1, fun v μ2 vv H2 p2 o3 s3 i3 => ?_⟩⟩
    have p2 : keyN y fun k => ∀ p, μ2 p = none → P (.obj p) (updM μ2 p (.dcN (hsOf X) [(k, v)])) := p2
    obtain ⟨b, kk, rfl, nk, hd, w2⟩ := keyN_of (i2.mono s3) p2
    have mp : μ2 p = none := o3.dj p _ upd_same
    refine ⟨vv, b, kk, y, hid (upd R p (rawN p (hsOf X) [])) μ2 H2, rfl, hid_le, i2.mono s3, nk, hd, o3.fr p _ upd_same, ?_⟩
    obtain ⟨o4, e4⟩ := o3.reframe (o' := rawN p (hsOf X) [(kk, b, vv)])
    obtain ⟨o5, e5⟩ := o4.unframeG (m := .dcN (hsOf X) [(kk, v)]) (a.ok.freeR n) ⟨[(kk, b, vv)], upd_same, fun e he => by
      rw [List.mem_singleton] at he
      rw [he, e4]
      exact ⟨hd, y, i2.mono s3, nk⟩, List.pairwise_singleton _ _, rfl, by rw [e4]; exact .cons i3 .nil⟩
    rw [e1] at s2
    exact k _ _ _ _ (w2 p mp) o5 (by rw [e5, e4]; exact s2.trans s3) (.obj p)
end
end Dz

set_option Elab.async false
set_option linter.all false
set_option maxRecDepth 100000
set_option maxHeartbeats 2000000
/-! DzF1: dicts with keys of any depth that change no more, as plain data. -/
namespace Dz
open PySem PySem.Spec L2 PyProof.Rows

mutual
theorem nkey_of : ∀ k : NestedKey, nkey (kd k) = some k
  | .none => rfl
  | .num _ => rfl
  | .text _ => rfl
  | .tup ks => by
    show (nkeys (kds ks)).map NestedKey.tup = _
    rw [nkeys_of ks]
    rfl
theorem nkeys_of : ∀ ks : List NestedKey, nkeys (kds ks) = some ks
  | [] => rfl
  | k :: ks => by
    show (match nkey (kd k), nkeys (kds ks) with | some k, some ks => some (k :: ks) | _, _ => none) = _
    rw [nkey_of k, nkeys_of ks]
end
theorem kd_inj {k k' : NestedKey} (h : kd k = kd k') : k = k' := Option.some.inj ((nkey_of k).symm.trans ((congrArg nkey h).trans (nkey_of k')))
/-- the dict as data -/
def dnD (hs : NestedKey → Int) (kvs : List (NestedKey × DV)) : DV := .dn hs (kvs.map fun e => kd e.1) (kvs.map (·.2))
theorem nkeys_map {K : PySem.W.Frag} {Hm : Hp} : ∀ {es : List (NestedKey × Addr × V)}, (∀ e ∈ es, e.1.depth ≤ 8 ∧ ∃ d, Is K Hm (.ref e.2.1) d ∧ nkey d = some e.1) → nkeys (es.map fun e => kd e.1) = some (es.map (·.1)) ∧ Iss K Hm (es.map fun e => .ref e.2.1) (es.map fun e => kd e.1)
  | [], _ => ⟨rfl, .nil⟩
  | e :: es, h => by
    obtain ⟨_, d, i, nk⟩ := h e List.mem_cons_self
    have ed := nkey_kd d e.1 nk
    subst ed
    obtain ⟨h1, h2⟩ := nkeys_map fun z hz => h z (List.mem_cons_of_mem _ hz)
    refine ⟨?_, .cons i h2⟩
    show (match nkey (kd e.1), nkeys (es.map fun e => kd e.1) with | some k, some ks => some (k :: ks) | _, _ => none) = _
    rw [nk, h1]
    rfl
theorem keys_map {es : List (NestedKey × Addr × V)} {kvs : List (NestedKey × DV)} (h : es.map (·.1) = kvs.map (·.1)) : (es.map fun e => kd e.1) = kvs.map fun e => kd e.1 := by
  have := congrArg (List.map kd) h
  rw [List.map_map, List.map_map] at this
  exact this
/-- an object that changes no more: from here on the very object stands -/
theorem Ok.frzN {K : PySem.W.Frag} {R : Hp} {μ : Mh} {H : Hp} {a : Addr} {hs : NestedKey → Int} {kvs : List (NestedKey × DV)} (o : Ok K R μ H) (e : μ a = some (.dcN hs kvs)) : ∃ es, H a = some (rawN a hs es) ∧ ∀ od,
    Ok K R (delM μ a) (upd H a (.frz od (rawN a hs es))) ∧ Same (hid R μ H) (hid R (delM μ a) (upd H a (.frz od (rawN a hs es)))) ∧ Is K (hid R (delM μ a) (upd H a (.frz od (rawN a hs es)))) (.ref a) (dnD hs kvs) := by
  obtain ⟨es, h1, h2, h3, h4, h5⟩ := o.ob a _ e
  refine ⟨es, h1, fun od => ?_⟩
  have ra : R a = none := by
    cases q : R a with
    | none => rfl
    | some u => rw [o.dj a u q] at e; cases e
  have hsm : Same (hid R μ H) (hid R (delM μ a) (upd H a (.frz od (rawN a hs es)))) := fun b u q => by
    obtain ⟨q1, q2, q3⟩ := hid_some q
    have ne : b ≠ a := fun z => by subst z; rw [e] at q2; cases q2
    rw [hid_at q1 (by rw [delM_ne ne]; exact q2), upd_ne ne]
    exact q3
  obtain ⟨n1, n2⟩ := nkeys_map h2
  rw [keys_map h4] at n1 n2
  refine ⟨⟨fun b u q => ?_, fun b u q => ?_, fun b u q => ?_⟩, hsm, .dn ((hid_at ra delM_same).trans upd_same) n1 (fun e he => (h2 e he).1) h3 (n2.mono hsm) (h5.mono hsm)⟩
  · rw [upd_ne fun z => by subst z; rw [ra] at q; cases q]
    exact o.fr b u q
  · have := o.dj b u q
    unfold delM
    split
    · rfl
    · exact this
  · have ne : b ≠ a := fun z => by subst z; rw [delM_same] at q; cases q
    rw [delM_ne ne] at q
    refine (o.ob b u q).mono hsm (upd_ne ne) (fun c hc => ?_) q (fun c w => ?_)
    · refine upd_ne fun z => ?_
      subst z
      rw [q] at hc
      cases u with
      | ext near φ =>
        have := (o.ob b _ q).2.2.1 c hc
        rw [e] at this
        cases this
      | _ => cases hc
    · rw [delM_ne fun z => by subst z; rw [e] at w; cases w]
      exact w
theorem pss_lockA {X : Cx} {body : List Stmt} {t : TS} (h : PSs X body t) : PSs X body (fun D σ H => ∃ a u, H a = some u ∧ Mut (some u) ∧ ∀ od, t D σ (upd H a (.frz od u))) := ⟨fun pins s σ H D I ⟨_, _, hu, mu, q⟩ =>
  let ⟨od, I2⟩ := I.lock hu mu
  h.run pins s σ _ D I2 (q od)⟩
theorem pe_lockA {X : Cx} {e : Expr} {t : TE} (h : PE X e t) : PE X e (fun σ H Q => t σ H fun v H1 => Q v H1 ∨ ∃ a u, v = .ref a ∧ H1 a = some u ∧ Mut (some u) ∧ ∀ od, Q v (upd H1 a (.frz od u))) := ⟨fun pins s σ H Q I w =>
  thn (h.run pins s σ H _ I w) fun u s1 ⟨x, H1, I1, r, q⟩ => by
    rcases q with q | ⟨a, o, rfl, hu, mu, q⟩
    · exact ⟨x, H1, I1, r, q⟩
    · obtain ⟨od, I2⟩ := I1.lock hu mu
      exact ⟨_, _, I2, r, q od⟩⟩
/-- the rest of a block, slot i's dict plain data from here on -/
def wFrzNV (i : Nat) (w : WS) : WS := fun E ρ μ => match ρ[i]? with
  | some (some (.obj a)) => match μ a with
    | some (.dcN hs kvs) => w E (ρ.set i (some (dnD hs kvs))) (delM μ a)
    | _ => False
  | _ => False
theorem dss_frzNV {X : Cx} {body : List Stmt} {w : WS} (i : Nat) (h : PSs X body (tDS X.K w)) : PSs X body (tDS X.K (wFrzNV i w)) :=
  PSs.imp (pss_lockA h) fun D σ H ⟨R, ρ, μ, E, a, w0, k⟩ => by
    unfold wFrzNV at w0
    split at w0
    · rename_i b eb
      split at w0
      · rename_i hs kvs e
        obtain ⟨es, h1, q⟩ := a.ok.frzN e
        obtain ⟨v, hv, iv⟩ := a.sl.at_ i _ eb
        cases iv
        refine ⟨b, _, h1, True.intro, fun od => ?_⟩
        obtain ⟨o2, s2, i2⟩ := q od
        exact ⟨R, _, _, E, ⟨o2, (a.sl.mono s2).reset hv i2⟩, w0, k.step s2⟩
      · exact w0.elim
    · exact w0.elim
/-- e, a dict that changes no more (or any other value) -/
def wFrzN (w : WE) : WE := fun ρ μ P => w ρ μ fun d μ1 => match d with
  | .obj a => match μ1 a with
    | some (.dcN hs kvs) => P (dnD hs kvs) (delM μ1 a)
    | _ => False
  | d => P d μ1
theorem d_frzN {X : Cx} {e : Expr} {w : WE} (h : PE X e (tD X.K w)) : PE X e (tD X.K (wFrzN w)) :=
  PE.imp (pe_lockA h) fun σ H Q ⟨R, ρ, μ, P, a, w, k⟩ => ⟨R, ρ, μ, _, a, w, fun x μ1 v H1 p1 o1 s1 i1 => by
    by_cases z : ∃ b, x = .obj b
    · obtain ⟨b, rfl⟩ := z
      have p2 : (match μ1 b with | some (.dcN hs kvs) => P (dnD hs kvs) (delM μ1 b) | _ => False) := p1
      split at p2
      · rename_i hs kvs e
        cases i1
        obtain ⟨es, h1, q⟩ := o1.frzN e
        refine .inr ⟨b, _, rfl, h1, True.intro, fun od => ?_⟩
        obtain ⟨o2, s2, i2⟩ := q od
        exact k _ _ _ _ p2 o2 (s1.trans s2) i2
      · exact p2.elim
    · have p2 : P x μ1 := by
        cases x with
        | obj b => exact absurd ⟨b, rfl⟩ z
        | _ => exact p1
      exact .inl (k _ _ _ _ p2 o1 s1 i1)⟩

/-! ### reading -/
theorem ndict_of {K : PySem.W.Frag} {Hm H : Hp} {v : V} {hs : NestedKey → Int} {kvs : List (NestedKey × DV)} (sm : Same Hm H) (i : Is K Hm v (dnD hs kvs)) : ∃ a es, v = .ref a ∧ NDict K hs Hm H a es ∧ es.map (·.1) = kvs.map (·.1) ∧ Iss K Hm (es.map (·.2.2)) (kvs.map (·.2)) := by
  generalize hd : dnD hs kvs = d at i
  cases i with
  | @dn a ob hs' es ks vs h1 n dp nd r r2 =>
    unfold dnD at hd
    injection hd with e0 e1 e2
    subst e0 e1 e2
    have ek := nkeys_kd _ _ n
    have hk : es.map (·.1) = kvs.map (·.1) := by
      have go : ∀ (xs : List (NestedKey × DV)) (ks : List NestedKey), (xs.map fun e => kd e.1) = kds ks → ks = xs.map (·.1) := by
        intro xs
        induction xs with
        | nil =>
          intro ks h
          cases ks with
          | nil => rfl
          | cons k ks => cases h
        | cons x xs ih =>
          intro ks h
          cases ks with
          | nil => cases h
          | cons k ks =>
            injection h with h1 h2
            rw [ih ks h2, List.map_cons, kd_inj h1]
      exact go kvs _ ek
    refine ⟨a, es, rfl, ⟨.inr ⟨_, sm _ _ h1⟩, fun e he => ?_, nd⟩, hk, r2⟩
    have km : ∀ {es : List (NestedKey × Addr × V)} {ks : List DV}, nkeys ks = some (es.map (·.1)) → Iss K Hm (es.map fun e => .ref e.2.1) ks → ∀ e ∈ es, ∃ d, Is K Hm (.ref e.2.1) d ∧ nkey d = some e.1 := by
      intro es
      induction es with
      | nil => intro ks _ _ e he; cases he
      | cons x xs ih =>
        intro ks hn hr e he
        cases hr with
        | @cons _ _ d ds r1 rr =>
          have hn : (match nkey d, nkeys ds with | some k, some ks => some (k :: ks) | _, _ => none) = some (x.1 :: xs.map (·.1)) := hn
          cases e1 : nkey d with
          | none => rw [e1] at hn; cases hn
          | some k =>
            cases e2 : nkeys ds with
            | none => rw [e1, e2] at hn; cases hn
            | some l =>
              rw [e1, e2] at hn
              injection hn with hn
              injection hn with h1 h2
              rcases List.mem_cons.mp he with he | he
              · rw [he]
                exact ⟨d, r1, by rw [e1, h1]⟩
              · exact ih (by rw [e2, h2]) rr e he
    exact ⟨dp e he, km n r e he⟩
  | _ => cases hd
end Dz

set_option Elab.async false
set_option linter.all false
set_option maxRecDepth 100000
set_option maxHeartbeats 2000000
/-! DzF2: reading dicts with keys of any depth: d[k], k in d, d.get(k), d.get(k, x). -/
namespace Dz
open PySem PySem.Spec L2 PyProof.Rows

/-- x is such a dict (one that may change, or data) -/
def nDct (hs : NestedKey → Int) (μ : Mh) (x : DV) (T : List (NestedKey × DV) → Prop) : Prop := match x with
  | .obj a => match μ a with
    | some (.dcN hs' kvs) => hs' = hs ∧ T kvs
    | _ => False
  | .dn hs' ks vs => ∃ kvs, dnD hs kvs = .dn hs' ks vs ∧ T kvs
  | _ => False
theorem nDct_of {K : PySem.W.Frag} {hs : NestedKey → Int} {R : Hp} {μ : Mh} {H : Hp} {v : V} {x : DV} {T : List (NestedKey × DV) → Prop} (o : Ok K R μ H) (i : Is K (hid R μ H) v x) (w : nDct hs μ x T) :
    ∃ a es kvs, v = .ref a ∧ NDict K hs (hid R μ H) H a es ∧ es.map (·.1) = kvs.map (·.1) ∧ Iss K (hid R μ H) (es.map (·.2.2)) (kvs.map (·.2)) ∧ T kvs := by
  by_cases z : ∃ b, x = .obj b
  · obtain ⟨b, rfl⟩ := z
    cases i
    have w2 : (match μ b with | some (.dcN hs' kvs) => hs' = hs ∧ T kvs | _ => False) := w
    split at w2
    · rename_i hs' kvs e
      obtain ⟨e0, t⟩ := w2
      subst e0
      obtain ⟨es, h1, h2, h3, h4, h5⟩ := o.ob b _ e
      exact ⟨b, es, kvs, rfl, ⟨.inl h1, h2, h3⟩, h4, h5, t⟩
    · exact w2.elim
  · cases x with
    | obj b => exact absurd ⟨b, rfl⟩ z
    | dn hs' ks vs =>
      obtain ⟨kvs, e, t⟩ := (show ∃ kvs, dnD hs kvs = .dn hs' ks vs ∧ T kvs from w)
      rw [← e] at i
      obtain ⟨a, es, rfl, n, h4, h5⟩ := ndict_of hid_le i
      exact ⟨a, es, kvs, rfl, n, h4, h5, t⟩
    | _ => exact (show False from w).elim
def nAtA (hs : NestedKey → Int) (μ : Mh) (x y : DV) (T : List (NestedKey × DV) → NestedKey → Prop) : Prop := nDct hs μ x fun kvs => keyN y fun k => T kvs k
theorem nAtA_of {K : PySem.W.Frag} {hs : NestedKey → Int} {R : Hp} {μ : Mh} {H : Hp} {v u : V} {x y : DV} {T : List (NestedKey × DV) → NestedKey → Prop} (o : Ok K R μ H) (i : Is K (hid R μ H) v x) (j : Is K (hid R μ H) u y) (w : nAtA hs μ x y T) :
    ∃ a b es kvs k, v = .ref a ∧ u = .ref b ∧ NDict K hs (hid R μ H) H a es ∧ es.map (·.1) = kvs.map (·.1) ∧ Iss K (hid R μ H) (es.map (·.2.2)) (kvs.map (·.2)) ∧ nkey y = some k ∧ k.depth ≤ 8 ∧ T kvs k := by
  obtain ⟨a, es, kvs, rfl, n, h4, h5, w2⟩ := nDct_of o i w
  obtain ⟨b, k, rfl, nk, hk, t⟩ := keyN_of j w2
  exact ⟨a, b, es, kvs, k, rfl, rfl, n, h4, h5, nk, hk, t⟩
/-- d[k]: there -/
def wNGetA (hs : NestedKey → Int) : W2 := fun x y μ P => nAtA hs μ x y fun kvs k => atW (lkN kvs k) fun d => P d μ
def wInA (hs : NestedKey → Int) : W2 := fun y x μ P => nAtA hs μ x y fun kvs k => P (.bool (lkN kvs k).isSome) μ
def wNotInA (hs : NestedKey → Int) : W2 := fun y x μ P => nAtA hs μ x y fun kvs k => P (.bool (!(lkN kvs k).isSome)) μ
section
variable {X : Cx} {oe ke ve e f : Expr} {pos apos cpos : Pos} {wo wk wv we wx : WE} {o i value : Expr} {td ty tx : TE} {a b : Expr} {wa wb : WE}
theorem d_ngetA {k : Nat} (hr : Room k X.A) (ho : PE X oe (tD X.K wo)) (hi : PE X ke (tD X.K wk)) (hs : NoSl ke := by exact fun _ _ => rfl) : PE X (.Subscript oe ke pos) (tD X.K (wBin (wNGetA (hsOf X)) wo wk)) :=
  PE.imp (pe_nget (by have := hr.un; omega) ho hi hs) fun σ H Q ⟨R, ρ, μ, P, a, w, k⟩ => ⟨R, ρ, μ, _, a, w, fun x μ1 v H1 p1 o1 s1 i1 => ⟨R, ρ, μ1, _, a.step o1 s1, p1, fun y μ2 u H2 p2 o2 s2 i2 => by
    obtain ⟨a', b, es, kvs, key, rfl, rfl, n, h4, h5, nk, hk, t⟩ := nAtA_of o2 (i1.mono s2) i2 p2
    obtain ⟨d, h6, p3⟩ := atW_of t
    rcases lk_rel (k := key) h4 h5 with ⟨_, z⟩ | ⟨vv, dd, z1, z2, iv⟩
    · rw [z] at h6; cases h6
    · rw [z2] at h6
      cases h6
      exact ⟨a', b, _, es, y, key, rfl, rfl, hid_le, n, i2, nk, hk, vv, z1, (k.step (s1.trans s2)).val o2 p3 iv⟩⟩⟩
theorem lk_some {K : PySem.W.Frag} {Hm : Hp} {k : NestedKey} {es : List (NestedKey × Addr × V)} {kvs : List (NestedKey × DV)} (h4 : es.map (·.1) = kvs.map (·.1)) (h5 : Iss K Hm (es.map (·.2.2)) (kvs.map (·.2))) : (lkE es k).isSome = (lkN kvs k).isSome := by
  rcases lk_rel (k := k) h4 h5 with ⟨h1, h2⟩ | ⟨_, _, h1, h2, _⟩ <;> rw [h1, h2] <;> rfl
theorem inA_rd : R2D X.K (fun y x H Q => NHas X H x y fun _ _ es k => Q (.bl (lkE es k).isSome) H) (wInA (hsOf X)) := by
  intro R μ H y x dy dx P Q ok iy ix w k
  obtain ⟨a', b, es, kvs, key, rfl, rfl, n, h4, h5, nk, hk, t⟩ := nAtA_of ok ix iy w
  exact ⟨a', b, _, es, dy, key, rfl, rfl, hid_le, n, iy, nk, hk, by
    show Q (.bl (lkE es key).isSome) H
    rw [lk_some h4 h5]
    exact k.val ok t (.bool _)⟩
theorem notInA_rd : R2D X.K (fun y x H Q => NHas X H x y fun _ _ es k => Q (.bl (!(lkE es k).isSome)) H) (wNotInA (hsOf X)) := by
  intro R μ H y x dy dx P Q ok iy ix w k
  obtain ⟨a', b, es, kvs, key, rfl, rfl, n, h4, h5, nk, hk, t⟩ := nAtA_of ok ix iy w
  exact ⟨a', b, _, es, dy, key, rfl, rfl, hid_le, n, iy, nk, hk, by
    show Q (.bl (!(lkE es key).isSome)) H
    rw [lk_some h4 h5]
    exact k.val ok t (.bool _)⟩
theorem t_inA {k : Nat} (hr : Room k X.A) (ha : PE X a (tD X.K wa)) (hb : PE X b (tD X.K wb)) (hm : behindInMarks .In b = false) : PT X (.Compare a [.In] [b] pos) (tDT X.K (wTest (wBin (wInA (hsOf X)) wa wb))) := dt_cmp (op_inN (by have := hr.un; omega)) inA_rd ha hb hm
theorem t_notinA {k : Nat} (hr : Room k X.A) (ha : PE X a (tD X.K wa)) (hb : PE X b (tD X.K wb)) (hm : behindInMarks .NotIn b = false) : PT X (.Compare a [.NotIn] [b] pos) (tDT X.K (wTest (wBin (wNotInA (hsOf X)) wa wb))) := dt_cmp (op_notInN (by have := hr.un; omega)) notInA_rd ha hb hm

/-! ### d.get -/
theorem ndict_ty {pins : List (Addr × Obj)} {σ : L2.St} {H Hm : Hp} {s : Shared} {a : Addr} {es : List (NestedKey × Addr × V)} (n : NDict X.K (hsOf X) Hm H a es) (I : Inv X pins σ H s) : s.TypeIs (.ref a) "dict" ∧ ∀ b, Value.ref a = .ref b → ∃ ob, s.heap.get? b = some ob ∧ ob.dict = none := by
  obtain ⟨⟨_, _, _, _, _, o, ds, ep, g1, g2, _, _⟩, _, _⟩ := (show ObjOk X.prog X.w H s.heap a (rawN a (hsOf X) es) from n.at_.ok I.hok)
  refine ⟨⟨o, g1, g2.1⟩, fun b e => ?_⟩
  cases e
  exact ⟨o, g1, g2.2.1⟩
def tNGet1 (X : Cx) (td ty : TE) : TE := fun σ H Q => td σ H fun x H1 => ∃ a Hm es, x = .ref a ∧ NDict X.K (hsOf X) Hm H1 a es ∧ ty σ H1 fun y H2 => NHas X H2 (.ref a) y fun _ _ es k => Q ((lkE es k).getD .non) H2
def tNGet2 (X : Cx) (td ty tx : TE) : TE := fun σ H Q => td σ H fun x H1 => ∃ a Hm es, x = .ref a ∧ NDict X.K (hsOf X) Hm H1 a es ∧ ty σ H1 fun y H2 => tx σ H2 fun z H3 => NHas X H3 (.ref a) y fun _ _ es k => Q ((lkE es k).getD z) H3
theorem relO_getD {ov : Option V} {ou : Option Value} {z : V} {u : Value} (r : RelO ov ou) (rz : RelV z u) : RelV (ov.getD z) (ou.getD u) := by
  cases ov <;> cases ou <;> first | exact rz | exact r | exact r.elim
theorem pe_nget1 (hu : X.A.units + 9 < cLine) (ho : PE X o td) (he : PE X e ty) (m : M1 X o "get" apos e cpos) : PE X (.Call (.Attribute o "get" apos) [e] [] cpos) (tNGet1 X td ty) := by
  refine ⟨fun pins s σ H Q I h => ?_⟩
  refine wpAny_Call_method m.base m.few m.line PySem.F.plainAttrs_dict PySem.F.slot_dict_get PySem.F.type_dict_get (thn (ho.run pins s σ H _ I h) fun u s1 ⟨x, H1, I1, rx, a, Hm, es, ex, n, q1⟩ => ?_)
  subst ex
  obtain rfl : u = Value.ref a := rx
  obtain ⟨t1, t2⟩ := ndict_ty n I1
  obtain ⟨⟨_, hd, _⟩, _⟩ := (show ObjOk X.prog X.w H1 s1.heap a (rawN a (hsOf X) es) from n.at_.ok I1.hok)
  refine ⟨t1, t2, ?_⟩
  rw [m.trees]
  refine wpAny_dict_get1_heap (knd := KN X) (by show X.A.units + 1 + 8 < _; omega) hd (thn (he.run pins s1 σ H1 _ I1 q1) fun kv s2 ⟨y, H2, I2, ry, a', b, Hm2, es2, d, k, ea, ey, sm, n2, ik, nk, hk, q2⟩ => ?_)
  cases ea
  subst ey
  obtain rfl : kv = Value.ref b := ry
  obtain ⟨_, _, xs, hx, dd⟩ := n2.dict I2 sm
  exact ⟨b, k, xs, rfl, ⟨nkey_is I2 sm ik nk rfl, hk⟩, dd, ⟨_, H2, I2.tok _, relO_getD (z := .non) (hx.at (k := k)) rfl, q2⟩⟩
theorem pe_nget2 (hu : X.A.units + 9 < cLine) (ho : PE X o td) (he : PE X e ty) (hf : PE X f tx) (m : M2 X o "get" apos e f cpos) : PE X (.Call (.Attribute o "get" apos) [e, f] [] cpos) (tNGet2 X td ty tx) := by
  refine ⟨fun pins s σ H Q I h => ?_⟩
  refine wpAny_Call_method m.base m.few m.line PySem.F.plainAttrs_dict PySem.F.slot_dict_get PySem.F.type_dict_get (thn (ho.run pins s σ H _ I h) fun u s1 ⟨x, H1, I1, rx, a, Hm, es, ex, n, q1⟩ => ?_)
  subst ex
  obtain rfl : u = Value.ref a := rx
  obtain ⟨t1, t2⟩ := ndict_ty n I1
  obtain ⟨⟨_, hd, _⟩, _⟩ := (show ObjOk X.prog X.w H1 s1.heap a (rawN a (hsOf X) es) from n.at_.ok I1.hok)
  refine ⟨t1, t2, ?_⟩
  rw [m.trees]
  refine wpAny_dict_get2_heap (knd := KN X) (by show X.A.units + 1 + 8 < _; omega) hd (thn (he.run pins s1 σ H1 _ I1 q1) fun kv s2 ⟨y, H2, I2, ry, q2⟩ => thn (hf.run pins s2 σ H2 _ I2 q2) fun fv s3 ⟨z, H3, I3, rz, a', b, Hm2, es2, d, k, ea, ey, sm, n2, ik, nk, hk, q3⟩ => ?_)
  cases ea
  subst ey
  obtain rfl : kv = Value.ref b := ry
  obtain ⟨_, _, xs, hx, dd⟩ := n2.dict I3 sm
  exact ⟨b, k, xs, rfl, ⟨nkey_is I3 sm ik nk rfl, hk⟩, dd, ⟨_, H3, I3.tok _, relO_getD (hx.at (k := k)) rz, q3⟩⟩
def wNGet1 (hs : NestedKey → Int) (wd wk : WE) : WE := fun ρ μ P => wd ρ μ fun x μ1 => nDct hs μ1 x (fun _ => True) ∧ wk ρ μ1 fun y μ2 => nAtA hs μ2 x y fun kvs k => P ((lkN kvs k).getD .none) μ2
def wNGet2 (hs : NestedKey → Int) (wd wk wx : WE) : WE := fun ρ μ P => wd ρ μ fun x μ1 => nDct hs μ1 x (fun _ => True) ∧ wk ρ μ1 fun y μ2 => wx ρ μ2 fun z μ3 => nAtA hs μ3 x y fun kvs k => P ((lkN kvs k).getD z) μ3
theorem is_getD {K : PySem.W.Frag} {Hm : Hp} {k : NestedKey} {es : List (NestedKey × Addr × V)} {kvs : List (NestedKey × DV)} {v : V} {z : DV} (h4 : es.map (·.1) = kvs.map (·.1)) (h5 : Iss K Hm (es.map (·.2.2)) (kvs.map (·.2))) (iz : Is K Hm v z) : Is K Hm ((lkE es k).getD v) ((lkN kvs k).getD z) := by
  rcases lk_rel (k := k) h4 h5 with ⟨h1, h2⟩ | ⟨_, _, h1, h2, i⟩
  · rw [h1, h2]; exact iz
  · rw [h1, h2]; exact i
theorem d_nget1 {k : Nat} (hr : Room k X.A) (ho : PE X oe (tD X.K wo)) (he : PE X e (tD X.K we)) (m : M1 X oe "get" apos e pos) : PE X (.Call (.Attribute oe "get" apos) [e] [] pos) (tD X.K (wNGet1 (hsOf X) wo we)) :=
  PE.imp (pe_nget1 (by have := hr.un; omega) ho he m) fun σ H Q ⟨R, ρ, μ, P, a, w, k⟩ => ⟨R, ρ, μ, _, a, w, fun x μ1 v H1 p1 o1 s1 i1 => by
    obtain ⟨a0, es0, _, rfl, n0, _, _, _⟩ := nDct_of o1 i1 p1.1
    refine ⟨a0, _, es0, rfl, n0, R, ρ, μ1, _, a.step o1 s1, p1.2, fun y μ2 u H2 p2 o2 s2 i2 => ?_⟩
    obtain ⟨a', b, es, kvs, key, ea, rfl, n, h4, h5, nk, hk, t⟩ := nAtA_of o2 (i1.mono s2) i2 p2
    cases ea
    exact ⟨a0, b, _, es, y, key, rfl, rfl, hid_le, n, i2, nk, hk, (k.step (s1.trans s2)).val o2 t (is_getD h4 h5 .none)⟩⟩
theorem d_nget2 {k : Nat} (hr : Room k X.A) (ho : PE X oe (tD X.K wo)) (he : PE X e (tD X.K we)) (hf : PE X f (tD X.K wx)) (m : M2 X oe "get" apos e f pos) : PE X (.Call (.Attribute oe "get" apos) [e, f] [] pos) (tD X.K (wNGet2 (hsOf X) wo we wx)) :=
  PE.imp (pe_nget2 (by have := hr.un; omega) ho he hf m) fun σ H Q ⟨R, ρ, μ, P, a, w, k⟩ => ⟨R, ρ, μ, _, a, w, fun x μ1 v H1 p1 o1 s1 i1 => by
    obtain ⟨a0, es0, _, rfl, n0, _, _, _⟩ := nDct_of o1 i1 p1.1
    refine ⟨a0, _, es0, rfl, n0, R, ρ, μ1, _, a.step o1 s1, p1.2, fun y μ2 u H2 p2 o2 s2 i2 => ⟨R, ρ, μ2, _, a.step o2 (s1.trans s2), p2, fun z μ3 zv H3 p3 o3 s3 i3 => ?_⟩⟩
    obtain ⟨a', b, es, kvs, key, ea, rfl, n, h4, h5, nk, hk, t⟩ := nAtA_of o3 (i1.mono (s2.trans s3)) (i2.mono s3) p3
    cases ea
    exact ⟨a0, b, _, es, y, key, rfl, rfl, hid_le, n, i2.mono s3, nk, hk, (k.step ((s1.trans s2).trans s3)).val o3 t (is_getD h4 h5 i3)⟩⟩
end
end Dz

set_option Elab.async false
set_option linter.all false
set_option maxRecDepth 100000
set_option maxHeartbeats 4000000
/-! DzF3: {k: v for .. in .. if ..} whose keys are tuples. -/
namespace Dz
open PySem PySem.Spec L2 PyProof.Rows

theorem n_dset {X : Cx} {pins : List (Addr × Obj)} {σ : L2.St} {H Hm : Hp} {s : Shared} {a b : Addr} {es : List (NestedKey × Addr × V)} {d : DV} {k : NestedKey} {v : V} {u : Value} {Q : Unit → Shared → Prop} {E : Value → Shared → Prop} {A : Around} (hu : A.units + 8 < cLine) (I : Inv X pins σ H s) (sm : Same Hm H) (n : NDict X.K (hsOf X) Hm H a es)
    (ik : Is X.K Hm (.ref b) d) (nk : nkey d = some k) (hk : k.depth ≤ 8) (rv : RelV v u) (hl : es.length < sizeLine) (bare : H a = some (rawN a (hsOf X) es)) (h : ∀ s', Inv X pins σ (upd H a (rawN a (hsOf X) (putE es k b v))) s' → Q () s') : wpAny (model X.prog X.w) A (dictSet a (.ref b) u) Q E s := by
  obtain ⟨_, hd, xs, hx, dd⟩ := n.dict I sm
  have hxl : xs.length = es.length := by
    have := congrArg List.length hx.1
    rwa [List.length_map, List.length_map] at this
  refine wpAny_dictSet_heap (knd := KN X) (hsz := by rw [hxl]; omega) hu ⟨nkey_is I sm ik nk rfl, hk⟩ dd fun h' dd' hs => h _ ?_
  obtain ⟨q, ds, ep, hq, g2, g3, g4, _, _⟩ := dd'
  have hp := hx.put (k := k) (b := b) rv
  refine d_write I (by rw [bare]; exact True.intro) hs ⟨q, hq⟩ ⟨⟨?_, hd, storedH xs k b u, hp.1, hp.2, q, ds, ep, hq, g2, g3, g4⟩, ⟨q, hq⟩, ?_⟩
  · have := putE_len es k b v
    omega
  · rintro h1 h2' ⟨z1, z2, xs', z3, z4, o, ds', ep', z5, z6⟩ keep
    exact ⟨z1, z2, xs', z3, z4, o, ds', ep', keep o z5, z6⟩
theorem raw_new {P : Program} {w : World} {H : Hp} {hs : NestedKey → Int} (h : Heap) (hb : sysModules < h.objs.size) : ObjOk P w H (h.push { cls := .type "dict", data := .dict #[] }) h.objs.size (rawN h.objs.size hs []) :=
  ⟨⟨Nat.zero_le _, beq_false_of_ne (Nat.ne_of_gt hb), [], rfl, .nil, _, #[], 0, Heap.get?_push_size _ rfl, ⟨rfl, rfl, rfl⟩, rfl, rfl⟩, ⟨_, Heap.get?_push_size _ rfl⟩, by
    rintro h1 h2' ⟨z1, z2, xs', z3, z4, o, ds', ep', z5, z6⟩ keep
    exact ⟨z1, z2, xs', z3, z4, o, ds', ep', keep o z5, z6⟩⟩
section
variable {X : Cx}
/-- the loop, B the new dict; V counts down -/
def tDcN (X : Cx) (wi : TI) (g : TG) (tt : TT) (tk tv : TE) (vs : List Nat) : TE := fun σ H Q => wi σ H fun J Ha => ∀ B, Ha B = none → ∃ V : Nat → Nat → Hp → Prop, (∃ m, V 0 m (upd Ha B (rawN B (hsOf X) []))) ∧ ∀ i m G, V i m G →
  (J.stop i G ∧ Q (.ref B) G) ∨ (J.go i G ∧ ∃ N : Hp → Prop, (∀ G', N G' → ∃ m', m' < m ∧ V (i + 1) m' G') ∧ ∀ x G1, J.yld i G x G1 → g x (wipe σ vs) G1 fun τ G2 => wipe τ vs = wipe σ vs ∧ tt τ G2 fun b G3 =>
    if b = true then tk τ G3 fun y G4 => tv τ G4 fun z G5 => NHas X G5 (.ref B) y (fun _ kb es k => es.length < sizeLine ∧ G5 B = some (rawN B (hsOf X) es) ∧ N (upd G5 B (rawN B (hsOf X) (putE es k kb z)))) else N G3)
theorem dcN_core {pins : List (Addr × Obj)} {s : Shared} {σ : L2.St} {H : Hp} {Q : VK} {kx vx tg iter : Expr} {ifs : List Expr} {scope : Scope} {own : List (Str × Nat)} {pos pos' : Pos} {wi : TI} {g : TG} {tt : TT} {tk tv : TE} {use : Option (Value → Sem Unit)} {Qf : Value → Shared → Prop} (hu : X.A.units + 9 < cLine) (hc : X.calm = true) (hN : X.N.Nodup) (I : Inv X pins σ H s) (hi : PI X tg iter wi) (ok : BlkOk X.N X.env.scope scope own)
    (hg : ∀ (t : Shared) (H : Hp) (C : Addr) (cl : List (Str × Addr)) (fp : List Addr), PG (X.blk t H scope (compEnvC scope cl C X.env) fp) tg g)
    (ht : ∀ (t : Shared) (H : Hp) (C : Addr) (cl : List (Str × Addr)) (fp : List Addr), PTs (X.blk t H scope (compEnvC scope cl C X.env) fp) ifs tt)
    (hk : ∀ (t : Shared) (H : Hp) (C : Addr) (cl : List (Str × Addr)) (fp : List Addr), PE (X.blk t H scope (compEnvC scope cl C X.env) fp) kx tk)
    (he : ∀ (t : Shared) (H : Hp) (C : Addr) (cl : List (Str × Addr)) (fp : List Addr), PE (X.blk t H scope (compEnvC scope cl C X.env) fp) vx tv) (hfold : ∀ x, foldedSetIterable iter X.env x = pure x) (want : tDcN X wi g tt tk tv (own.map (·.2)) σ H Q)
    (hRR : ∀ D C s' m H', Inv X pins σ H' s' → Q (.ref D) H' → s'.heap.Ns C m → FpOk X pins H' C → compPost (model X.prog X.w) X.A X.xe use Qf (.ref D) C (.ok .next) s') :
    wpAny (model X.prog X.w) X.A (comprehension (.DictComp kx vx [⟨tg, iter, ifs, 0⟩] scope pos) scope X.env pos' newDict false (eval iter X.env) use) Qf X.xe s := by
  have fr : ∀ y ∈ scope.names, y.2 = .free → ∃ c, X.env.cells.lookup y.1 = some c := fun y hy e => (ok.free y hy e).elim (fun k => I.ok.has _ (.inl k)) fun k => I.ok.has _ (.inr k)
  refine wpAny_comprehension_free (use := use) rfl hfold (closure_ok fr) ok.kind (fun y hy e => by rw [ok.uniq y hy, e]) (thn (hi.run pins s σ H _ I want) fun _ t1 come => thn come fun _ t2 got => ?_)
  obtain ⟨it, fp, tn, J, Ha, rfl, Ia, T, sa, fa, q⟩ := got
  refine wpAny_newObj_type (newEnv_comp ?_)
  generalize eB : t2.heap.objs.size = B
  have nB : Ha B = none := Ia.hok.fresh (Nat.le_of_eq eB)
  obtain ⟨V, ⟨m0, v0⟩, turn⟩ := q B nB
  generalize eG : upd Ha B (rawN B (hsOf X) []) = G0 at v0
  generalize et : ({ t2 with heap := t2.heap.push { cls := .type "dict", data := .dict #[] } } : Shared) = t3
  have hp3 : t3.heap = t2.heap.push { cls := .type "dict", data := .dict #[] } := by rw [← et]
  have Ib : Inv X pins σ G0 t3 := by
    rw [← et, ← eG]
    refine Ia.laid (t' := t2.toks) (fun _ _ e => Heap.get?_push_of_some _ e) (Nat.le_of_eq eB) ?_
    rw [← eB]
    exact raw_new t2.heap Ia.big
  have below : ∀ b ∈ fp, b < t2.heap.objs.size := fun b hb => let ⟨_, e, _⟩ := T.obj _ _ sa b hb; Heap.lt_size e
  have fb : ∀ b ∈ fp, FpOk X pins G0 b ∧ b < t3.heap.objs.size := fun b hb => by
    have lt := below b hb
    refine ⟨⟨?_, (fa b hb).2⟩, by rw [hp3, Heap.size_push]; exact Nat.lt_succ_of_lt lt⟩
    rw [← eG, upd_ne (by rw [← eB]; exact Nat.ne_of_lt lt)]
    exact (fa b hb).1
  have sb : tn 0 t3.heap := T.keep _ _ _ sa fun b _ o e => by rw [hp3]; exact Heap.get?_push_of_some _ e
  have Ic := block_start Ib ok hN fb
  generalize eC : t3.heap.objs.size = C at Ic
  generalize ecl : cellsFrom (C + 1) scope.names (cloFrom X.env.cells scope.names []) = cl at Ic
  have kG := hg t3 G0 C cl fp
  have kT := ht t3 G0 C cl fp
  have kK := hk t3 G0 C cl fp
  have kV := he t3 G0 C cl fp
  have nC0 : C = t3.heap.objs.size := eC.symm
  generalize ece : compEnvC scope cl C X.env = ce at Ic kG kT kK kV
  have cL : ce.locals = C := by rw [← ece]; rfl
  generalize e4 : ({ t3 with heap := pushCells (t3.heap.push { cls := .type "dict", data := .dict #[] }) scope.names } : Shared) = t4 at Ic
  have sc : tn 0 t4.heap := T.keep _ _ _ sb fun b _ o e => by rw [← e4]; exact pushCells_keeps _ _ _ _ (Heap.get?_push_of_some _ e)
  have still : ∀ {σ' : L2.St} {G : Hp} {t : Shared}, Inv (X.blk t3 G0 scope ce fp) [] σ' G t → (∀ b ∈ fp, G b = none) → ∀ b ∈ fp, FpOk (X.blk t3 G0 scope ce fp) [] G b := fun {_ _ _} J' z b hb =>
    ⟨z b hb, (J'.ok.exf b hb).1, J'.ok.exfs b hb, .inl hb, (fun x c e => (J'.ok.exf b hb).2 x c e), fun p hp => absurd (show p ∈ ([] : List (Addr × Obj)) ++ [] from hp) (by simp)⟩
  have nf0 : ∀ b ∈ fp, G0 b = none := fun b hb => (fb b hb).1.1
  have run : codeAny (model X.prog X.w) X.A (.compLoop (.DictComp kx vx [⟨tg, iter, ifs, 0⟩] scope pos) 0 (.ref it) (.ref B) ce) (compPost (model X.prog X.w) X.A X.xe use Qf (.ref B) C) t4 := by
    refine compLoop_anyD (fun n t => ∃ i G, Inv (X.blk t3 G0 scope ce fp) [] (wipe σ (own.map (·.2))) G t ∧ tn i t.heap ∧ (∀ b ∈ fp, G b = none) ∧ V i n G) ?_ m0 ⟨0, G0, Ic, sc, nf0, v0⟩
    rintro n t ⟨i, G, Id, sd, nd, vd⟩
    rcases turn i n G vd with ⟨stop, fin⟩ | ⟨go, N, hN', step⟩
    · refine thnF (T.done (X.blk t3 G0 scope ce fp) rfl rfl rfl hc i [] t _ G (fun _ _ => False) Id (still Id nd) sd stop) fun r t6 ⟨hr, Ie⟩ => ?_
      subst hr
      have back : Inv X pins σ G t6 := Ib.call' (ch := fp) Ie.os Ie.base Ie.hok Ie.bare fun b hb => ⟨(fb b hb).1.2.2.2.1, (fb b hb).1.2.1, (fb b hb).1.2.2.2.2.1, (fb b hb).1.2.2.2.2.2⟩
      have nC : G C = none := by
        have z : G ce.locals = none := Ie.free
        rwa [cL] at z
      obtain ⟨m, hn, _⟩ := Ie.loc
      have hn : t6.heap.Ns ce.locals m := hn
      rw [cL] at hn
      exact hRR B C t6 m G back fin hn (Ib.fpOk (Nat.le_of_eq eC) nC)
    · refine thnF (T.item (X.blk t3 G0 scope ce fp) rfl rfl rfl hc i [] t _ G (fun _ _ => False) Id (still Id nd) sd go) fun r t6 ⟨u, hr, h6⟩ => ?_
      subst hr
      refine thnF h6 fun _ t7 ⟨x, G7, I7, r7, y7, s7, n7⟩ => ?_
      refine thnF (kG.run _ t7 _ G7 x u _ (I7.pinned (still I7 n7) (T.obj _ _ s7)) r7 (step x G7 y7)) fun _ t8 ⟨τ, G8, I8, w8, q8⟩ => ?_
      refine thnF (kT.run _ t8 τ G8 _ I8 q8) fun b t9 ⟨G9, I9, q9⟩ => ?_
      have close : ∀ {t : Shared} {G' : Hp}, Inv (X.blk t3 G0 scope ce fp) ([] ++ pinsAt fp t7.heap) τ G' t → N G' → ∃ m, m < n ∧ ∃ i G, Inv (X.blk t3 G0 scope ce fp) [] (wipe σ (own.map (·.2))) G t ∧ tn i t.heap ∧ (∀ b ∈ fp, G b = none) ∧ V i m G := fun {t G'} I' nx => by
        obtain ⟨m', lt, v'⟩ := hN' G' nx
        have pin : ∀ b ∈ fp, ∀ o, t7.heap.get? b = some o → t.heap.get? b = some o ∧ G' b = none := fun b hb o e => by
          have z := I'.pin (b, o) (List.mem_append_right _ (List.mem_append_right _ (mem_pinsAt hb e)))
          exact ⟨z.1, z.2.1⟩
        refine ⟨m', lt, i + 1, G', (I'.unpinned (pins := [])).weak (by rw [← w8, wipe_length]) (fun j v e => ?_), T.keep _ _ _ s7 fun b hb o e => (pin b hb o e).1, fun b hb => ?_, v'⟩
        · rw [← w8] at e
          exact (wipe_some e).1
        · obtain ⟨o, e, _⟩ := T.obj _ _ s7 b hb
          exact (pin b hb o e).2
      cases b with
      | false => exact close I9 q9
      | true =>
        refine thnF (kK.run _ t9 τ G9 _ I9 q9) fun kv t10 ⟨yk, G10, I10, r10, q10⟩ => ?_
        refine thnF (kV.run _ t10 τ G10 _ I10 q10) fun vv t11 ⟨yv, G11, I11, r11, a', kb, Hm, es, d, k, ea, ey, sm, nd', ik, nk, hk', hl, bare, nx⟩ => ?_
        cases ea
        subst ey
        obtain rfl : kv = Value.ref kb := r10
        exact n_dset (X := X.blk t3 G0 scope ce fp) (by show X.A.units + 8 < _; omega) I11 sm nd' ik nk hk' r11 hl bare fun t12 I12 => close I12 nx
  subst ece
  show codeAny _ _ (.compStart (.DictComp kx vx [⟨tg, iter, ifs, 0⟩] scope pos) 0 (.ref it) (.ref B) (compEnvC scope cl C X.env)) (compPost (model X.prog X.w) X.A X.xe use Qf (.ref B) C) t4
  exact codeAny_compStart_dict run (T.self X.A 0 _ _ _ sc run)
/-- as a value -/
theorem pe_dcN {kx vx tg iter : Expr} {ifs : List Expr} {scope : Scope} {own : List (Str × Nat)} {pos : Pos} {wi : TI} {g : TG} {tt : TT} {tk tv : TE} (hu : X.A.units + 9 < cLine) (hc : X.calm = true) (hN : X.N.Nodup) (hi : PI X tg iter wi) (ok : BlkOk X.N X.env.scope scope own)
    (hg : ∀ (t : Shared) (H : Hp) (C : Addr) (cl : List (Str × Addr)) (fp : List Addr), PG (X.blk t H scope (compEnvC scope cl C X.env) fp) tg g)
    (ht : ∀ (t : Shared) (H : Hp) (C : Addr) (cl : List (Str × Addr)) (fp : List Addr), PTs (X.blk t H scope (compEnvC scope cl C X.env) fp) ifs tt)
    (hk : ∀ (t : Shared) (H : Hp) (C : Addr) (cl : List (Str × Addr)) (fp : List Addr), PE (X.blk t H scope (compEnvC scope cl C X.env) fp) kx tk)
    (he : ∀ (t : Shared) (H : Hp) (C : Addr) (cl : List (Str × Addr)) (fp : List Addr), PE (X.blk t H scope (compEnvC scope cl C X.env) fp) vx tv) (hfold : ∀ x, foldedSetIterable iter X.env x = pure x := by intro _; rfl) :
    PE X (.DictComp kx vx [⟨tg, iter, ifs, 0⟩] scope pos) (tDcN X wi g tt tk tv (own.map (·.2))) := by
  refine ⟨fun pins s σ H Q I want => ?_⟩
  rw [arm_eval_DictComp]
  refine dcN_core hu hc hN I hi ok hg ht hk he hfold want fun D C t m G back fin hn f => ⟨m, hn, fun h'' sub => ?_⟩
  obtain ⟨f0, f1, _, f3, f4, f5⟩ := f
  exact ⟨.ref D, G, back.turned (t' := t.toks) (fun b o hb e => (sub.2 b hb).trans e) f0 f1 f3 f4 f5, rfl, fin⟩
/-- stored in a name -/
theorem used_set {i : Nat} {y : Str} {py : Pos} {pins : List (Addr × Obj)} {σ : L2.St} {D : Ends} {DD C : Addr} {s' : Shared} {m : Str → Option Value} {H' : Hp} (hN : X.N.Nodup) (hy : X.N[i]? = some y) (hyl : X.env.scope.names.lookup y = some .local) (I' : Inv X pins σ H' s')
    (q : gName i (.ref DD) σ H' D.nx) (hn : s'.heap.Ns C m) (f : FpOk X pins H' C) : compPost (model X.prog X.w) X.A X.xe (some (assign (.Name y py) X.env)) (fun _ s' => SP X pins D .next s') (.ref DD) C (.ok .next) s' := by
  show wpAny _ _ (assign (.Name y py) X.env (.ref DD)) _ _ _
  refine wpAny_assign_Name (store_ok2 (v := V.ref DD) I' hN hy (.inl hyl) rfl (fun s2 I2 ⟨a, sb, ha⟩ => ?_) (.inr hyl))
  obtain ⟨f0, f1, f2, f3, f4, f5⟩ := f
  have haC : C ≠ a := by
    rcases ha with z | z
    · rw [z]; exact f1
    · exact fun e => f4 y a z e.symm
  refine ⟨m, hn.sameBut sb haC, fun h3 sb3 => ?_⟩
  exact ⟨_, H', I2.turned (t' := s2.toks) (fun b o hb e => (sb3.2 b hb).trans e) f0 f1 f3 f4 f5, q⟩
theorem sw_trueD {kx vx : Expr} {gs : List Comprehension} {scope : Scope} {pos py : Pos} {y : Str} {l : Nat} {env : Env} (hk : env.scope.kind = .function) (hy : env.scope.names.lookup y = some .local) (hl : (py.line == pos.line) = true)
    (ha : (scope.names.any fun (n, k) => n == y && (k == .local || k == .cell)) = false) : swapsWith (.DictComp kx vx gs scope pos) (some (.Name y py)) l env = pure true := by
  have ky : env.kindOf y = some .local := hy
  have hb : env.blockKind = .function := by unfold Env.blockKind; rw [hk]; rfl
  unfold swapsWith
  simp only [hb, ky, ha, Expr.pos, hl]
  rfl
theorem ps_setDcN {i : Nat} {y : Str} {py : Pos} {kx vx tg iter : Expr} {ifs : List Expr} {scope : Scope} {own : List (Str × Nat)} {pos spos : Pos} {wi : TI} {g : TG} {tt : TT} {tk tv : TE} (hu : X.A.units + 9 < cLine) (hc : X.calm = true) (hN : X.N.Nodup) (hy : X.N[i]? = some y) (hyl : X.env.scope.names.lookup y = some .local)
    (hsw : swapsWith (.DictComp kx vx [⟨tg, iter, ifs, 0⟩] scope pos) (some (.Name y py)) spos.line X.env = pure true) (hi : PI X tg iter wi) (ok : BlkOk X.N X.env.scope scope own)
    (hg : ∀ (t : Shared) (H : Hp) (C : Addr) (cl : List (Str × Addr)) (fp : List Addr), PG (X.blk t H scope (compEnvC scope cl C X.env) fp) tg g)
    (ht : ∀ (t : Shared) (H : Hp) (C : Addr) (cl : List (Str × Addr)) (fp : List Addr), PTs (X.blk t H scope (compEnvC scope cl C X.env) fp) ifs tt)
    (hk : ∀ (t : Shared) (H : Hp) (C : Addr) (cl : List (Str × Addr)) (fp : List Addr), PE (X.blk t H scope (compEnvC scope cl C X.env) fp) kx tk)
    (he : ∀ (t : Shared) (H : Hp) (C : Addr) (cl : List (Str × Addr)) (fp : List Addr), PE (X.blk t H scope (compEnvC scope cl C X.env) fp) vx tv) (hfold : ∀ x, foldedSetIterable iter X.env x = pure x := by intro _; rfl) :
    PS X (.Assign [.Name y py] (.DictComp kx vx [⟨tg, iter, ifs, 0⟩] scope pos) spos) (tAsg (tDcN X wi g tt tk tv (own.map (·.2))) (gName i)) := by
  refine ⟨fun pins s σ H D I h => ?_⟩
  rw [exec_Assign_Name_used _ _ _ _ hsw]
  refine wpAny_bind (wpAny_standAt (wpAny_bind ?_))
  show wpAny _ X.A (do let _ ← comprehension (.DictComp kx vx [⟨tg, iter, ifs, 0⟩] scope pos) scope X.env (firstIterPos [⟨tg, iter, ifs, 0⟩] pos) newDict false (eval iter X.env) (some (assign (.Name y py) X.env))) _ _ s
  have h : tDcN X wi g tt tk tv (own.map (·.2)) σ H (fun x H1 => gName i x σ H1 D.nx) := h
  exact wpAny_bind (thn (dcN_core (Qf := fun _ s' => SP X pins D .next s') hu hc hN I hi ok hg ht hk he hfold h fun L C s' m H' I' q hn f => used_set hN hy hyl I' q hn f) fun _ s' hq => wpAny_pure (wpAny_pure hq))
theorem ps_setDc {i : Nat} {y : Str} {py : Pos} {kx vx tg iter : Expr} {ifs : List Expr} {scope : Scope} {own : List (Str × Nat)} {pos spos : Pos} {wi : TI} {g : TG} {tt : TT} {tk tv : TE} (hc : X.calm = true) (hN : X.N.Nodup) (hy : X.N[i]? = some y) (hyl : X.env.scope.names.lookup y = some .local)
    (hsw : swapsWith (.DictComp kx vx [⟨tg, iter, ifs, 0⟩] scope pos) (some (.Name y py)) spos.line X.env = pure true) (hi : PI X tg iter wi) (ok : BlkOk X.N X.env.scope scope own)
    (hg : ∀ (t : Shared) (H : Hp) (C : Addr) (cl : List (Str × Addr)) (fp : List Addr), PG (X.blk t H scope (compEnvC scope cl C X.env) fp) tg g)
    (ht : ∀ (t : Shared) (H : Hp) (C : Addr) (cl : List (Str × Addr)) (fp : List Addr), PTs (X.blk t H scope (compEnvC scope cl C X.env) fp) ifs tt)
    (hk : ∀ (t : Shared) (H : Hp) (C : Addr) (cl : List (Str × Addr)) (fp : List Addr), PE (X.blk t H scope (compEnvC scope cl C X.env) fp) kx tk)
    (he : ∀ (t : Shared) (H : Hp) (C : Addr) (cl : List (Str × Addr)) (fp : List Addr), PE (X.blk t H scope (compEnvC scope cl C X.env) fp) vx tv) (hfold : ∀ x, foldedSetIterable iter X.env x = pure x := by intro _; rfl) :
    PS X (.Assign [.Name y py] (.DictComp kx vx [⟨tg, iter, ifs, 0⟩] scope pos) spos) (tAsg (tDc wi g tt tk tv (own.map (·.2))) (gName i)) := by
  refine ⟨fun pins s σ H D I h => ?_⟩
  rw [exec_Assign_Name_used _ _ _ _ hsw]
  refine wpAny_bind (wpAny_standAt (wpAny_bind ?_))
  show wpAny _ X.A (do let _ ← comprehension (.DictComp kx vx [⟨tg, iter, ifs, 0⟩] scope pos) scope X.env (firstIterPos [⟨tg, iter, ifs, 0⟩] pos) newDict false (eval iter X.env) (some (assign (.Name y py) X.env))) _ _ s
  have h : tDc wi g tt tk tv (own.map (·.2)) σ H (fun x H1 => gName i x σ H1 D.nx) := h
  exact wpAny_bind (thn (dc_core (Qf := fun _ s' => SP X pins D .next s') hc hN I hi ok hg ht hk he hfold h fun L C s' m H' I' q hn f => used_set hN hy hyl I' q hn f) fun _ s' hq => wpAny_pure (wpAny_pure hq))
end
end Dz

set_option Elab.async false
set_option linter.all false
set_option maxRecDepth 100000
set_option maxHeartbeats 4000000
/-! DzF4: {k: v for .. in .. if ..} whose keys are tuples, over data. -/
namespace Dz
open PySem PySem.Spec L2 PyProof.Rows

/-- keys at addresses, and what they and the values are -/
structure KOk (K : PySem.W.Frag) (Hm : Hp) (es : List (NestedKey × Addr × V)) (kvs : List (NestedKey × DV)) : Prop where
  keys : ∀ e ∈ es, e.1.depth ≤ 8 ∧ ∃ d, Is K Hm (.ref e.2.1) d ∧ nkey d = some e.1
  nd : (es.map (·.1)).Nodup
  eq : es.map (·.1) = kvs.map (·.1)
  vals : Iss K Hm (es.map (·.2.2)) (kvs.map (·.2))
theorem KOk.mono {K : PySem.W.Frag} {H H' : Hp} {es : List (NestedKey × Addr × V)} {kvs : List (NestedKey × DV)} (h : KOk K H es kvs) (s : Same H H') : KOk K H' es kvs :=
  ⟨fun e he => let ⟨a, d, i, n⟩ := h.keys e he; ⟨a, d, i.mono s, n⟩, h.nd, h.eq, h.vals.mono s⟩
theorem KOk.put {K : PySem.W.Frag} {Hm : Hp} {es : List (NestedKey × Addr × V)} {kvs : List (NestedKey × DV)} {b : Addr} {y d : DV} {k : NestedKey} {v : V} (h : KOk K Hm es kvs) (ib : Is K Hm (.ref b) y) (nk : nkey y = some k) (hk : k.depth ≤ 8) (i : Is K Hm v d) : KOk K Hm (putE es k b v) (putN kvs k d) :=
  let ⟨p1, p2⟩ := put_keys (v := v) ib nk hk h.keys h.nd
  let ⟨p3, p4⟩ := put_rel (k := k) (b := b) i h.eq h.vals
  ⟨p1, p2, p3, p4⟩
theorem KOk.len {K : PySem.W.Frag} {Hm : Hp} {es : List (NestedKey × Addr × V)} {kvs : List (NestedKey × DV)} (h : KOk K Hm es kvs) : es.length = kvs.length := by
  have := congrArg List.length h.eq
  rwa [List.length_map, List.length_map] at this
def compN (g : WG) (t : WT) (k v : WE) (ρ : Rho) : List DV → List (NestedKey × DV) → Mh → (List (NestedKey × DV) → Mh → Prop) → Prop
  | [], acc, μ, P => P acc μ
  | x :: xs, acc, μ, P => g x ρ fun ρ1 => t ρ1 μ fun b μ1 => match b with
    | true => k ρ1 μ1 fun y μ2 => v ρ1 μ2 fun z μ3 => keyN y fun key => acc.length < sizeLine ∧ compN g t k v ρ xs (putN acc key z) μ3 P
    | false => compN g t k v ρ xs acc μ1 P
/-- {k: v for g in ws if t} -/
def wDcN (hs : NestedKey → Int) (ws : WI) (g : WG) (t : WT) (k v : WE) (vs : List Nat) : WE := fun ρ μ P => ws ρ μ fun xs μ1 => compN g t k v (wipeD ρ vs) xs [] μ1 fun acc μ2 => ∀ p, μ2 p = none → P (.obj p) (updM μ2 p (.dcN hs acc))
section
variable {X : Cx} {kx vx tg iter : Expr} {ifs : List Expr} {scope : Scope} {own : List (Str × Nat)} {pos : Pos} {ws : WI} {g : WG} {t : WT} {ek ev : WE} {sl : List Nat}
theorem dcN_imp {vs : List Nat} (hv : ∀ i ∈ sl, i ∈ vs) : ∀ σ H Q, tD X.K (wDcN (hsOf X) ws g t ek ev vs) σ H Q → tDcN X (tDI X.K ws) (tDG X.K sl g) (tDT X.K t) (tD X.K ek) (tD X.K ev) vs σ H Q := fun σ H Q ⟨R, ρ, μ, P, a, w, k⟩ =>
  ⟨R, ρ, μ, _, a, w, fun xs μ1 H1 J p1 o1 s1 it => fun D n => by
    have rn := o1.freeR n
    let fo : List (NestedKey × Addr × V) → Hp := fun es => upd R D (rawN D (hsOf X) es)
    refine ⟨fun i m H' => m = xs.length - i ∧ i ≤ xs.length ∧ ∃ μ' acc es, Ok X.K (fo es) μ' H' ∧ Same (hid R μ1 H1) (hid (fo es) μ' H') ∧ KOk X.K (hid (fo es) μ' H') es acc ∧
      compN g t ek ev (wipeD ρ vs) (xs.drop i) acc μ' fun acc μ2 => ∀ p, μ2 p = none → P (.obj p) (updM μ2 p (.dcN (hsOf X) acc)), ?_, ?_⟩
    · obtain ⟨o2, e2⟩ := o1.frame (o := rawN D (hsOf X) []) n
      exact ⟨_, rfl, Nat.zero_le _, μ1, [], [], o2, by rw [e2]; exact Same.refl _, ⟨(fun e h => by cases h), List.Pairwise.nil, rfl, Iss.nil⟩, p1⟩
    rintro i m H2 ⟨rfl, hi, μ2, acc, es, o2, s2, r2, w2⟩
    by_cases hlt : i < xs.length
    · refine .inr ⟨it.go _ μ2 H2 i o2 s2 hlt, fun H' => ∃ μ' acc es, Ok X.K (fo es) μ' H' ∧ Same (hid R μ1 H1) (hid (fo es) μ' H') ∧ KOk X.K (hid (fo es) μ' H') es acc ∧
        compN g t ek ev (wipeD ρ vs) (xs.drop (i + 1)) acc μ' fun acc μ2 => ∀ p, μ2 p = none → P (.obj p) (updM μ2 p (.dcN (hsOf X) acc)), fun H' ⟨μ', acc', es', o', s', r', w'⟩ => ⟨_, ?_, rfl, hlt, μ', acc', es', o', s', r', w'⟩, fun x H3 y => ?_⟩
      · omega
      · obtain ⟨d, hd, o3, s3, r3⟩ := it.yld _ μ2 H2 i x H3 o2 s2 y hlt
        rw [drop_at hd] at w2
        have sl3 : Sl X.K (hid (fo es) μ2 H3) (wipe σ vs) (wipeD ρ vs) := (a.sl.mono ((s1.trans s2).trans s3)).wipe vs
        refine ⟨_, wipeD ρ vs, μ2, d, _, ⟨o3, sl3⟩, r3, w2, fun ρ4 σ4 w4 sl4 ww => ⟨by rw [ww vs hv, wipe_wipe], _, ρ4, μ2, _, ⟨o3, sl4⟩, w4, fun b μ5 H5 p5 o5 s5 => ?_⟩⟩
        cases b with
        | false => exact iteF ⟨μ5, acc, es, o5, (s2.trans s3).trans s5, r2.mono (s3.trans s5), p5⟩
        | true =>
          refine iteT ⟨_, ρ4, μ5, _, ⟨o5, sl4.mono s5⟩, p5, fun y μ6 v H6 p6 o6 s6 r6 => ⟨_, ρ4, μ6, _, ⟨o6, sl4.mono (s5.trans s6)⟩, p6, fun z μ7 u H7 p7 o7 s7 r7 => ?_⟩⟩
          have r6' := r6.mono s7
          obtain ⟨kb, key, ey, nk, hk, hl, p8⟩ := keyN_of r6' p7
          subst ey
          have r2' := r2.mono (((s3.trans s5).trans s6).trans s7)
          refine ⟨D, kb, _, es, y, key, rfl, rfl, hid_le, ⟨.inl (o7.fr D _ upd_same), r2'.keys, r2'.nd⟩, r6', nk, hk, by rw [r2'.len]; exact hl, o7.fr D _ upd_same, ?_⟩
          obtain ⟨o8, e8⟩ := o7.reframe (o' := rawN D (hsOf X) (putE es key kb u))
          refine ⟨μ7, putN acc key z, putE es key kb u, o8, ?_, ?_, p8⟩
          · show Same _ (hid (upd R D (rawN D (hsOf X) (putE es key kb u))) μ7 _)
            rw [e8]
            exact (((s2.trans s3).trans s5).trans s6).trans s7
          · show KOk X.K (hid (upd R D (rawN D (hsOf X) (putE es key kb u))) μ7 _) _ _
            rw [e8]
            exact r2'.put r6' nk hk r7
    · have e' : i = xs.length := by omega
      subst e'
      rw [List.drop_length] at w2
      have hD : H2 D = some (rawN D (hsOf X) es) := o2.fr D _ upd_same
      have mD : μ2 D = none := o2.dj D _ upd_same
      obtain ⟨o4, e4⟩ := o2.unframeG (m := .dcN (hsOf X) acc) rn ⟨es, hD, r2.keys, r2.nd, r2.eq, r2.vals⟩
      exact .inl ⟨it.stop _ μ2 H2 _ o2 s2 (Nat.le_refl _), k _ _ _ H2 (w2 D mD) o4 (by rw [e4]; exact s1.trans s2) (.obj D)⟩⟩
theorem d_dcN {k : Nat} (hr : Room k X.A) (hi : PI X tg iter (tDI X.K ws)) (ok : BlkOk X.N X.env.scope scope own)
    (hg : ∀ (s : Shared) (H : Hp) (C : Addr) (cl : List (Str × Addr)) (fp : List Addr), PG (X.blk s H scope (compEnvC scope cl C X.env) fp) tg (tDG X.K sl g)) (ht : ∀ (s : Shared) (H : Hp) (C : Addr) (cl : List (Str × Addr)) (fp : List Addr), PTs (X.blk s H scope (compEnvC scope cl C X.env) fp) ifs (tDT X.K t))
    (hk : ∀ (s : Shared) (H : Hp) (C : Addr) (cl : List (Str × Addr)) (fp : List Addr), PE (X.blk s H scope (compEnvC scope cl C X.env) fp) kx (tD X.K ek))
    (he : ∀ (s : Shared) (H : Hp) (C : Addr) (cl : List (Str × Addr)) (fp : List Addr), PE (X.blk s H scope (compEnvC scope cl C X.env) fp) vx (tD X.K ev)) (hN : X.N.Nodup) (hv : ∀ i ∈ sl, i ∈ own.map (·.2) := by decide) (hc : X.calm = true := by rfl) (hs : ∀ x, foldedSetIterable iter X.env x = pure x := by intro _; rfl) :
    PE X (.DictComp kx vx [⟨tg, iter, ifs, 0⟩] scope pos) (tD X.K (wDcN (hsOf X) ws g t ek ev (own.map (·.2)))) := PE.imp (pe_dcN (by have := hr.un; omega) hc hN hi ok hg ht hk he hs) (dcN_imp hv)
theorem ds_setDcN {k i : Nat} {y : Str} {py spos : Pos} (hr : Room k X.A) (hy : X.N[i]? = some y) (hyl : X.env.scope.names.lookup y = some .local) (hsw : swapsWith (.DictComp kx vx [⟨tg, iter, ifs, 0⟩] scope pos) (some (.Name y py)) spos.line X.env = pure true) (hi : PI X tg iter (tDI X.K ws)) (ok : BlkOk X.N X.env.scope scope own)
    (hg : ∀ (s : Shared) (H : Hp) (C : Addr) (cl : List (Str × Addr)) (fp : List Addr), PG (X.blk s H scope (compEnvC scope cl C X.env) fp) tg (tDG X.K sl g)) (ht : ∀ (s : Shared) (H : Hp) (C : Addr) (cl : List (Str × Addr)) (fp : List Addr), PTs (X.blk s H scope (compEnvC scope cl C X.env) fp) ifs (tDT X.K t))
    (hk : ∀ (s : Shared) (H : Hp) (C : Addr) (cl : List (Str × Addr)) (fp : List Addr), PE (X.blk s H scope (compEnvC scope cl C X.env) fp) kx (tD X.K ek))
    (he : ∀ (s : Shared) (H : Hp) (C : Addr) (cl : List (Str × Addr)) (fp : List Addr), PE (X.blk s H scope (compEnvC scope cl C X.env) fp) vx (tD X.K ev)) (hN : X.N.Nodup) (hv : ∀ i ∈ sl, i ∈ own.map (·.2) := by decide) (hc : X.calm = true := by rfl) (hs : ∀ x, foldedSetIterable iter X.env x = pure x := by intro _; rfl) :
    PS X (.Assign [.Name y py] (.DictComp kx vx [⟨tg, iter, ifs, 0⟩] scope pos) spos) (tDS X.K (wAsg (wDcN (hsOf X) ws g t ek ev (own.map (·.2))) (wgName i))) :=
  PS.imp (ps_setDcN (by have := hr.un; omega) hc hN hy hyl hsw hi ok hg ht hk he hs) fun D σ H ⟨R, ρ, μ, E, a, w, k⟩ => dcN_imp hv σ H _ ⟨R, ρ, μ, _, a, w, fun d μ1 v H1 p1 o1 s1 i1 => k.nx _ μ1 _ H1 p1 ⟨o1, (a.sl.mono s1).set i i1⟩ s1⟩
end
end Dz

set_option Elab.async false
set_option linter.all false
set_option maxRecDepth 100000
set_option maxHeartbeats 2000000
/-! DzF5: for k in d, d a dict with keys of any depth that changes no more. -/
namespace Dz
open PySem PySem.Spec L2 PyProof.Rows

theorem frzN_at {X : Cx} {pins : List (Addr × Obj)} {σ : L2.St} {H : Hp} {s : Shared} {a : Addr} {o : Obj} {hs : NestedKey → Int} {es : List (NestedKey × Addr × V)} (I : Inv X pins σ H s) (h : H a = some (.frz o (rawN a hs es))) :
    ∃ (ds : Array DictEntry) (ep : Nat), (a == sysModules) = false ∧ s.heap.get? a = some o ∧ o.ExactDict ∧ o.data = .dict ds ep ∧ ds.size = es.length ∧ ∀ (i : Nat) (e : NestedKey × Addr × V), es[i]? = some e → ∃ en : DictEntry, ds[i]? = some en ∧ en.key = .ref e.2.1 := by
  obtain ⟨hd, ⟨_, z2, xs, z3, _, o', ds, ep, g1, g2, g3, g4⟩, _⟩ := I.hok a _ h
  have e1 : o = o' := Option.some.inj (hd.symm.trans g1)
  subst e1
  have hl : xs.length = es.length := by
    have := congrArg List.length z3
    rwa [List.length_map, List.length_map] at this
  refine ⟨ds, ep, z2, hd, g2, g3, ?_, fun i e he => ?_⟩
  · rw [← Array.length_toList, g4, List.length_map, hl]
  · have h1 : (xs.map (fun x => (x.1, x.2.1)))[i]? = some (e.1, e.2.1) := by
      rw [z3, List.getElem?_map, he]
      rfl
    rw [List.getElem?_map] at h1
    obtain ⟨x, hx, ex⟩ := Option.map_eq_some_iff.mp h1
    refine ⟨⟨hs x.1, .ref x.2.1, x.2.2⟩, ?_, by rw [show x.2.1 = e.2.1 from congrArg Prod.snd ex]⟩
    rw [← Array.getElem?_toList, g4, List.getElem?_map, hx]
    rfl
/-- the keys, in their order -/
def ItN (a : Addr) (o : Obj) (hs : NestedKey → Int) (es : List (NestedKey × Addr × V)) : It :=
  ⟨fun i H => H a = some (.frz o (rawN a hs es)) ∧ i < es.length, fun i H x H' => H' = H ∧ ∃ e, es[i]? = some e ∧ x = .ref e.2.1, fun i H => H a = some (.frz o (rawN a hs es)) ∧ es.length ≤ i⟩
section
variable {P : Program} {w : World} {K : PySem.W.Frag} {tg : Expr} {a : Addr} {o : Obj} {hs : NestedKey → Int} {es : List (NestedKey × Addr × V)} {ds : Array DictEntry} {ep : Nat}
theorem same_data {o : Obj} {ds ds' : Array DictEntry} {ep ep' : Nat} (h : o.data = .dict ds ep) (h' : o.data = .dict ds' ep') : ds' = ds ∧ ep' = ep := by
  rw [h] at h'
  injection h' with h1 h2
  exact ⟨h1.symm, h2.symm⟩
theorem turnN (it : Addr) (hod : o.data = .dict ds ep) : Turn P w K tg (ItN a o hs es) [it] it (fun i h => h.IsKeyIter it a i es.length ep) where
  mem := List.mem_singleton.mpr rfl
  obj := fun i h st b hb => by
    obtain rfl := List.mem_singleton.mp hb
    obtain ⟨oi, e, _, dd⟩ := st
    exact ⟨oi, e, fun v z => by rw [dd] at z; cases z⟩
  keep := fun i h h' st kp => st.at fun oi e => kp it (List.mem_singleton.mpr rfl) oi e
  item := by
    rintro X rfl rfl rfl hc i pins s σ H E I hf st ⟨hd, hi⟩
    obtain ⟨f0, f1, f2, f3, f4, f5⟩ := hf it (List.mem_singleton.mpr rfl)
    obtain ⟨ds', ep', h1, h2, h3, h4, h5, h6⟩ := frzN_at I hd
    obtain ⟨rfl, rfl⟩ := same_data hod h4
    obtain ⟨en, e1, e2⟩ := h6 i _ (List.getElem?_eq_getElem hi)
    refine next_key_item st h2 h4 h5 e1 fun h' st' sb => ?_
    have I1 : Inv X pins σ H { s with heap := h' } := I.turned (t' := s.toks) (fun b ob hb e => (sb.2 b hb).trans e) f0 f1 f3 f4 f5
    obtain ⟨oi, q1, q2, q3⟩ := id st'
    exact ⟨en.key, rfl, go_of (s := { s with heap := h' }) q1 q2 q3 (by decide) ⟨.ref es[i].2.1, H, I1, e2, ⟨rfl, _, List.getElem?_eq_getElem hi, rfl⟩, st', fun b hb => (hf b hb).1⟩⟩
  done := by
    rintro X rfl rfl rfl hc i pins s σ H E I hf st ⟨hd, hi⟩
    obtain ⟨f0, f1, f2, f3, f4, f5⟩ := hf it (List.mem_singleton.mpr rfl)
    obtain ⟨ds', ep', h1, h2, h3, h4, h5, h6⟩ := frzN_at I hd
    obtain ⟨rfl, rfl⟩ := same_data hod h4
    exact next_key_end (I.ok.hd hc) st h2 h4 h5 hi fun h' eb => ⟨rfl, I.turned (t' := s.toks) (fun b ob hb e => eb b ob hb e) f0 f1 f3 f4 f5⟩
  self := fun A i s Q E st h => wpAny_pyIter_keyiter st h
end
section
variable {X : Cx} {tg e : Expr} {td : TE} {w : WE}
def iKeysN (hs : NestedKey → Int) (td : TE) : TI := fun σ H R => td σ H fun x H1 => ∃ a o es, x = .ref a ∧ H1 a = some (.frz o (rawN a hs es)) ∧ R (ItN a o hs es) H1
theorem pi_keysN {hs : NestedKey → Int} (he : PE X e td) : PI X tg e (iKeysN hs td) := by
  refine ⟨fun pins s σ H R I h => ?_⟩
  refine thn (he.run pins s σ H _ I h) fun u s1 ⟨x, H1, I1, rx, a, o, es, ex, hd, q⟩ => ?_
  subst ex
  obtain rfl : u = Value.ref a := rx
  obtain ⟨ds, ep, h1, h2, h3, h4, h5, h6⟩ := frzN_at I1 hd
  refine iter_keys h1 h2 h3 h4 (pi_one (tk := s1.toks) I1 _ (turnN _ h4) ⟨_, Heap.get?_push_size _ rfl, rfl, ?_⟩ q)
  rw [h5] <;> rfl
/-- for k in d -/
def sKeysN (hs : NestedKey → Int) (w : WE) : WI := fun ρ μ P => w ρ μ fun x μ1 => match x with
  | .dn hs' ks vs => ∃ kvs, dnD hs kvs = .dn hs' ks vs ∧ P (kvs.map fun e => kd e.1) μ1
  | _ => False
theorem di_keysN {hs : NestedKey → Int} (h : PE X e (tD X.K w)) : PI X tg e (tDI X.K (sKeysN hs w)) :=
  PI.imp (pi_keysN (hs := hs) h) fun σ H RR ⟨R, ρ, μ, P, a, w, k⟩ => ⟨R, ρ, μ, _, a, w, fun d μ1 v H1 p1 o1 s1 i1 => by
    cases d with
    | dn hs' ks vs =>
      obtain ⟨kvs, e0, p2⟩ := (show ∃ kvs, dnD hs kvs = .dn hs' ks vs ∧ P (kvs.map fun e => kd e.1) μ1 from p1)
      rw [← e0] at i1
      have i1' : Is X.K (hid R μ1 H1) v (.dn hs (kvs.map fun e => kd e.1) (kvs.map (·.2))) := i1
      cases i1' with
      | @dn b ob _ es _ _ hb n dp nd r r2 =>
        refine ⟨b, ob, es, rfl, hid_le _ _ hb, k _ μ1 H1 _ p2 o1 s1 ⟨fun R' μ' H' i o' s' hi => ?_, fun R' μ' H' i x H'' o' s' y hi => ?_, fun R' μ' H' i o' s' hi => ?_⟩⟩
        · refine ⟨hid_le _ _ (s' _ _ hb), ?_⟩
          have := r.length
          rw [List.length_map] at this
          omega
        · obtain ⟨rfl, e, he, rfl⟩ := y
          have h1 : (es.map fun e => V.ref e.2.1)[i]? = some (.ref e.2.1) := by rw [List.getElem?_map, he]; rfl
          obtain ⟨d, hd, kk⟩ := r.getV h1
          exact ⟨d, hd, o', Same.refl _, kk.mono s'⟩
        · refine ⟨hid_le _ _ (s' _ _ hb), ?_⟩
          have := r.length
          rw [List.length_map] at this
          omega
    | _ => exact (show False from p1).elim⟩
end
end Dz

set_option Elab.async false
set_option linter.all false
set_option maxRecDepth 100000
set_option maxHeartbeats 2000000
/-! DzF6: x in d.values(), d a dict with keys of any depth. -/
namespace Dz
open PySem PySem.Spec L2 PyProof.Rows

theorem plain_contains_iter : plainId "proto.contains_iter" = true := by decide +kernel
theorem entry_contains_iter : entryFor table "proto.contains_iter" = some Builtin.«proto.contains_iter» := entryFor_of_fast (by kernel_rfl)
theorem dv_no_contains : typeLookup (.type "dict_values") "__contains__" = pure none := by rw [typeLookup_type, builtinLookup_eq_fast]; kernel_rfl
/-- the view d.values() at p -/
def valuesO (p d : Addr) : HO := .ext fun h => h.IsValuesView p d
theorem valuesO_ok {P : Program} {w : World} {H : Hp} {h : Heap} {p d : Addr} (e : h.get? p = some { cls := .type "dict_values", data := .fields #[.ref d] }) : ObjOk P w H h p (valuesO p d) :=
  ⟨⟨_, e, rfl, rfl⟩, ⟨_, e⟩, fun h1 h2 x k => let ⟨o, ho, r⟩ := x; ⟨o, k o ho, r⟩⟩
section
variable {X : Cx} {pins : List (Addr × Obj)} {σ : L2.St} {H : Hp} {it a : Addr} {es : Array DictEntry} {ep : Nat} {x : Value} {vx : V} {p : PyData} {ds : List PyData} {R : Result → Shared → Prop}
theorem values_loop (hh : X.A.handled = none) (f : FpOk X pins H it) (ne : a ≠ it) (hl : ds.length = es.size) (hu : X.A.units + 65 < cLine) (hx : Dp X.K H vx p) (sp : SeqAt.shaped p = true) (rx : RelV vx x)
    (hE : ∀ (i : Nat) (hi : i < es.size), ∃ v d, ds[i]? = some d ∧ Dp X.K H v d ∧ SeqAt.shaped d = true ∧ RelV v es[i].val) :
    ∀ (k i : Nat) (s : Shared), es.size - i = k → i ≤ es.size → Inv X pins σ H s → s.heap.IsValIter it a i es.size ep → s.heap.DictRaw a es ep →
      (∀ s', Inv X pins σ H s' → R (.ok (.ret (.bool ((ds.drop i).any fun d => PyData.eqv d p)))) s') → codeAny (model X.prog X.w) X.A (.builtin "proto.contains_iter" ⟨[.ref it, x], []⟩) R s := by
  obtain ⟨f0, f1, f2, f3, f4, f5⟩ := f
  intro k
  induction k with
  | zero =>
    intro i s hk hi I hv hm q
    refine codeAny_builtin entry_contains_iter ?_
    rw [Around.under_plainId plain_contains_iter _]
    show wpAny _ X.A.in1 (pyNext (.ref it) >>= _) _ _ s
    refine wpAny_bind (wpAny_pyNext_values_end_raw (show X.A.in1.handled = none from hh) hv hm (by omega) fun h' eb => ?_)
    refine wpAny_bind (wpAny_rule ?_)
    refine wpAny_pure ?_
    have e : ds.drop i = [] := List.drop_eq_nil_of_le (by omega)
    rw [e] at q
    exact q { s with heap := h' } (I.turned (t' := s.toks) (fun b ob hb e => eb b ob hb e) f0 f1 f3 f4 f5)
  | succ k ih =>
    intro i s hk hi I hv hm q
    have hlt : i < es.size := by omega
    obtain ⟨v, d, hd, dv, sd, rv⟩ := hE i hlt
    refine codeAny_builtin entry_contains_iter ?_
    rw [Around.under_plainId plain_contains_iter _]
    show wpAny _ X.A.in1 (pyNext (.ref it) >>= _) _ _ s
    refine wpAny_bind (wpAny_pyNext_values_item_raw hv hm hlt fun h' hv' sb => ?_)
    have I1 : Inv X pins σ H { s with heap := h' } := I.turned (t' := s.toks) (fun b ob hb e => (sb.2 b hb).trans e) f0 f1 f3 f4 f5
    obtain ⟨as, r1⟩ := Dp.reads I1 d v _ dv rv
    obtain ⟨bs, r2⟩ := Dp.reads I1 p vx x hx rx
    have room : X.A.in1.units + min d.depth p.depth < cLine := SeqAt.room_of_shaped sd (by show X.A.units + 1 + 64 < cLine; omega)
    have eqv := SeqAt.eqAt_reads d p X.A.in1 { s with heap := h' } _ _ as bs r1 r2 (SeqAt.canLay_of_shaped sd) (SeqAt.canLay_of_shaped sp) room
    have ed : ds.drop i = d :: ds.drop (i + 1) := by
      obtain ⟨h1, h2⟩ := List.getElem?_eq_some_iff.mp hd
      rw [List.drop_eq_getElem_cons h1, h2]
    rw [ed, List.any_cons] at q
    show wpAny _ X.A.in1 (eqBool es[i].val x >>= _) _ _ _
    refine wpAny_bind (eqv _ _ _ _ ?_)
    cases eb : PyData.eqv d p with
    | true =>
      rw [eb] at q
      show wpAny _ X.A.in1 (rule "in.by-iteration.found" >>= fun _ => ret (.bool true)) _ _ _
      refine wpAny_bind (wpAny_rule ?_)
      exact wpAny_pure (q { s with heap := h' } I1)
    | false =>
      rw [eb] at q
      show wpAny _ X.A.in1 (again (.builtin "proto.contains_iter" ⟨[.ref it, x], []⟩)) _ _ _
      refine wpAny_pure ⟨plainId_quiet plain_contains_iter _, ih (i + 1) { s with heap := h' } (by omega) hlt I1 hv' (hm.at fun o e => (sb.2 a ne).trans e) q⟩
end
section
variable {X : Cx}
theorem op_inVals (hc : X.calm = true) (hu : X.A.units + 65 < cLine) : OpR X (compareOp .In) (fun x y H Q => ∃ q a es d ds, y = .ref q ∧ H q = some (valuesO q a) ∧ Rd H a (rawN a (hsOf X) es) ∧ Dp X.K H x d ∧ SeqAt.shaped d = true ∧
    DpAll X.K H (es.map (·.2.2)) ds ∧ (∀ z ∈ ds, SeqAt.shaped z = true) ∧ Q (.bl (ds.any fun z => PyData.eqv z d)) H) := by
  intro pins s σ H x y v u Q I rx ry ⟨q, a, es, d, ds, ey, hq, ha, dx, sx, da, sa, hQ⟩
  subst ey
  obtain rfl : u = Value.ref q := ry
  have view : s.heap.IsValuesView q a := (show ObjOk X.prog X.w H s.heap q (valuesO q a) from I.hok q _ hq).1
  obtain ⟨⟨h1, hd, xs, h3, h4, o, de, ep, g1, g2, g3, g4⟩, _, _⟩ := (show ObjOk X.prog X.w H s.heap a (rawN a (hsOf X) es) from ha.ok I.hok)
  have raw : s.heap.DictRaw a de ep := ⟨o, g1, g2, g3⟩
  have hs : de.size = xs.length := by rw [← Array.length_toList, g4, List.length_map]
  have hds : ds.length = es.length := by
    have : ∀ {vs : List V} {ds : List PyData}, DpAll X.K H vs ds → vs.length = ds.length := by
      intro vs ds h
      induction vs generalizing ds with
      | nil => cases h; rfl
      | cons v vs ih => cases h with
        | cons _ r => rw [List.length_cons, List.length_cons, ih r]
    rw [← this da, List.length_map]
  have hxe : xs.length = es.length := by
    have := congrArg List.length h3
    rwa [List.length_map, List.length_map] at this
  show wpAny _ _ (do return Value.bool (← contains (.ref q) v)) _ _ s
  refine wpAny_bind ?_
  unfold contains
  try with_reducible refine wpAny_holding ?_
  rw [stdlibNamesSay?_ref]
  refine wpAny_bind (wpAny_specialOf view.typeIs dv_no_contains ?_)
  show wpAny _ _ (if ((none : Option Value) == some Value.none) = true then _ else _) _ _ s
  rw [if_neg (by decide)]
  refine wpAny_bind (wpAny_callSpecialUnlessNone?_none (name := Str.ofString "__contains__") view.typeIs dv_no_contains ?_)
  refine wpAny_bind (wpAny_rule ?_)
  refine wpAny_bind (wpAny_tryCatch (wpAny_pyIter_values_raw view raw ?_))
  have I1 : Inv X pins σ H { s with heap := s.heap.push { cls := .type "dict_valueiterator", data := .fields #[.ref a, .int 0 0, .int de.size 0, .int ep 0] } } := I.kept (t' := s.toks) fun b ob e => Heap.get?_push_of_some _ e
  have fp : FpOk X pins H s.heap.objs.size := I.fpOk (Nat.le_refl _) (I.hok.fresh (Nat.le_refl _))
  have ne : a ≠ s.heap.objs.size := Nat.ne_of_lt (Heap.lt_size g1)
  refine wpAny_bind (wpAny_runValue (values_loop (es := de) (I.ok.hd hc) fp ne (hds.trans (hxe.symm.trans hs.symm)) hu dx sx rx (fun i hi => ?_) de.size 0 _ rfl (Nat.zero_le _) I1 ⟨_, Heap.get?_push_size _ rfl, rfl, rfl⟩ (raw.at fun ob e => Heap.get?_push_of_some _ e) fun s' I' => ?_))
  · have hix : i < xs.length := by omega
    have hie : i < es.length := by omega
    obtain ⟨v', dd, z1, z2, z3⟩ : ∃ v' dd, (es.map (·.2.2))[i]? = some v' ∧ ds[i]? = some dd ∧ Dp X.K H v' dd := by
      have go : ∀ {vs : List V} {ds : List PyData}, DpAll X.K H vs ds → ∀ i, i < vs.length → ∃ v' dd, vs[i]? = some v' ∧ ds[i]? = some dd ∧ Dp X.K H v' dd := by
        intro vs ds h
        induction vs generalizing ds with
        | nil => intro i hi; cases hi
        | cons v vs ih => cases h with
          | cons d0 r =>
            intro i hi
            cases i with
            | zero => exact ⟨_, _, rfl, rfl, d0⟩
            | succ i => exact ih r i (by simpa using hi)
      exact go da i (by rw [List.length_map]; exact hie)
    refine ⟨v', dd, z2, z3, sa dd (List.mem_of_getElem? z2), ?_⟩
    have e1 : de[i] = ⟨hsOf X xs[i].1, .ref xs[i].2.1, xs[i].2.2⟩ := by
      have : de.toList[i]? = some ⟨hsOf X xs[i].1, .ref xs[i].2.1, xs[i].2.2⟩ := by
        rw [g4, List.getElem?_map, List.getElem?_eq_getElem hix]
        rfl
      rw [Array.getElem?_toList, Array.getElem?_eq_getElem hi] at this
      exact Option.some.inj this
    rw [e1]
    obtain ⟨u', hu', r⟩ := h4.get z1
    rw [List.getElem?_map, List.getElem?_eq_getElem hix] at hu'
    rw [← Option.some.inj hu'] at r
    exact r
  · rw [List.drop_zero]
    refine wpAny_pure ?_
    exact wpAny_pure ⟨.bl _, H, I', rfl, hQ⟩
variable {oe e : Expr} {td te : TE} {apos pos cpos : Pos} {wo we : WE}
theorem mt_values {pins : List (Addr × Obj)} {σ : L2.St} {H : Hp} {s : Shared} {Q : VK} {a : Addr} {es : List (NestedKey × Addr × V)} (I : Inv X pins σ H s) (ha : Rd H a (rawN a (hsOf X) es)) (q : ∀ p, H p = none → Q (.ref p) (upd H p (valuesO p a))) :
    wpAny (model X.prog X.w) X.A (call (.builtin "dict.values") [.ref a]) (EP X pins σ Q) X.xe s := by
  obtain ⟨⟨h1, hd, xs, h3, h4, o, de, ep, g1, g2, g3, g4⟩, _, _⟩ := (show ObjOk X.prog X.w H s.heap a (rawN a (hsOf X) es) from ha.ok I.hok)
  refine call_meetsIn PySem.F.slot_dict_values ⟨o, g1, g2.1⟩ PySem.F.entry_dict_values (PySem.F.args_dict_values_1 _) (meets_dict_values_raw a hd) ⟨⟨de, ep, o, g1, g2, g3⟩, ?_⟩
  exact ⟨.ref s.heap.objs.size, upd H s.heap.objs.size (valuesO s.heap.objs.size a), I.laid (t' := s.toks) (fun b u e => Heap.get?_push_of_some _ e) (Nat.le_refl _) (valuesO_ok (Heap.get?_push_size _ rfl)), rfl, q _ (I.hok.fresh (Nat.le_refl _))⟩
theorem pe_valuesN (ho : PE X oe td) (hbase : attributeBase oe "values" X.env (eval oe X.env) = eval oe X.env) (hline : (apos.endLine == cpos.line) = true) :
    PE X (.Call (.Attribute oe "values" apos) [] [] cpos) (fun σ H Q => td σ H fun x H1 => ∃ a Hm es, x = .ref a ∧ NDict X.K (hsOf X) Hm H1 a es ∧ ∀ p, H1 p = none → Q (.ref p) (upd H1 p (valuesO p a))) := by
  refine ⟨fun pins s σ H Q I h => ?_⟩
  refine wpAny_Call_method0_late hbase hline (thn (ho.run pins s σ H _ I h) fun u s1 ⟨x, H1, I1, rx, a, Hm, es, ex, n, q1⟩ => ?_)
  subst ex
  obtain rfl : u = Value.ref a := rx
  obtain ⟨t1, t2⟩ := ndict_ty n I1
  exact ⟨"dict", "dict.values", PySem.F.plainAttrs_dict, PySem.F.slot_dict_values, PySem.F.type_dict_values, t1, t2, Calls.callWith_builtin rfl (PySem.evalArgs_none (mt_values I1 n.at_ q1))⟩
/-- x in d.values() -/
def wInVals (hs : NestedKey → Int) (we wo : WE) : WE := fun ρ μ P => we ρ μ fun x μ1 => wo ρ μ1 fun y μ2 => nDct hs μ2 y fun kvs => shapedD x = true ∧ (∀ e ∈ kvs, shapedD e.2 = true) ∧ P (.bool (kvs.any fun e => deepEq e.2 x)) μ2
theorem t_inVals {k : Nat} (hr : Room k X.A) (hc : X.calm = true) (he : PE X e (tD X.K we)) (ho : PE X oe (tD X.K wo)) (hbase : attributeBase oe "values" X.env (eval oe X.env) = eval oe X.env := by rfl) (hline : (apos.endLine == cpos.line) = true := by rfl)
    (hm : behindInMarks .In (.Call (.Attribute oe "values" apos) [] [] cpos) = false := by rfl) :
    PT X (.Compare e [.In] [.Call (.Attribute oe "values" apos) [] [] cpos] pos) (tDT X.K (wTest (wInVals (hsOf X) we wo))) :=
  PT.imp (pt_cmpR (op_inVals hc (by have := hr.un; omega)) he (pe_valuesN ho hbase hline) hm) (test_imp fun σ H Q ⟨R, ρ, μ, P, a, w, k⟩ => ⟨R, ρ, μ, _, a, w, fun x μ1 v H1 p1 o1 s1 i1 => ⟨R, ρ, μ1, _, a.step o1 s1, p1, fun y μ2 u H2 p2 o2 s2 i2 => by
    obtain ⟨b, es, kvs, rfl, n, h4, h5, sx, sv, p3⟩ := nDct_of o2 i2 p2
    refine ⟨b, _, es, rfl, n, fun p np => ?_⟩
    have sm : Same H2 (upd H2 p (valuesO p b)) := fun c u e => by rw [upd_ne (ne_of_none e np)]; exact e
    have s3 : Same (hid R μ2 H2) (upd H2 p (valuesO p b)) := hid_le.trans sm
    have d1 := ((i1.mono s2).mono s3).dpS sx
    have rd : Rd (upd H2 p (valuesO p b)) b (rawN b (hsOf X) es) := by
      rcases n.at_ with q | ⟨o, q⟩
      · exact .inl (sm _ _ q)
      · exact .inr ⟨o, sm _ _ q⟩
    have dall : ∀ {vs : List V} {ds : List DV}, Iss X.K (hid R μ2 H2) vs ds → (∀ z ∈ ds, shapedD z = true) → DpAll X.K (upd H2 p (valuesO p b)) vs (ds.map toPy) := by
      intro vs ds h
      induction vs generalizing ds with
      | nil => intro _; cases h; exact .nil
      | cons v vs ih => cases h with
        | cons h1 h2 => exact fun hz => .cons ((h1.mono s3).dpS (hz _ List.mem_cons_self)).1 (ih h2 fun z hz' => hz z (List.mem_cons_of_mem _ hz'))
    refine ⟨p, b, es, toPy x, (kvs.map (·.2)).map toPy, rfl, upd_same, rd, d1.1, d1.2, dall h5 fun z hz => ?_, fun z hz => ?_, ?_⟩
    · obtain ⟨e, he, rfl⟩ := List.mem_map.mp hz
      exact sv e he
    · obtain ⟨d, hd, rfl⟩ := List.mem_map.mp hz
      obtain ⟨e, he, rfl⟩ := List.mem_map.mp hd
      exact (Bool.and_eq_true_iff.mp (sv e he)).2
    · have e : ((kvs.map (·.2)).map toPy).any (fun z => PyData.eqv z (toPy x)) = kvs.any fun e => deepEq e.2 x := by
        rw [List.any_map, List.any_map]
        rfl
      rw [e]
      exact k _ _ _ _ p3 (o2.new np) ((s1.trans s2).trans (o2.sameNew np)) (.bool _)⟩⟩)
end
end Dz

set_option Elab.async false
set_option linter.all false
set_option maxRecDepth 100000
set_option maxHeartbeats 2000000
/-! DzF7: len(d), list(d), d.setdefault(k, x), d a dict with keys of any depth. -/
namespace Dz
open PySem PySem.Spec L2 PyProof.Rows

section
variable {X : Cx}
theorem call_len_dN : CallR X (.builtin "len") (fun xs H Q => ∃ a Hm es, xs = [.ref a] ∧ Same Hm H ∧ NDict X.K (hsOf X) Hm H a es ∧ Q (.int ((es.length : Nat) : Int)) H) := by
  intro pins s σ H xs us Q I r h
  obtain ⟨a, Hm, es, rfl, sm, n, q⟩ := h
  obtain rfl := Vals.ref1 r
  obtain ⟨z, hd, xs, hx, dd⟩ := n.dict I sm
  have hxl : xs.length = es.length := by
    have := congrArg List.length hx.1
    rwa [List.length_map, List.length_map] at this
  refine call_len_dictH hd dd (by rw [hxl]; rw [sizeLine_eq] at z; omega) ?_
  rw [hxl]
  exact ⟨.int ((es.length : Nat) : Int), H, I.tok _, ⟨_, rfl⟩, q⟩
theorem call_list_dN (hc : X.calm = true) : CallR X (.type "list") (fun xs H Q => ∃ a Hm es, xs = [.ref a] ∧ Same Hm H ∧ NDict X.K (hsOf X) Hm H a es ∧ ∀ l, H l = none → Q (.ref l) (upd H l (.lst (es.map fun e => .ref e.2.1)))) := by
  intro pins s σ H xs us Q I r h
  obtain ⟨a, Hm, es, rfl, sm, n, q⟩ := h
  obtain rfl := Vals.ref1 r
  obtain ⟨⟨h1, hd, xs, h3, h4, o, de, ep, g1, g2, g3, g4⟩, _, _⟩ := (show ObjOk X.prog X.w H s.heap a (rawN a (hsOf X) es) from n.at_.ok I.hok)
  have hs : de.size = xs.length := by rw [← Array.length_toList, g4, List.length_map]
  have hxe : xs.length = es.length := by
    have := congrArg List.length h3
    rwa [List.length_map, List.length_map] at this
  refine PySem.W.kdl_call (PySem.KdlSrc.rawDict (es := de) (ep := ep) hd) (I.ok.hd hc) ⟨o, g1, g2, g3⟩ (by omega) fun h' tk acc' c' kp e it => ?_
  have hv : Vals (es.map fun e => V.ref e.2.1) acc'.toList := by
    have l1 : acc'.toList.length = es.length := by rw [Array.length_toList, it.1]; omega
    refine vals_of_at (by rw [List.length_map, l1]) fun j x u hx hu => ?_
    rw [List.getElem?_map] at hx
    obtain ⟨e, he, rfl⟩ := Option.map_eq_some_iff.mp hx
    obtain ⟨hi, rfl⟩ := it.2 j u (by rw [← Array.getElem?_toList]; exact hu)
    have hix : j < xs.length := by omega
    have e1 : de[j] = ⟨hsOf X xs[j].1, .ref xs[j].2.1, xs[j].2.2⟩ := by
      have : de.toList[j]? = some ⟨hsOf X xs[j].1, .ref xs[j].2.1, xs[j].2.2⟩ := by
        rw [g4, List.getElem?_map, List.getElem?_eq_getElem hix]
        rfl
      rw [Array.getElem?_toList, Array.getElem?_eq_getElem hi] at this
      exact Option.some.inj this
    have e2 : (xs.map (fun x => (x.1, x.2.1)))[j]? = some (e.1, e.2.1) := by
      rw [h3, List.getElem?_map, he]
      rfl
    rw [List.getElem?_map, List.getElem?_eq_getElem hix] at e2
    have e3 := congrArg Prod.snd (Option.some.inj e2)
    rw [e1]
    show Value.ref xs[j].2.1 = .ref e.2.1
    rw [show xs[j].2.1 = e.2.1 from e3]
  exact ⟨.ref s.heap.objs.size, _, I.laid kp (Nat.le_refl _) (show ObjOk X.prog X.w _ h' _ (.lst (es.map fun e => V.ref e.2.1)) from ⟨by rw [List.length_map]; omega, acc'.toList, c', hv, e⟩), rfl, q _ (I.hok.fresh (Nat.le_refl _))⟩
variable {oe ke ve e : Expr} {td ty tx : TE} {apos pos cpos p : Pos} {wo wk wv w : WE}
def wLenN (hs : NestedKey → Int) : WB
  | [x], μ, P => nDct hs μ x fun kvs => P (.int ((kvs.length : Nat) : Int)) μ
  | _, _, _ => False
def wListN (hs : NestedKey → Int) : WB
  | [x], μ, P => nDct hs μ x fun kvs => P (.lst (kvs.map fun e => kd e.1)) μ
  | _, _, _ => False
theorem keys_is {K : PySem.W.Frag} {Hm : Hp} : ∀ {es : List (NestedKey × Addr × V)}, (∀ e ∈ es, e.1.depth ≤ 8 ∧ ∃ d, Is K Hm (.ref e.2.1) d ∧ nkey d = some e.1) → Iss K Hm (es.map fun e => V.ref e.2.1) (es.map fun e => kd e.1)
  | [], _ => .nil
  | e :: es, h => by
    obtain ⟨_, d, i, nk⟩ := h e List.mem_cons_self
    rw [List.map_cons, List.map_cons]
    refine .cons ?_ (keys_is fun z hz => h z (List.mem_cons_of_mem _ hz))
    rw [← nkey_kd d e.1 nk]
    exact i
theorem lenN_rd : RAD X.K (fun xs H Q => ∃ a Hm es, xs = [.ref a] ∧ Same Hm H ∧ NDict X.K (hsOf X) Hm H a es ∧ Q (.int ((es.length : Nat) : Int)) H) (wLenN (hsOf X)) := by
  intro R μ H vs ds P Q o i w k
  match ds, w with
  | [x], w =>
    obtain ⟨v, rfl, i1⟩ := i.one
    obtain ⟨a, es, kvs, rfl, n, h4, h5, t⟩ := nDct_of o i1 w
    have hl : es.length = kvs.length := by
      have := congrArg List.length h4
      rwa [List.length_map, List.length_map] at this
    exact ⟨a, _, es, rfl, hid_le, n, by rw [hl]; exact k.val o t (.int _)⟩
theorem listN_rd : RAD X.K (fun xs H Q => ∃ a Hm es, xs = [.ref a] ∧ Same Hm H ∧ NDict X.K (hsOf X) Hm H a es ∧ ∀ l, H l = none → Q (.ref l) (upd H l (.lst (es.map fun e => .ref e.2.1)))) (wListN (hsOf X)) := by
  intro R μ H vs ds P Q o i w k
  match ds, w with
  | [x], w =>
    obtain ⟨v, rfl, i1⟩ := i.one
    obtain ⟨a, es, kvs, rfl, n, h4, h5, t⟩ := nDct_of o i1 w
    refine ⟨a, _, es, rfl, hid_le, n, fun l nl => k.lst o t ?_ nl⟩
    rw [← keys_map h4]
    exact keys_is n.keys
theorem d_lenN (hg : Gl X "len") (hm : X.mg "len" = none) (ha : PE X e (tD X.K w)) (hs : starEach [e] X.env = [(false, eval e X.env)] := by rfl) : PE X (.Call (.Name "len" p) [e] [] pos) (tD X.K (wB (wLenN (hsOf X)) (wCons w wNil))) :=
  d_callB call_len_dN lenN_rd hg hm PySem.boot_len (da_cons ha da_nil hs) (by decide) (by decide) hs rfl
theorem d_listN (hg : Gl X "list") (hm : X.mg "list" = none) (ha : PE X e (tD X.K w)) (hc : X.calm = true := by rfl) (hs : starEach [e] X.env = [(false, eval e X.env)] := by rfl) : PE X (.Call (.Name "list" p) [e] [] pos) (tD X.K (wB (wListN (hsOf X)) (wCons w wNil))) :=
  d_callTy (call_list_dN hc) listN_rd hg hm (by decide +kernel) (da_cons ha da_nil hs) (by decide) (by decide) hs rfl
/-! ### setdefault -/
theorem n_setdef {A : Around} {E : Value → Shared → Prop} {pins : List (Addr × Obj)} {σ : L2.St} {H Hm : Hp} {s : Shared} {a b : Addr} {es : List (NestedKey × Addr × V)} {k : NestedKey} {d : DV} {v : V} {u : Value} {Q : Value → Shared → Prop} (hu : A.in1.units + 8 < cLine) (I : Inv X pins σ H s) (sm : Same Hm H) (n : NDict X.K (hsOf X) Hm H a es) (ik : Is X.K Hm (.ref b) d) (nk : nkey d = some k) (hk : k.depth ≤ 8) (rv : RelV v u) (hl : es.length < sizeLine) (bare : H a = some (rawN a (hsOf X) es))
    (h1 : ∀ w' s' x, lkE es k = some x → Inv X pins σ H s' → RelV x w' → Q w' s') (h2 : lkE es k = none → ∀ s', Inv X pins σ (upd H a (rawN a (hsOf X) (putE es k b v))) s' → Q u s') : wpAny (model X.prog X.w) A (call (.builtin "dict.setdefault") [.ref a, .ref b, u]) Q E s := by
  obtain ⟨_, hd, xs, hx, dd⟩ := n.dict I sm
  have hxl : xs.length = es.length := by
    have := congrArg List.length hx.1
    rw [List.length_map, List.length_map] at this
    exact this
  have r := hx.at (k := k)
  refine call_setdefault_heap (knd := KN X) (hsz := by rw [hxl]; omega) hu ⟨nkey_is I sm ik nk rfl, hk⟩ hd dd (fun p hp => ?_) fun hn h' dd' hs => ?_
  · rw [hp] at r
    cases e : lkE es k with
    | none => rw [e] at r; exact r.elim
    | some x => rw [e] at r; exact h1 _ _ x e (I.tok _) r
  · rw [hn] at r
    cases e : lkE es k with
    | some x => rw [e] at r; exact r.elim
    | none =>
      obtain ⟨q, ds, ep, hq, h2', h3, h4, _, h5⟩ := dd'
      have hp := hx.put (k := k) (b := b) rv
      refine h2 e _ (d_write I (by rw [bare]; exact True.intro) hs ⟨q, hq⟩ ⟨⟨?_, hd, storedH xs k b u, hp.1, hp.2, q, ds, ep, hq, h2', h3, h4⟩, ⟨q, hq⟩, ?_⟩)
      · have := putE_len es k b v
        omega
      · rintro h1 h2' ⟨z1, z2, xs', z3, z4, o, ds', ep', z5, z6⟩ keep
        exact ⟨z1, z2, xs', z3, z4, o, ds', ep', keep o z5, z6⟩
def tNSet2 (X : Cx) (td ty tx : TE) : TE := fun σ H Q => td σ H fun x H1 => ∃ a Hm es, x = .ref a ∧ NDict X.K (hsOf X) Hm H1 a es ∧ ty σ H1 fun y H2 => tx σ H2 fun z H3 => NHas X H3 (.ref a) y fun a b es k => es.length < sizeLine ∧ H3 a = some (rawN a (hsOf X) es) ∧
  (match lkE es k with | some v => Q v H3 | none => Q z (upd H3 a (rawN a (hsOf X) (putE es k b z))))
theorem pe_nset2 (hu : X.A.units + 9 < cLine) (ho : PE X oe td) (he : PE X ke ty) (hf : PE X ve tx) (m : M2 X oe "setdefault" apos ke ve cpos) : PE X (.Call (.Attribute oe "setdefault" apos) [ke, ve] [] cpos) (tNSet2 X td ty tx) := by
  refine ⟨fun pins s σ H Q I h => ?_⟩
  refine wpAny_Call_method m.base m.few m.line PySem.F.plainAttrs_dict PySem.F.slot_dict_setdefault PySem.F.type_dict_setdefault (thn (ho.run pins s σ H _ I h) fun u s1 ⟨x, H1, I1, rx, a, Hm, es, ex, n, q1⟩ => ?_)
  subst ex
  obtain rfl : u = Value.ref a := rx
  obtain ⟨t1, t2⟩ := ndict_ty n I1
  refine ⟨t1, t2, ?_⟩
  rw [m.trees]
  refine Calls.callWith_builtin rfl (Calls.evalArgs_plain (Calls.spliced_cons (thn (he.run pins s1 σ H1 _ I1 q1) fun kv s2 ⟨y, H2, I2, ry, q2⟩ => Calls.spliced_cons (thn (hf.run pins s2 σ H2 _ I2 q2) fun fv s3 ⟨z, H3, I3, rz, a', b, Hm2, es2, d, k, ea, ey, sm, n2, ik, nk, hk, hl, bare, q3⟩ => Calls.spliced_nil ?_))))
  cases ea
  subst ey
  obtain rfl : kv = Value.ref b := ry
  refine n_setdef (by show X.A.units + 1 + 8 < _; omega) I3 sm n2 ik nk hk rz hl bare (fun w' s' x e I' r => ?_) fun e s' I' => ?_
  · rw [e] at q3
    exact ⟨x, H3, I', r, q3⟩
  · rw [e] at q3
    exact ⟨z, _, I', rz, q3⟩
/-- d.setdefault(k, x) -/
def wNSetdef (hs : NestedKey → Int) (wo wk wv : WE) : WE := fun ρ μ P => wo ρ μ fun x μ1 => nDct hs μ1 x (fun _ => True) ∧ wk ρ μ1 fun y μ2 => wv ρ μ2 fun z μ3 => nAt hs μ3 x y fun a kvs k => kvs.length < sizeLine ∧
  (match lkN kvs k with | some d => P d μ3 | none => P z (updM μ3 a (.dcN hs (putN kvs k z))))
theorem d_nsetdef {k : Nat} (hr : Room k X.A) (ho : PE X oe (tD X.K wo)) (he : PE X ke (tD X.K wk)) (hf : PE X ve (tD X.K wv)) (m : M2 X oe "setdefault" apos ke ve cpos) : PE X (.Call (.Attribute oe "setdefault" apos) [ke, ve] [] cpos) (tD X.K (wNSetdef (hsOf X) wo wk wv)) :=
  PE.imp (pe_nset2 (by have := hr.un; omega) ho he hf m) fun σ H Q ⟨R, ρ, μ, P, a, w, k⟩ => ⟨R, ρ, μ, _, a, w, fun x μ1 v H1 p1 o1 s1 i1 => by
    obtain ⟨a0, es0, _, rfl, n0, _, _, _⟩ := nDct_of o1 i1 p1.1
    refine ⟨a0, _, es0, rfl, n0, R, ρ, μ1, _, a.step o1 s1, p1.2, fun y μ2 u H2 p2 o2 s2 i2 => ⟨R, ρ, μ2, _, a.step o2 (s1.trans s2), p2, fun z μ3 zv H3 p3 o3 s3 i3 => ?_⟩⟩
    obtain ⟨a', b, es, kvs, key, ea, rfl, e, n, h4, h5, nk, hk, hl, t⟩ := n_core o3 (i1.mono (s2.trans s3)) (i2.mono s3) p3
    cases ea
    have hlen : es.length = kvs.length := by have := congrArg List.length h4; simpa using this
    refine ⟨a0, b, _, es, y, key, rfl, rfl, hid_le, n, i2.mono s3, nk, hk, by rw [hlen]; exact hl, bare_of n (by obtain ⟨_, z, _⟩ := o3.ob a0 _ e; exact ⟨_, z⟩), ?_⟩
    rcases lk_rel (k := key) h4 h5 with ⟨z1, z2⟩ | ⟨vv, dd, z1, z2, iv⟩
    · rw [z2] at t
      rw [z1]
      obtain ⟨q1, q2⟩ := put_rel (k := key) (b := b) i3 h4 h5
      obtain ⟨q3, q4⟩ := put_keys (v := zv) (i2.mono s3) nk hk n.keys n.nd
      obtain ⟨o4, e4⟩ := o3.setM (o := rawN a0 (hsOf X) (putE es key b zv)) (m := .dcN (hsOf X) (putN kvs key z)) e (by intro z; cases z) ⟨_, upd_same, q3, q4, q1, q2⟩
      exact k _ _ _ _ t o4 (by rw [e4]; exact (s1.trans s2).trans s3) (by rw [e4]; exact i3)
    · rw [z2] at t
      rw [z1]
      exact (k.step ((s1.trans s2).trans s3)).val o3 t iv⟩
end
end Dz

set_option Elab.async false
set_option linter.all false
set_option maxRecDepth 100000
set_option maxHeartbeats 4000000
/-! DzK1: own classes: fields of an instance, methods, instances made. -/
namespace Dz
open PySem PySem.Spec L2 PyProof.Rows StX

/-! ### fields -/
def putFD (f : Str) (d : DV) : List (Str × DV) → List (Str × DV)
  | [] => [(f, d)]
  | (g, x) :: r => if g = f then (g, d) :: r else (g, x) :: putFD f d r
theorem Iss.fields {K : PySem.W.Frag} {Hm : Hp} : ∀ {gs : List (Str × V)} {fs : List (Str × DV)} {f : Str} {d : DV}, gs.map (·.1) = fs.map (·.1) → Iss K Hm (gs.map (·.2)) (fs.map (·.2)) → fs.lookup f = some d → ∃ v, gs.lookup f = some v ∧ Is K Hm v d
  | [], [], _, _, _, _, l => by cases l
  | [], _ :: _, _, _, h, _, _ => by cases h
  | _ :: _, [], _, _, h, _, _ => by cases h
  | (g, v) :: gs, (g', d') :: fs, f, d, h, r, l => by
    have h1 : g = g' := (List.cons.inj h).1
    subst h1
    cases r with
    | cons r rr =>
      rw [List.lookup_cons] at l ⊢
      cases e : (f == g) with
      | true =>
        rw [e] at l
        cases l
        exact ⟨v, rfl, r⟩
      | false =>
        rw [e] at l
        exact Iss.fields (List.cons.inj h).2 rr l
theorem fields_none : ∀ {gs : List (Str × V)} {fs : List (Str × DV)} {f : Str}, gs.map (·.1) = fs.map (·.1) → fs.lookup f = none → gs.lookup f = none
  | [], [], _, _, _ => rfl
  | [], _ :: _, _, h, _ => by cases h
  | _ :: _, [], _, h, _ => by cases h
  | (g, v) :: gs, (g', d') :: fs, f, h, l => by
    have h1 : g = g' := (List.cons.inj h).1
    subst h1
    rw [List.lookup_cons] at l ⊢
    cases e : (f == g) with
    | true => rw [e] at l; cases l
    | false =>
      rw [e] at l
      exact fields_none (List.cons.inj h).2 l
theorem Iss.putF {K : PySem.W.Frag} {Hm : Hp} {f : Str} {v : V} {d : DV} (i : Is K Hm v d) : ∀ {gs : List (Str × V)} {fs : List (Str × DV)}, gs.map (·.1) = fs.map (·.1) → Iss K Hm (gs.map (·.2)) (fs.map (·.2)) →
    (L2.putF f v gs).map (·.1) = (putFD f d fs).map (·.1) ∧ Iss K Hm ((L2.putF f v gs).map (·.2)) ((putFD f d fs).map (·.2))
  | [], [], _, _ => ⟨rfl, .cons i .nil⟩
  | [], _ :: _, h, _ => by cases h
  | _ :: _, [], h, _ => by cases h
  | (g, w) :: gs, (g', d') :: fs, h, r => by
    have h1 : g = g' := (List.cons.inj h).1
    subst h1
    cases r with
    | cons r rr =>
      have ih := Iss.putF (f := f) i (List.cons.inj h).2 rr
      unfold L2.putF putFD
      by_cases e : g = f
      · rw [if_pos e, if_pos e]
        exact ⟨h, .cons i rr⟩
      · rw [if_neg e, if_neg e]
        exact ⟨by rw [List.map_cons, List.map_cons, ih.1], .cons r ih.2⟩
/-- e.f of an instance of C -/
def wFld (C : Addr) (f : Str) (w : WE) : WE := fun ρ μ P => w ρ μ fun x μ1 => match x with
  | .obj a => match μ1 a with
    | some (.ins C' fs) => C' = C ∧ atW (fs.lookup f) fun d => P d μ1
    | _ => False
  | _ => False
/-- e.f = v -/
def wPutF (C : Addr) (f : Str) (wo wv : WE) : WS := fun E ρ μ => wv ρ μ fun y μ1 => wo ρ μ1 fun x μ2 => match x with
  | .obj a => match μ2 a with
    | some (.ins C' fs) => C' = C ∧ fs.length < 1000 ∧ E.nx ρ (updM μ2 a (.ins C (putFD f y fs)))
    | _ => False
  | _ => False
section
variable {X : Cx} {C : Addr} {f : Str} {e o value : Expr} {pos pos' : Pos} {w wo wv : WE}
theorem d_fld (c : Cls X.K C) (n : NoAttr X.K C f) (he : PE X e (tD X.K w)) (hb : attributeBase e f X.env (eval e X.env) = eval e X.env := by rfl) : PE X (.Attribute e f pos) (tD X.K (wFld C f w)) :=
  PE.imp (pe_fld he hb) fun σ H Q ⟨R, ρ, μ, P, a, w, k⟩ => ⟨R, ρ, μ, _, a, w, fun x μ1 v H1 p1 o1 s1 i1 => by
    cases i1 with
    | obj b =>
      have p2 : (match μ1 b with | some (.ins C' fs) => C' = C ∧ atW (fs.lookup f) (fun d => P d μ1) | _ => False) := p1
      split at p2
      · rename_i C' fs em
        obtain ⟨rfl, p3⟩ := p2
        obtain ⟨d, hd, p4⟩ := atW_of p3
        obtain ⟨dx, gs, hH, hk, hr⟩ := o1.ob b _ em
        obtain ⟨v, hv, iv⟩ := Iss.fields hk hr hd
        exact ⟨b, C', dx, gs, v, rfl, hH, c, n, hv, k _ _ _ _ p4 o1 s1 iv⟩
      · exact p2.elim
    | _ => exact (show False from p1).elim⟩
theorem ds_fld (c : Cls X.K C) (n : NoAttr X.K C f) (ho : PE X o (tD X.K wo)) (hv : PE X value (tD X.K wv)) (hs : swapsWith value (some (.Attribute o f pos')) pos.line X.env = pure false := by rfl) : PS X (.Assign [.Attribute o f pos'] value pos) (tDS X.K (wPutF C f wo wv)) :=
  PS.imp (ps_fld ho hv hs) fun D σ H ⟨R, ρ, μ, E, a, w, k⟩ => ⟨R, ρ, μ, _, a, w, fun y μ1 v H1 p1 o1 s1 i1 => ⟨R, ρ, μ1, _, a.step o1 s1, p1, fun x μ2 u H2 p2 o2 s2 i2 => by
    cases i2 with
    | obj b =>
      have p3 : (match μ2 b with | some (.ins C' fs) => C' = C ∧ fs.length < 1000 ∧ E.nx ρ (updM μ2 b (.ins C (putFD f y fs))) | _ => False) := p2
      split at p3
      · rename_i C' fs em
        obtain ⟨rfl, hl, p4⟩ := p3
        obtain ⟨dx, gs, hH, hk, hr⟩ := o2.ob b _ em
        obtain ⟨h1, h2⟩ := Iss.putF (f := f) (i1.mono s2) hk hr
        obtain ⟨o4, e4⟩ := o2.setM (o := .ins C' dx (L2.putF f v gs)) (m := .ins C' (putFD f y fs)) em (by intro z; cases z) ⟨dx, _, upd_same, h1, h2⟩
        have hlen : gs.length = fs.length := by have := congrArg List.length hk; simpa using this
        refine ⟨b, C', dx, gs, rfl, hH, c, n, by rw [hlen]; exact hl, k.nx ρ _ σ _ p4 ⟨o4, ?_⟩ ?_⟩
        · rw [e4]
          exact a.sl.mono (s1.trans s2)
        · rw [e4]
          exact s1.trans s2
      · exact p3.elim
    | _ => exact (show False from p2).elim⟩⟩
end
end Dz

set_option Elab.async false
set_option linter.all false
set_option maxRecDepth 100000
set_option maxHeartbeats 4000000
/-! DzK2: methods called, instances made. -/
namespace Dz
open PySem PySem.Spec L2 PyProof.Rows StX

/-- the method m of the class C is the def st -/
def AtM (K : PySem.W.Frag) (C : Addr) (m qual : Str) (st : Stmt) : Prop := ∃ f fd, Cls K C ∧ Meth K C m f ∧ Fun K m qual st f fd
def DefM (P : Program) (w : World) (K : PySem.W.Frag) (mg : Str → Option Value) (base : Heap) (k : Nat) (C : Addr) (m qual : Str) (st : Stmt) (ps : List Str) (wf : WF) : Prop :=
  ∃ f fd, Cls K C ∧ Meth K C m f ∧ Fun K m qual st f fd ∧ FnG P w K mg base k f fd ps (spD K ps.length wf)
theorem DefM.mono {P : Program} {w : World} {K : PySem.W.Frag} {mg : Str → Option Value} {base : Heap} {j k : Nat} {C : Addr} {m qual : Str} {st : Stmt} {ps : List Str} {wf : WF} (h : DefM P w K mg base j C m qual st ps wf) (l : j ≤ k) : DefM P w K mg base k C m qual st ps wf :=
  let ⟨f, fd, a, b, c, d⟩ := h; ⟨f, fd, a, b, c, d.mono l⟩
theorem DefM.no {P : Program} {w : World} {K : PySem.W.Frag} {mg : Str → Option Value} {base : Heap} {k : Nat} {C : Addr} {m qual : Str} {st : Stmt} {ps : List Str} (h : AtM K C m qual st) : DefM P w K mg base k C m qual st ps wfNo := by
  obtain ⟨f, fd, a, b, c⟩ := h
  exact ⟨f, fd, a, b, c, fun vs H Q E ⟨_, _, _, _, _, _, _, z, _⟩ => z.elim, fun A fr s H ar us vs Q E _ _ _ _ _ ⟨_, _, _, _, _, _, _, z, _⟩ => z.elim⟩
theorem defM_of {P : Program} {w0 : World} {K : PySem.W.Frag} {mg : Str → Option Value} {base : Heap} {C : Addr} {m qual : Str} {st : Stmt} {N ps : List Str} {k : Nat} {w : WS} {wf : WF} (h : AtM K C m qual st) (S : FnScope N ps (defScope st))
    (hb : ∀ (f : Addr) (cdv : Value) (A : Around) (outer : List Env) (s : Shared) (H : Hp) (E : XK), A.guards = some [] → Room k (A.deeper (PyProof.Rows.envOfC qual (defScope st) s.heap.objs.size f cdv)) →
      PSs (cxOf CX0 P w0 K mg base N qual (defScope st) f cdv A outer s H E).nox (defBody st) (tDS K w))
    (hw : ∀ ds μ Q, ds.length = ps.length → wf ds μ Q → w { nx := fun _ μ' => Q .none μ', rt := Q } (ds.map some ++ List.replicate (N.length - ps.length) none) μ) : DefM P w0 K mg base (k + 1) C m qual st ps wf := by
  obtain ⟨f, fd, a, b, F⟩ := h
  exact ⟨f, fd, a, b, F, fn_dat F S rfl (hb f) hw⟩
/-- o.m(e, ..), o an instance of C -/
def wMeth (C : Addr) (m : Str) (n : Nat) (wf : WF) (wo : WE) (wa : WA) : WE := fun ρ μ P => wo ρ μ fun x μ1 => match x with
  | .obj a => (match μ1 a with | some (.ins C' fs) => C' = C ∧ fs.lookup m = none | _ => False) ∧ wa ρ μ1 fun ds μ2 => (DV.obj a :: ds).length = n ∧ wf (.obj a :: ds) μ2 P
  | _ => False
section
variable {X : Cx} {k j n : Nat} {C : Addr} {st : Stmt} {ps : List Str} {wf : WF} {m qual : Str} {apos pos : Pos} {o e : Expr} {es : List Expr} {wo : WE} {wa : WA} {pl : Sem Bool}
theorem insOf {K : PySem.W.Frag} {R : Hp} {μ : Mh} {H : Hp} {b C : Addr} {m : Str} (o : Ok K R μ H) (h : match μ b with | some (.ins C' fs) => C' = C ∧ fs.lookup m = none | _ => False) : ∃ dx gs, H b = some (.ins C dx gs) ∧ gs.lookup m = none := by
  split at h
  · rename_i C' fs em
    obtain ⟨rfl, hl⟩ := h
    obtain ⟨dx, gs, hH, hk, hr⟩ := o.ob b _ em
    exact ⟨dx, gs, hH, fields_none hk hl⟩
  · exact h.elim
theorem d_meth (D : DefM X.prog X.w X.K X.mg X.base k C m qual st ps wf) (hgd : X.A.guards = some []) (hr : Room j X.A) (hk : k ≤ j) (ho : PE X o (tD X.K wo))
    (hb : ∀ (kV doc pm : Value) (an : Option Addr) (cdv ct : Value) (us : List Value), us.length = ps.length → bindArgs (PySem.W.fnOf m qual (defArgs st) (defBody st) (defScope st) .none kV doc pm an cdv ct) ⟨us, []⟩ = pure (ps.zip us))
    (ha : PA X (e :: es) (tDA X.K wa)) (hst : starEach (e :: es) X.env = (false, eval e X.env) :: starEach es X.env := by rfl) (hpl : (backTo pos (starEach es X.env)).any (·.1) = false := by rfl)
    (ht : eval (.Call (.Attribute o m apos) (e :: es) [] pos) X.env = (do
      let ov ← eval o X.env
      standAt apos.atName
      let (f, first) ← holding [ov] (getMethod ov m pl)
      callWith pos f first (backTo pos (starEach (e :: es) X.env)) (backToKw pos (keywordEach [] X.env))) := by rfl) (hn : ps.length = n := by rfl) :
    PE X (.Call (.Attribute o m apos) (e :: es) [] pos) (tD X.K (wMeth C m n wf wo wa)) := by
  subst hn
  obtain ⟨f, fd, c, hm, F, G⟩ := D
  refine ⟨fun pins s σ H Q I ⟨R, ρ, μ, P, a, w, kk⟩ => ?_⟩
  have h1 : tD X.K wo σ H (fun x H1 => ∃ b dx gs, x = V.ref b ∧ H1 b = some (.ins C dx gs) ∧ gs.lookup m = none ∧ tDA X.K wa σ H1 fun vs H2 => spD X.K ps.length wf (.ref b :: vs) H2 Q E0) := ⟨R, ρ, μ, _, a, w, fun x μ1 v H1 p1 o1 s1 i1 => by
    cases i1 with
    | obj b =>
      obtain ⟨p2, p3⟩ := p1
      obtain ⟨dx, gs, e1, e2⟩ := insOf o1 p2
      exact ⟨b, dx, gs, rfl, e1, e2, R, ρ, μ1, _, a.step o1 s1, p3, fun ds μ2 vs H2 p4 o2 s2 i2 => ⟨R, .obj b :: ds, μ2, P, o2, .cons (.obj b) i2, p4.1, p4.2, kk.step (s1.trans s2)⟩⟩
    | _ => exact (show False from p1).elim⟩
  refine PySem.W.methodCall_KW (pl := pl) (thn (ho.run pins s σ H _ I h1) fun u s1 ⟨x, H1, I1, rx, b, dx, fs, ex, ea, l, q⟩ => ?_) ht
  subst ex
  obtain rfl : u = Value.ref b := rx
  refine getmeth_ok I1 ea c hm l ?_
  refine PySem.W.callWith_K (first := [.ref b]) (h₀ := X.base) I.ok.mod.kin hm.kp (thn (ha.run pos pins s1 σ H1 _ I1 q) fun us s2 ⟨vs, H2, I2, r, q2⟩ => ⟨I2.kIn, ?_⟩) hst hpl
  have rr : Vals (V.ref b :: vs) (Value.ref b :: us) := .cons rfl r
  have hbb := F.binds hb s2 (.ref b :: us) I2.kIn (by rw [List.append_nil, ← rr.length]; exact G.len _ _ _ _ q2)
  rw [List.append_nil] at hbb
  exact runG (ar := ⟨.ref b :: us, []⟩) G hgd (hr.mono hk) I2 hbb rr q2
theorem d_meth0 (D : DefM X.prog X.w X.K X.mg X.base k C m qual st ps wf) (hgd : X.A.guards = some []) (hr : Room j X.A) (hk : k ≤ j) (ho : PE X o (tD X.K wo))
    (hb : ∀ (kV doc pm : Value) (an : Option Addr) (cdv ct : Value) (us : List Value), us.length = ps.length → bindArgs (PySem.W.fnOf m qual (defArgs st) (defBody st) (defScope st) .none kV doc pm an cdv ct) ⟨us, []⟩ = pure (ps.zip us))
    (ht : eval (.Call (.Attribute o m apos) [] [] pos) X.env = (do
      let ov ← eval o X.env
      standAt apos.atName
      let (f, first) ← holding [ov] (getMethod ov m pl)
      callWith pos f first (backTo pos (starEach [] X.env)) (backToKw pos (keywordEach [] X.env))) := by rfl) (hn : ps.length = n := by rfl) :
    PE X (.Call (.Attribute o m apos) [] [] pos) (tD X.K (wMeth C m n wf wo wNil)) := by
  subst hn
  obtain ⟨f, fd, c, hm, F, G⟩ := D
  refine ⟨fun pins s σ H Q I ⟨R, ρ, μ, P, a, w, kk⟩ => ?_⟩
  have h1 : tD X.K wo σ H (fun x H1 => ∃ b dx gs, x = V.ref b ∧ H1 b = some (.ins C dx gs) ∧ gs.lookup m = none ∧ spD X.K ps.length wf [.ref b] H1 Q E0) := ⟨R, ρ, μ, _, a, w, fun x μ1 v H1 p1 o1 s1 i1 => by
    cases i1 with
    | obj b =>
      obtain ⟨p2, p3⟩ := p1
      obtain ⟨dx, gs, e1, e2⟩ := insOf o1 p2
      exact ⟨b, dx, gs, rfl, e1, e2, R, [.obj b], μ1, P, o1, .cons (.obj b) .nil, p3.1, p3.2, kk.step s1⟩
    | _ => exact (show False from p1).elim⟩
  refine PySem.W.methodCall_KW (pl := pl) (thn (ho.run pins s σ H _ I h1) fun u s1 ⟨x, H1, I1, rx, b, dx, fs, ex, ea, l, q⟩ => ?_) ht
  subst ex
  obtain rfl : u = Value.ref b := rx
  refine getmeth_ok I1 ea c hm l ?_
  have rr : Vals [V.ref b] [Value.ref b] := .cons rfl .nil
  have hbb := F.binds hb s1 [.ref b] I1.kIn (by rw [List.append_nil, ← rr.length]; exact G.len _ _ _ _ q)
  rw [List.append_nil] at hbb
  exact PySem.W.callWith_K0 (first := [.ref b]) I1.kIn hm.kp (runG (ar := ⟨[.ref b], []⟩) G hgd (hr.mono hk) I1 hbb rr q)
end
end Dz

set_option Elab.async false
set_option linter.all false
set_option maxRecDepth 100000
set_option maxHeartbeats 4000000
/-! DzK3: C(..), an instance made. -/
namespace Dz
open PySem PySem.Spec L2 PyProof.Rows StX

theorem guards_make {A : Around} (h : A.guards = some []) (C : Addr) (us : List Value) (kw : List (Str × Value)) : (A.under (.builtin "type.__call__" ⟨.ref C :: us, kw⟩)).guards = some [] := by
  first
    | exact h
    | (unfold Around.under; rw [h]; rfl)
    | (simp [Around.under, h]; done)
/-- the class C makes its instances by the def st -/
def DefK (P : Program) (w : World) (K : PySem.W.Frag) (mg : Str → Option Value) (base : Heap) (k : Nat) (x : Str) (C : Addr) (qual : Str) (st : Stmt) (ps : List Str) (wf : WF) : Prop :=
  ∃ f fd, Mk K C f ∧ mg x = some (.ref C) ∧ Fun K "__init__" qual st f fd ∧ FnG P w K mg base k f fd ps (spD K ps.length wf)
def AtK (K : PySem.W.Frag) (mg : Str → Option Value) (x : Str) (C : Addr) (qual : Str) (st : Stmt) : Prop := ∃ f fd, Mk K C f ∧ mg x = some (.ref C) ∧ Fun K "__init__" qual st f fd
theorem DefK.mono {P : Program} {w : World} {K : PySem.W.Frag} {mg : Str → Option Value} {base : Heap} {j k : Nat} {x : Str} {C : Addr} {qual : Str} {st : Stmt} {ps : List Str} {wf : WF} (h : DefK P w K mg base j x C qual st ps wf) (l : j ≤ k) : DefK P w K mg base k x C qual st ps wf :=
  let ⟨f, fd, a, b, c, d⟩ := h; ⟨f, fd, a, b, c, d.mono l⟩
theorem defK_of {P : Program} {w0 : World} {K : PySem.W.Frag} {mg : Str → Option Value} {base : Heap} {x : Str} {C : Addr} {qual : Str} {st : Stmt} {N ps : List Str} {k : Nat} {w : WS} {wf : WF} (h : AtK K mg x C qual st) (S : FnScope N ps (defScope st))
    (hb : ∀ (f : Addr) (cdv : Value) (A : Around) (outer : List Env) (s : Shared) (H : Hp) (E : XK), A.guards = some [] → Room k (A.deeper (PyProof.Rows.envOfC qual (defScope st) s.heap.objs.size f cdv)) →
      PSs (cxOf CX0 P w0 K mg base N qual (defScope st) f cdv A outer s H E).nox (defBody st) (tDS K w))
    (hw : ∀ ds μ Q, ds.length = ps.length → wf ds μ Q → w { nx := fun _ μ' => Q .none μ', rt := Q } (ds.map some ++ List.replicate (N.length - ps.length) none) μ) : DefK P w0 K mg base (k + 1) x C qual st ps wf := by
  obtain ⟨f, fd, a, b, F⟩ := h
  exact ⟨f, fd, a, b, F, fn_dat F S rfl (hb f) hw⟩
/-- C(..) -/
def wMake (C : Addr) (n : Nat) (wf : WF) (wa : WA) : WE := fun ρ μ P => wa ρ μ fun ds μ1 => ∀ p, μ1 p = none → (DV.obj p :: ds).length = n ∧ wf (.obj p :: ds) (updM μ1 p (.ins C [])) fun r μ2 => r = .none ∧ P (.obj p) μ2
section
variable {X : Cx} {k j n : Nat} {C : Addr} {st : Stmt} {ps : List Str} {wf : WF} {x qual : Str} {p pos : Pos} {e : Expr} {es : List Expr} {wa : WA}
theorem runGmake {pins : List (Addr × Obj)} {σ : L2.St} {H : Hp} {s : Shared} {Q : VK} {us : List Value} {vs : List V} {f : Addr} {fd : FuncData} {sp : Sp} (M : Mk X.K C f) (F : FnG X.prog X.w X.K X.mg X.base k f fd ps sp) (hgd : X.A.guards = some []) (hr : Room (k + 1) X.A) (hb : Binds X.K fd ps [])
    (I : Inv X pins σ H s) (r : Vals vs us)
    (h : ∀ x dx, H x = none → H dx = none → dx ≠ x → sp (.ref x :: vs) (upd (upd H dx (.own x)) x (.ins C dx [])) (fun v H2 => v = .non ∧ Q (.ref x) H2) E0) :
    wpAny (model X.prog X.w) X.A (call (.ref C) us) (EP X pins σ Q) X.xe s := by
  have hq := h (s.heap.objs.size + 1) s.heap.objs.size (I.hok.fresh (Nat.le_succ _)) (I.hok.fresh (Nat.le_refl _)) (Nat.ne_of_lt (Nat.lt_succ_self _))
  have I2 := Inv.made (C := C) I
  have r2 : Vals (V.ref (s.heap.objs.size + 1) :: vs) (Value.ref (s.heap.objs.size + 1) :: us) := .cons rfl r
  have hl : (Value.ref (s.heap.objs.size + 1) :: us).length = ps.length := by
    have e := r2.length
    rw [F.len _ _ _ _ hq] at e
    exact e.symm
  have hbb := hb _ (Value.ref (s.heap.objs.size + 1) :: us) I2.kIn (by rw [List.append_nil]; exact hl)
  rw [List.append_nil] at hbb
  refine wpAny_call (make_map (f := f) I.kIn M.makes M.init (beq_iff_eq.mp M.fn) (codeAny_mono (F.run _ X.stack _ _ ⟨Value.ref (s.heap.objs.size + 1) :: us, []⟩ (Value.ref (s.heap.objs.size + 1) :: us) _ _ E0 (guards_make hgd C us []) (hr.make C us [])
    (I2.env0.make C us []) hbb r2 hq) fun r s' hq' => ?_))
  match r, hq' with
  | .ok (.ret u), hq' =>
    obtain ⟨v, H', I3, rv, ev, q3⟩ := I2.after hq'
    subst ev
    exact ⟨rv, ⟨V.ref (s.heap.objs.size + 1), H', I3, rfl, q3⟩⟩
/-- the new instance over data -/
theorem make_imp {K : PySem.W.Frag} {R : Hp} {μ : Mh} {H : Hp} {P : DV → Mh → Prop} {Q : VK} {vs : List V} {ds : List DV} (o : Ok K R μ H) (i : Iss K (hid R μ H) vs ds) (kk : Nxt K R μ H P Q)
    (h : ∀ p, μ p = none → (DV.obj p :: ds).length = ps.length ∧ wf (.obj p :: ds) (updM μ p (.ins C [])) fun r μ2 => r = .none ∧ P (.obj p) μ2) (x dx : Addr) (nx : H x = none) (nd : H dx = none) (ne : dx ≠ x) :
    spD K ps.length wf (.ref x :: vs) (upd (upd H dx (.own x)) x (.ins C dx [])) (fun v H2 => v = .non ∧ Q (.ref x) H2) E0 := by
  have o1 := o.new (o := .own x) nd
  have s1 := o.sameNew (o := .own x) nd
  have nx1 : upd H dx (.own x) x = none := by rw [upd_ne (Ne.symm ne)]; exact nx
  obtain ⟨o2, s2⟩ := o1.newM (o := .ins C dx []) (m := .ins C []) nx1 ⟨dx, [], upd_same, rfl, .nil⟩ (by intro z; cases z)
  obtain ⟨h1, h2⟩ := h x (o.freeM nx)
  refine ⟨R, .obj x :: ds, _, _, o2, .cons (.obj x) (i.mono (s1.trans s2)), h1, h2, fun d μ' v H' ⟨hd, hp⟩ o' s' i' => ?_⟩
  subst hd
  cases i'
  exact ⟨rfl, kk _ _ _ _ hp o' ((s1.trans s2).trans s') (.obj x)⟩
theorem d_make (D : DefK X.prog X.w X.K X.mg X.base k x C qual st ps wf) (hgd : X.A.guards = some []) (hr : Room j X.A) (hk : k + 1 ≤ j) (hg : Gl X x)
    (hb : ∀ (kV doc pm : Value) (an : Option Addr) (cdv ct : Value) (us : List Value), us.length = ps.length → bindArgs (PySem.W.fnOf "__init__" qual (defArgs st) (defBody st) (defScope st) .none kV doc pm an cdv ct) ⟨us, []⟩ = pure (ps.zip us))
    (ha : PA X (e :: es) (tDA X.K wa)) (hdb : (x == ("__debug__" : Str)) = false := by decide) (he : starEach (e :: es) X.env = (false, eval e X.env) :: starEach es X.env := by rfl) (hpl : (backTo pos (starEach es X.env)).any (·.1) = false := by rfl) (hn : ps.length = n := by rfl) :
    PE X (.Call (.Name x p) (e :: es) [] pos) (tD X.K (wMake C n wf wa)) := by
  subst hn
  obtain ⟨f, fd, M, hm, F, G⟩ := D
  refine ⟨fun pins s σ H Q I ⟨R, ρ, μ, P, a, w, kk⟩ => ?_⟩
  have h1 : tDA X.K wa σ H (fun vs H1 => ∀ x dx, H1 x = none → H1 dx = none → dx ≠ x → spD X.K ps.length wf (.ref x :: vs) (upd (upd H1 dx (.own x)) x (.ins C dx [])) (fun v H2 => v = .non ∧ Q (.ref x) H2) E0) := ⟨R, ρ, μ, _, a, w, fun ds μ1 vs H1 p1 o1 s1 i1 => make_imp o1 i1 (kk.step s1) p1⟩
  refine wpAny_Call_Name_kw (ld_glob I hg hm ?_ hdb)
  refine PySem.W.callWith_K (h₀ := X.base) I.ok.mod.kin M.kp (thn (ha.run pos pins s σ H _ I h1) fun us s1 ⟨vs, H1, I1, r, q⟩ => ⟨I1.kIn, ?_⟩) he hpl
  exact runGmake M G hgd (hr.mono hk) (F.binds hb) I1 r q
theorem d_make0 (D : DefK X.prog X.w X.K X.mg X.base k x C qual st ps wf) (hgd : X.A.guards = some []) (hr : Room j X.A) (hk : k + 1 ≤ j) (hg : Gl X x)
    (hb : ∀ (kV doc pm : Value) (an : Option Addr) (cdv ct : Value) (us : List Value), us.length = ps.length → bindArgs (PySem.W.fnOf "__init__" qual (defArgs st) (defBody st) (defScope st) .none kV doc pm an cdv ct) ⟨us, []⟩ = pure (ps.zip us))
    (hdb : (x == ("__debug__" : Str)) = false := by decide) (hn : ps.length = n := by rfl) : PE X (.Call (.Name x p) [] [] pos) (tD X.K (wMake C n wf wNil)) := by
  subst hn
  obtain ⟨f, fd, M, hm, F, G⟩ := D
  refine ⟨fun pins s σ H Q I ⟨R, ρ, μ, P, a, w, kk⟩ => ?_⟩
  refine wpAny_Call_Name_kw (ld_glob I hg hm ?_ hdb)
  exact PySem.W.callWith_K0 I.kIn M.kp (runGmake (us := []) M G hgd (hr.mono hk) (F.binds hb) I .nil (make_imp a.ok .nil kk w))
end
end Dz

set_option Elab.async false
set_option linter.all false
set_option maxRecDepth 100000
set_option maxHeartbeats 4000000
/-! DzK4: key in dict; any, all of truth values. -/
namespace Dz
open PySem PySem.Spec L2 PyProof.Rows StX

def rInKd (neg : Bool) : R2 := fun x y H Q => ∃ a o, y = .ref a ∧ DGet H a x o ∧ Q (.bl (if neg then !o.isSome else o.isSome)) H
section
variable {X : Cx}
theorem op_inKd (hu : X.A.units + 1 < cLine) : OpR X (compareOp .In) (rInKd false) := by
  intro pins s σ H x y v u Q I rx ry h
  obtain ⟨a, o, rfl, g, q⟩ := h
  cases ry
  exact d_in hu I g rx fun s' I' => ⟨.bl _, H, I', rfl, q⟩
theorem op_notInKd (hu : X.A.units + 1 < cLine) : OpR X (compareOp .NotIn) (rInKd true) := by
  intro pins s σ H x y v u Q I rx ry h
  obtain ⟨a, o, rfl, g, q⟩ := h
  cases ry
  exact d_notIn hu I g rx fun s' I' => ⟨.bl _, H, I', rfl, q⟩
/-- k in d, k not in d -/
def wInK : W2 := fun x y μ P => match look μ y with
  | .dct kvs => atW (keyD x) fun k => P (.bool (valD kvs k).isSome) μ
  | _ => False
def wNotInK : W2 := fun x y μ P => match look μ y with
  | .dct kvs => atW (keyD x) fun k => P (.bool (!(valD kvs k).isSome)) μ
  | _ => False
theorem valV_isSome {K : PySem.W.Frag} {Hm : Hp} {kvs : List (Key × V)} {ds : List (Key × DV)} {k : Key} (h : kvs.map (·.1) = ds.map (·.1)) (r : Iss K Hm (kvs.map (·.2)) (ds.map (·.2))) : (valV kvs k).isSome = (valD ds k).isSome := by
  cases e : valD ds k with
  | none => rw [valV_none h e]; rfl
  | some d =>
    obtain ⟨z, h1, _⟩ := Iss.val h r e
    first | (rw [h1]; rfl) | (rw [← h1]; rfl)
theorem inK_core {K : PySem.W.Frag} {R : Hp} {μ : Mh} {H : Hp} {x y : V} {dx dy : DV} {P : Bool → Prop} (ok : Ok K R μ H) (ix : Is K (hid R μ H) x dx) (iy : Is K (hid R μ H) y dy) (w : match look μ dy with | .dct kvs => atW (keyD dx) fun k => P (valD kvs k).isSome | _ => False) :
    ∃ a o, y = .ref a ∧ DGet H a x o ∧ P o.isSome := by
  have i2 := iy.look ok
  generalize look μ dy = z at i2 w
  cases i2 with
  | @dct b ks ds hx hk rx =>
    obtain ⟨k, h1, p⟩ := atW_of (show atW (keyD dx) (fun k => P (valD ds k).isSome) from w)
    refine ⟨b, valV ks k, rfl, by rw [keyD_of ix h1]; exact DGet.k hx, ?_⟩
    rw [valV_isSome hk rx]
    exact p
  | _ => exact (show False from w).elim
theorem inK_rd {K : PySem.W.Frag} : R2D K (rInKd false) wInK := by
  intro R μ H x y dx dy P Q ok ix iy w k
  obtain ⟨a, o, e, g, p⟩ := inK_core (P := fun b => P (.bool b) μ) ok ix iy w
  exact ⟨a, o, e, g, k.val ok p (.bool _)⟩
theorem notInK_rd {K : PySem.W.Frag} : R2D K (rInKd true) wNotInK := by
  intro R μ H x y dx dy P Q ok ix iy w k
  obtain ⟨a, o, e, g, p⟩ := inK_core (P := fun b => P (.bool (!b)) μ) ok ix iy w
  exact ⟨a, o, e, g, k.val ok p (.bool _)⟩
variable {a b : Expr} {wa wb : WE} {pos : Pos}
theorem c_inK {k : Nat} (hr : Room k X.A) (ha : PE X a (tD X.K wa)) (hb : PE X b (tD X.K wb)) (hm : behindInMarks .In b = false) : PE X (.Compare a [.In] [b] pos) (tD X.K (wBin wInK wa wb)) := d_cmp (op_inKd (by have := hr.un; omega)) inK_rd ha hb hm
theorem c_notinK {k : Nat} (hr : Room k X.A) (ha : PE X a (tD X.K wa)) (hb : PE X b (tD X.K wb)) (hm : behindInMarks .NotIn b = false) : PE X (.Compare a [.NotIn] [b] pos) (tD X.K (wBin wNotInK wa wb)) := d_cmp (op_notInKd (by have := hr.un; omega)) notInK_rd ha hb hm
theorem t_inK {k : Nat} (hr : Room k X.A) (ha : PE X a (tD X.K wa)) (hb : PE X b (tD X.K wb)) (hm : behindInMarks .In b = false) : PT X (.Compare a [.In] [b] pos) (tDT X.K (wTest (wBin wInK wa wb))) := dt_cmp (op_inKd (by have := hr.un; omega)) inK_rd ha hb hm
theorem t_notinK {k : Nat} (hr : Room k X.A) (ha : PE X a (tD X.K wa)) (hb : PE X b (tD X.K wb)) (hm : behindInMarks .NotIn b = false) : PT X (.Compare a [.NotIn] [b] pos) (tDT X.K (wTest (wBin wNotInK wa wb))) := dt_cmp (op_notInKd (by have := hr.un; omega)) notInK_rd ha hb hm
end
end Dz

set_option Elab.async false
set_option linter.all false
set_option maxRecDepth 100000
set_option maxHeartbeats 2000000
/-! DzF8: {k: v for .. in .. if ..} whose keys are texts or ints; name += e. -/
namespace Dz
open PySem PySem.Spec L2 PyProof.Rows

def compK (g : WG) (t : WT) (k v : WE) (ρ : Rho) : List DV → List (Key × DV) → Mh → (List (Key × DV) → Mh → Prop) → Prop
  | [], acc, μ, P => P acc μ
  | x :: xs, acc, μ, P => g x ρ fun ρ1 => t ρ1 μ fun b μ1 => match b with
    | true => k ρ1 μ1 fun y μ2 => v ρ1 μ2 fun z μ3 => atW (keyD y) fun key => acc.length < sizeLine ∧ compK g t k v ρ xs (putD acc key z) μ3 P
    | false => compK g t k v ρ xs acc μ1 P
/-- {k: v for g in ws if t} -/
def wDcK (ws : WI) (g : WG) (t : WT) (k v : WE) (vs : List Nat) : WE := fun ρ μ P => ws ρ μ fun xs μ1 => compK g t k v (wipeD ρ vs) xs [] μ1 fun acc μ2 => P (.dct acc) μ2
section
variable {X : Cx} {kx vx tg iter : Expr} {ifs : List Expr} {scope : Scope} {own : List (Str × Nat)} {pos : Pos} {ws : WI} {g : WG} {t : WT} {ek ev : WE} {sl : List Nat}
theorem dcK_imp {K : PySem.W.Frag} {vs : List Nat} (hv : ∀ i ∈ sl, i ∈ vs) : ∀ σ H Q, tD K (wDcK ws g t ek ev vs) σ H Q → tDc (tDI K ws) (tDG K sl g) (tDT K t) (tD K ek) (tD K ev) vs σ H Q := fun σ H Q ⟨R, ρ, μ, P, a, w, k⟩ =>
  ⟨R, ρ, μ, _, a, w, fun xs μ1 H1 J p1 o1 s1 it => fun D n => by
    have rn := o1.freeR n
    refine ⟨fun i m H' => m = xs.length - i ∧ i ≤ xs.length ∧ ∃ μ' acc kvs, Ok K (upd R D (.dK kvs)) μ' H' ∧ Same (hid R μ1 H1) (hid (upd R D (.dK kvs)) μ' H') ∧ kvs.map (·.1) = acc.map (·.1) ∧ Iss K (hid (upd R D (.dK kvs)) μ' H') (kvs.map (·.2)) (acc.map (·.2)) ∧
      compK g t ek ev (wipeD ρ vs) (xs.drop i) acc μ' fun acc μ2 => P (.dct acc) μ2, ?_, ?_⟩
    · obtain ⟨o2, e2⟩ := o1.frame (o := .dK []) n
      exact ⟨_, rfl, Nat.zero_le _, μ1, [], [], o2, by rw [e2]; exact Same.refl _, rfl, .nil, p1⟩
    rintro i m H2 ⟨rfl, hi, μ2, acc, kvs, o2, s2, hk2, r2, w2⟩
    by_cases hlt : i < xs.length
    · refine .inr ⟨it.go _ μ2 H2 i o2 s2 hlt, fun H' => ∃ μ' acc kvs, Ok K (upd R D (.dK kvs)) μ' H' ∧ Same (hid R μ1 H1) (hid (upd R D (.dK kvs)) μ' H') ∧ kvs.map (·.1) = acc.map (·.1) ∧ Iss K (hid (upd R D (.dK kvs)) μ' H') (kvs.map (·.2)) (acc.map (·.2)) ∧
        compK g t ek ev (wipeD ρ vs) (xs.drop (i + 1)) acc μ' fun acc μ2 => P (.dct acc) μ2, fun H' ⟨μ', acc', kvs', o', s', k', r', w'⟩ => ⟨_, ?_, rfl, hlt, μ', acc', kvs', o', s', k', r', w'⟩, fun x H3 y => ?_⟩
      · omega
      · obtain ⟨d, hd, o3, s3, r3⟩ := it.yld _ μ2 H2 i x H3 o2 s2 y hlt
        rw [drop_at hd] at w2
        have sl3 : Sl K (hid (upd R D (.dK kvs)) μ2 H3) (wipe σ vs) (wipeD ρ vs) := (a.sl.mono ((s1.trans s2).trans s3)).wipe vs
        refine ⟨_, wipeD ρ vs, μ2, d, _, ⟨o3, sl3⟩, r3, w2, fun ρ4 σ4 w4 sl4 ww => ⟨by rw [ww vs hv, wipe_wipe], _, ρ4, μ2, _, ⟨o3, sl4⟩, w4, fun b μ5 H5 p5 o5 s5 => ?_⟩⟩
        cases b with
        | false => exact iteF ⟨μ5, acc, kvs, o5, (s2.trans s3).trans s5, hk2, r2.mono (s3.trans s5), p5⟩
        | true =>
          refine iteT ⟨_, ρ4, μ5, _, ⟨o5, sl4.mono s5⟩, p5, fun y μ6 v H6 p6 o6 s6 r6 => ⟨_, ρ4, μ6, _, ⟨o6, sl4.mono (s5.trans s6)⟩, p6, fun z μ7 u H7 p7 o7 s7 r7 => ?_⟩⟩
          obtain ⟨key, ek', hl, p8⟩ := atW_of p7
          have hlen : kvs.length = acc.length := by have := congrArg List.length hk2; simpa using this
          obtain ⟨q1, q2⟩ := Iss.put (k := key) hk2 (r2.mono (((s3.trans s5).trans s6).trans s7)) r7
          obtain ⟨o8, e8⟩ := o7.reframe (o' := .dK (putK kvs key u))
          refine ⟨kvs, key, keyD_of r6 ek', o7.fr D _ upd_same, by rw [hlen]; exact hl, μ7, putD acc key z, putK kvs key u, o8, ?_, q1, ?_, p8⟩
          · rw [e8]
            exact (((s2.trans s3).trans s5).trans s6).trans s7
          · rw [e8]
            exact q2
    · have e' : i = xs.length := by omega
      subst e'
      rw [List.drop_length] at w2
      obtain ⟨o4, s4, h4⟩ := o2.unframe rn
      exact .inl ⟨it.stop _ μ2 H2 _ o2 s2 (Nat.le_refl _), k _ μ2 _ H2 w2 o4 (s1.trans (s2.trans s4)) (.dct h4 hk2 (r2.mono s4))⟩⟩
theorem d_dcK (hi : PI X tg iter (tDI X.K ws)) (ok : BlkOk X.N X.env.scope scope own)
    (hg : ∀ (s : Shared) (H : Hp) (C : Addr) (cl : List (Str × Addr)) (fp : List Addr), PG (X.blk s H scope (compEnvC scope cl C X.env) fp) tg (tDG X.K sl g)) (ht : ∀ (s : Shared) (H : Hp) (C : Addr) (cl : List (Str × Addr)) (fp : List Addr), PTs (X.blk s H scope (compEnvC scope cl C X.env) fp) ifs (tDT X.K t))
    (hk : ∀ (s : Shared) (H : Hp) (C : Addr) (cl : List (Str × Addr)) (fp : List Addr), PE (X.blk s H scope (compEnvC scope cl C X.env) fp) kx (tD X.K ek))
    (he : ∀ (s : Shared) (H : Hp) (C : Addr) (cl : List (Str × Addr)) (fp : List Addr), PE (X.blk s H scope (compEnvC scope cl C X.env) fp) vx (tD X.K ev)) (hN : X.N.Nodup) (hv : ∀ i ∈ sl, i ∈ own.map (·.2) := by decide) (hc : X.calm = true := by rfl) (hs : ∀ x, foldedSetIterable iter X.env x = pure x := by intro _; rfl) :
    PE X (.DictComp kx vx [⟨tg, iter, ifs, 0⟩] scope pos) (tD X.K (wDcK ws g t ek ev (own.map (·.2)))) := PE.imp (pe_dc hc hN hi ok hg ht hk he hs) (dcK_imp hv)
theorem ds_setDcK {i : Nat} {y : Str} {py spos : Pos} (hy : X.N[i]? = some y) (hyl : X.env.scope.names.lookup y = some .local) (hsw : swapsWith (.DictComp kx vx [⟨tg, iter, ifs, 0⟩] scope pos) (some (.Name y py)) spos.line X.env = pure true) (hi : PI X tg iter (tDI X.K ws)) (ok : BlkOk X.N X.env.scope scope own)
    (hg : ∀ (s : Shared) (H : Hp) (C : Addr) (cl : List (Str × Addr)) (fp : List Addr), PG (X.blk s H scope (compEnvC scope cl C X.env) fp) tg (tDG X.K sl g)) (ht : ∀ (s : Shared) (H : Hp) (C : Addr) (cl : List (Str × Addr)) (fp : List Addr), PTs (X.blk s H scope (compEnvC scope cl C X.env) fp) ifs (tDT X.K t))
    (hk : ∀ (s : Shared) (H : Hp) (C : Addr) (cl : List (Str × Addr)) (fp : List Addr), PE (X.blk s H scope (compEnvC scope cl C X.env) fp) kx (tD X.K ek))
    (he : ∀ (s : Shared) (H : Hp) (C : Addr) (cl : List (Str × Addr)) (fp : List Addr), PE (X.blk s H scope (compEnvC scope cl C X.env) fp) vx (tD X.K ev)) (hN : X.N.Nodup) (hv : ∀ i ∈ sl, i ∈ own.map (·.2) := by decide) (hc : X.calm = true := by rfl) (hs : ∀ x, foldedSetIterable iter X.env x = pure x := by intro _; rfl) :
    PS X (.Assign [.Name y py] (.DictComp kx vx [⟨tg, iter, ifs, 0⟩] scope pos) spos) (tDS X.K (wAsg (wDcK ws g t ek ev (own.map (·.2))) (wgName i))) :=
  PS.imp (ps_setDc hc hN hy hyl hsw hi ok hg ht hk he hs) fun D σ H ⟨R, ρ, μ, E, a, w, k⟩ => dcK_imp hv σ H _ ⟨R, ρ, μ, _, a, w, fun d μ1 v H1 p1 o1 s1 i1 => k.nx _ μ1 _ H1 p1 ⟨o1, (a.sl.mono s1).set i i1⟩ s1⟩
/-- name += e, ints -/
def wAugI (f : Int → Int → Int) (i : Nat) (w : WE) : WS := fun E ρ μ => match ρ[i]? with
  | some (some (.int x)) => w ρ μ fun y μ1 => match y with
    | .int z => E.nx (ρ.set i (some (.int (f x z)))) μ1
    | _ => False
  | _ => False
theorem ds_augI {op : Operator} {f : Int → Int → Int} {i : Nat} {x : Str} {e : Expr} {w : WE} {pos' : Pos} (hop : PIp X op (ipI f)) (hN : X.N.Nodup) (hi : X.N[i]? = some x) (hx : Loc X.env.scope x) (he : PE X e (tD X.K w)) (hf : X.fn x = true ∨ X.env.scope.names.lookup x = some .local := by first | exact .inl rfl | exact .inr rfl | assumption) :
    PS X (.AugAssign (.Name x pos') op e pos) (tDS X.K (wAugI f i w)) :=
  PS.imp (ps_aug hN hi hx he hop hf) fun D σ H ⟨R, ρ, μ, E, a, w0, k⟩ => by
    have w1 : (match ρ[i]? with | some (some (.int x)) => w ρ μ fun y μ1 => (match y with | .int z => E.nx (ρ.set i (some (.int (f x z)))) μ1 | _ => False) | _ => False) := w0
    split at w1
    · rename_i z eb
      obtain ⟨v, hv, iv⟩ := a.sl.at_ i _ eb
      cases iv
      refine ⟨_, hv, R, ρ, μ, _, a, w1, fun y μ1 v H1 p1 o1 s1 i1 => ?_⟩
      cases i1 with
      | int j => exact ⟨_, _, rfl, rfl, k.nx _ μ1 _ H1 p1 ⟨o1, (a.sl.mono s1).set i (.int _)⟩ s1⟩
      | _ => exact (show False from p1).elim
    · exact w1.elim
theorem ds_augAdd {i : Nat} {x : Str} {e : Expr} {w : WE} {pos' : Pos} (hN : X.N.Nodup) (hi : X.N[i]? = some x) (hx : Loc X.env.scope x) (he : PE X e (tD X.K w)) (hf : X.fn x = true ∨ X.env.scope.names.lookup x = some .local := by first | exact .inl rfl | exact .inr rfl | assumption) :
    PS X (.AugAssign (.Name x pos') .Add e pos) (tDS X.K (wAugI (fun a b => a + b) i w)) := ds_augI ip_add hN hi hx he hf
end
end Dz

set_option Elab.async false
set_option linter.all false
set_option maxRecDepth 100000
set_option maxHeartbeats 2000000
/-! DzF9: x is True, x is not False, .. of truth values and None. -/
namespace Dz
open PySem PySem.Spec L2 PyProof.Rows

section
variable {X : Cx}
def sameB : V → Bool → Option Bool
  | .bl a, b => some (decide (a = b))
  | .non, _ => some false
  | _, _ => none
theorem op_isB : OpR X (compareOp .Is) (fun x y H Q => ∃ b c, y = .bl b ∧ sameB x b = some c ∧ Q (.bl c) H) := by
  intro pins s σ H x y v u Q I rx ry ⟨b, c, ey, e, q⟩
  subst ey
  cases ry
  show wpAny _ _ ((isSame v (Value.bool b)) >>= fun z => pure (Value.bool z)) _ _ s
  cases x with
  | bl a =>
    cases e
    cases rx
    refine wpAny_bind (wpAny_isSame_plain (by rfl) ?_)
    refine wpAny_pure (fin_bl I q ?_)
    cases a <;> cases b <;> rfl
  | non =>
    cases e
    cases rx
    exact wpAny_bind (wpAny_isSame_plain (by rfl) (wpAny_pure (fin_bl I q rfl)))
  | _ => cases e
theorem op_isnotB : OpR X (compareOp .IsNot) (fun x y H Q => ∃ b c, y = .bl b ∧ sameB x b = some c ∧ Q (.bl (!c)) H) := by
  intro pins s σ H x y v u Q I rx ry ⟨b, c, ey, e, q⟩
  subst ey
  cases ry
  show wpAny _ _ ((isSame v (Value.bool b)) >>= fun z => pure (Value.bool (!z))) _ _ s
  cases x with
  | bl a =>
    cases e
    cases rx
    refine wpAny_bind (wpAny_isSame_plain (by rfl) ?_)
    refine wpAny_pure (fin_bl I q ?_)
    cases a <;> cases b <;> rfl
  | non =>
    cases e
    cases rx
    exact wpAny_bind (wpAny_isSame_plain (by rfl) (wpAny_pure (fin_bl I q rfl)))
  | _ => cases e
/-- x is True, x is False -/
def wIsB (neg : Bool) : W2 := fun x y μ P => match x, y with
  | .bool a, .bool b => P (.bool (Bool.xor neg (decide (a = b)))) μ
  | .none, .bool _ => P (.bool neg) μ
  | _, _ => False
theorem isB_rd {K : PySem.W.Frag} : R2D K (fun x y H Q => ∃ b c, y = .bl b ∧ sameB x b = some c ∧ Q (.bl c) H) (wIsB false) := by
  intro R μ H x y dx dy P Q ok ix iy w k
  cases iy with
  | bool b => cases ix with
    | bool a => exact ⟨b, _, rfl, rfl, by rw [show decide (a = b) = Bool.xor false (decide (a = b)) by cases decide (a = b) <;> rfl]; exact k.val ok w (.bool _)⟩
    | none => exact ⟨b, _, rfl, rfl, k.val ok w (.bool _)⟩
    | _ => exact (show False from w).elim
  | _ => cases ix <;> exact (show False from w).elim
theorem isnotB_rd {K : PySem.W.Frag} : R2D K (fun x y H Q => ∃ b c, y = .bl b ∧ sameB x b = some c ∧ Q (.bl (!c)) H) (wIsB true) := by
  intro R μ H x y dx dy P Q ok ix iy w k
  cases iy with
  | bool b => cases ix with
    | bool a => exact ⟨b, _, rfl, rfl, by rw [show (!decide (a = b)) = Bool.xor true (decide (a = b)) by cases decide (a = b) <;> rfl]; exact k.val ok w (.bool _)⟩
    | none => exact ⟨b, _, rfl, rfl, k.val ok w (.bool _)⟩
    | _ => exact (show False from w).elim
  | _ => cases ix <;> exact (show False from w).elim
variable {a b : Expr} {wa wb : WE} {pos : Pos}
theorem t_isB (ha : PE X a (tD X.K wa)) (hb : PE X b (tD X.K wb)) : PT X (.Compare a [.Is] [b] pos) (tDT X.K (wTest (wBin (wIsB false) wa wb))) := dt_cmp op_isB isB_rd ha hb (nomark _)
theorem t_isnotB (ha : PE X a (tD X.K wa)) (hb : PE X b (tD X.K wb)) : PT X (.Compare a [.IsNot] [b] pos) (tDT X.K (wTest (wBin (wIsB true) wa wb))) := dt_cmp op_isnotB isnotB_rd ha hb (nomark _)
theorem c_isB (ha : PE X a (tD X.K wa)) (hb : PE X b (tD X.K wb)) : PE X (.Compare a [.Is] [b] pos) (tD X.K (wBin (wIsB false) wa wb)) := d_cmp op_isB isB_rd ha hb (nomark _)
theorem c_isnotB (ha : PE X a (tD X.K wa)) (hb : PE X b (tD X.K wb)) : PE X (.Compare a [.IsNot] [b] pos) (tD X.K (wBin (wIsB true) wa wb)) := d_cmp op_isnotB isnotB_rd ha hb (nomark _)
end
end Dz

set_option Elab.async false
set_option linter.all false
set_option maxRecDepth 100000
set_option maxHeartbeats 1000000
/-! Qz1: data with places. -/
namespace Qz
open PySem L2 Dz

theorem sl {n : Nat} (h : n ≤ 1000000) : n ≤ sizeLine := by rw [sizeLine_eq]; omega
/-- the part at a place -/
def atP : DV → List Nat → Option DV
  | d, [] => some d
  | .tup ds, i :: r => match ds[i]? with | some e => atP e r | none => none
  | _, _ :: _ => none
/-- another part there -/
def repl : DV → List Nat → DV → DV
  | _, [], x => x
  | .tup ds, i :: r, x => match ds[i]? with | some e => .tup (ds.set i (repl e r x)) | none => .tup ds
  | d, _ :: _, _ => d
theorem atP_cons {d y : DV} {i : Nat} {r : List Nat} (h : atP d (i :: r) = some y) : ∃ ds e, d = .tup ds ∧ ds[i]? = some e ∧ atP e r = some y := by
  cases d with
  | tup ds =>
    have h' : (match ds[i]? with | some e => atP e r | none => none) = some y := h
    cases e : ds[i]? with
    | none => rw [e] at h'; cases h'
    | some z => rw [e] at h'; exact ⟨ds, z, rfl, e, h'⟩
  | _ => cases h
theorem repl_cons {ds : List DV} {e x : DV} {i : Nat} {r : List Nat} (h : ds[i]? = some e) : repl (.tup ds) (i :: r) x = .tup (ds.set i (repl e r x)) := by
  show (match ds[i]? with | some e => DV.tup (ds.set i (repl e r x)) | none => .tup ds) = _
  rw [h]
theorem lt_of_get {ds : List DV} {e : DV} {i : Nat} (h : ds[i]? = some e) : i < ds.length := (List.getElem?_eq_some_iff.mp h).1
theorem repl_at : ∀ (r : List Nat) (d x : DV), (∃ y, atP d r = some y) → atP (repl d r x) r = some x
  | [], _, x, _ => rfl
  | i :: r, d, x, ⟨y, h⟩ => by
    obtain ⟨ds, e, rfl, h1, h2⟩ := atP_cons h
    rw [repl_cons h1]
    show (match (ds.set i (repl e r x))[i]? with | some e => atP e r | none => none) = _
    rw [List.getElem?_set_self (lt_of_get h1)]
    exact repl_at r e x ⟨y, h2⟩
theorem repl_repl : ∀ (r : List Nat) (d x y : DV), (∃ z, atP d r = some z) → repl (repl d r x) r y = repl d r y
  | [], _, _, _, _ => rfl
  | i :: r, d, x, y, ⟨z, h⟩ => by
    obtain ⟨ds, e, rfl, h1, h2⟩ := atP_cons h
    rw [repl_cons h1, repl_cons (x := y) h1, repl_cons (e := repl e r x) (List.getElem?_set_self (lt_of_get h1)), List.set_set, repl_repl r e x y ⟨z, h2⟩]
theorem repl_same : ∀ (r : List Nat) (d x : DV), atP d r = some x → repl d r x = d
  | [], d, x, h => (Option.some.inj h).symm
  | i :: r, d, x, h => by
    obtain ⟨ds, e, rfl, h1, h2⟩ := atP_cons h
    rw [repl_cons h1, repl_same r e x h2]
    congr 1
    obtain ⟨hi, he⟩ := List.getElem?_eq_some_iff.mp h1
    rw [← he, List.set_getElem_self]
theorem sizs_get {N p : Nat} : ∀ {ds : List DV} {i : Nat} {e : DV}, Sizs N p ds → ds[i]? = some e → Siz N p e
  | [], i, e, _, h => by simp at h
  | d :: ds, 0, e, s, h => by
    have : d = e := by simpa using h
    subst this
    refine ⟨(Bool.and_eq_true_iff.mp s.no).1, (Bool.and_eq_true_iff.mp s.sh).1, (Bool.and_eq_true_iff.mp s.lv).1, ?_, ?_, (Bool.and_eq_true_iff.mp s.pl).1⟩
    · have : (toPy d).bulk + 1 + PyData.bulkAll (toPys ds) ≤ N := s.bk
      omega
    · have : max (toPy d).depth (PyData.depthAll (toPys ds)) ≤ p := s.dp
      omega
  | d :: ds, i + 1, e, s, h => by
    refine sizs_get (ds := ds) (i := i) ⟨(Bool.and_eq_true_iff.mp s.no).2, (Bool.and_eq_true_iff.mp s.sh).2, (Bool.and_eq_true_iff.mp s.lv).2, ?_, ?_, (Bool.and_eq_true_iff.mp s.pl).2⟩ (by simpa using h)
    · have : (toPy d).bulk + 1 + PyData.bulkAll (toPys ds) ≤ N := s.bk
      omega
    · have : max (toPy d).depth (PyData.depthAll (toPys ds)) ≤ p := s.dp
      omega
theorem sizs_set {M q : Nat} {x : DV} : ∀ {N p : Nat} {ds : List DV} {i : Nat} {e : DV}, Sizs N p ds → ds[i]? = some e → Siz ((toPy e).bulk + M) q x → Sizs (N + M) (max p q) (ds.set i x)
  | N, p, [], i, e, _, h, _ => by simp at h
  | N, p, d :: ds, 0, e, s, h, hx => by
    have : d = e := by simpa using h
    subst this
    have hb : (toPy d).bulk + 1 + PyData.bulkAll (toPys ds) ≤ N := s.bk
    have hd : max (toPy d).depth (PyData.depthAll (toPys ds)) ≤ p := s.dp
    have r : Sizs (PyData.bulkAll (toPys ds)) p ds := ⟨(Bool.and_eq_true_iff.mp s.no).2, (Bool.and_eq_true_iff.mp s.sh).2, (Bool.and_eq_true_iff.mp s.lv).2, Nat.le_refl _, by omega, (Bool.and_eq_true_iff.mp s.pl).2⟩
    exact (Sizs.cons (hx.le (Nat.le_refl _) (Nat.le_max_right p q)) (r.le (Nat.le_refl _) (Nat.le_max_left p q))).le (by omega) (Nat.le_refl _)
  | N, p, d :: ds, i + 1, e, s, h, hx => by
    have hb : (toPy d).bulk + 1 + PyData.bulkAll (toPys ds) ≤ N := s.bk
    have hd : max (toPy d).depth (PyData.depthAll (toPys ds)) ≤ p := s.dp
    have r : Sizs (PyData.bulkAll (toPys ds)) p ds := ⟨(Bool.and_eq_true_iff.mp s.no).2, (Bool.and_eq_true_iff.mp s.sh).2, (Bool.and_eq_true_iff.mp s.lv).2, Nat.le_refl _, by omega, (Bool.and_eq_true_iff.mp s.pl).2⟩
    have h1 : Siz (toPy d).bulk p d := ⟨(Bool.and_eq_true_iff.mp s.no).1, (Bool.and_eq_true_iff.mp s.sh).1, (Bool.and_eq_true_iff.mp s.lv).1, Nat.le_refl _, by omega, (Bool.and_eq_true_iff.mp s.pl).1⟩
    have r2 := sizs_set (M := M) (q := q) r (show ds[i]? = some e by simpa using h) hx
    exact (Sizs.cons (h1.le (Nat.le_refl _) (Nat.le_max_left p q)) r2).le (by omega) (Nat.le_refl _)
theorem siz_tupI {N p : Nat} {ds : List DV} (h : Siz N p (.tup ds)) : ∃ p', p = p' + 1 ∧ Sizs N p' ds := by
  have hd : PyData.depthAll (toPys ds) + 1 ≤ p := h.dp
  exact ⟨p - 1, by omega, ⟨h.no, h.sh, h.lv, h.bk, by omega, h.pl⟩⟩
theorem repl_siz {M q : Nat} {x : DV} (hx : Siz M q x) : ∀ (r : List Nat) {N p : Nat} (d : DV), Siz N p d → (∃ y, atP d r = some y) → Siz (N + M) (p + q) (repl d r x)
  | [], N, p, d, _, _ => hx.le (by omega) (by omega)
  | i :: r, N, p, d, h, ⟨y, hy⟩ => by
    obtain ⟨ds, e, rfl, h1, h2⟩ := atP_cons hy
    rw [repl_cons h1]
    obtain ⟨p', rfl, hs⟩ := siz_tupI h
    have he := sizs_get hs h1
    have he' : Siz (toPy e).bulk p' e := ⟨he.no, he.sh, he.lv, Nat.le_refl _, he.dp, he.pl⟩
    have ih := repl_siz hx r e he' ⟨y, h2⟩
    exact (Siz.tup (sizs_set hs h1 ih)).le (Nat.le_refl _) (by omega)

/-! ### slices -/
theorem cut_to {ds : List DV} (i : Nat) : cutD ds none (some (i : Int)) = ds.take i := by
  unfold cutD
  have e0 : HT.sIx ds.length 0 none = 0 := rfl
  have e1 : HT.sIx ds.length ds.length (some (i : Int)) = min i ds.length := HT.sIx_nat _ _ _
  rw [e0, e1, List.drop_zero, Nat.sub_zero]
  rw [List.take_eq_take_iff]
  omega
theorem cut_from {ds : List DV} (i : Nat) : cutD ds (some (i : Int)) none = ds.drop i := by
  unfold cutD
  have e0 : HT.sIx ds.length 0 (some (i : Int)) = min i ds.length := HT.sIx_nat _ _ _
  have e1 : HT.sIx ds.length ds.length none = ds.length := rfl
  rw [e0, e1]
  by_cases h : i ≤ ds.length
  · rw [Nat.min_eq_left h, List.take_of_length_le (by rw [List.length_drop]; exact Nat.le_refl _)]
  · have h' : ds.length ≤ i := by omega
    rw [Nat.min_eq_right h', List.drop_of_length_le (Nat.le_refl _), List.drop_of_length_le h', List.take_nil]
theorem atI_of {α : Type} {xs : List α} {i : Nat} {x : α} (h : xs[i]? = some x) : atI xs (i : Int) = some x := by
  have hi := (List.getElem?_eq_some_iff.mp h).1
  unfold atI ixN
  rw [if_pos (by omega), if_pos (by omega)]
  exact h
theorem sizs_len {N p : Nat} : ∀ {ds : List DV}, Sizs N p ds → ds.length ≤ N
  | [], _ => Nat.zero_le _
  | d :: ds, s => by
    have hb : (toPy d).bulk + 1 + PyData.bulkAll (toPys ds) ≤ N := s.bk
    have hd : max (toPy d).depth (PyData.depthAll (toPys ds)) ≤ p := s.dp
    have r : Sizs (PyData.bulkAll (toPys ds)) p ds := ⟨(Bool.and_eq_true_iff.mp s.no).2, (Bool.and_eq_true_iff.mp s.sh).2, (Bool.and_eq_true_iff.mp s.lv).2, Nat.le_refl _, by omega, (Bool.and_eq_true_iff.mp s.pl).2⟩
    have := sizs_len r
    rw [List.length_cons]
    omega
theorem shaped_intsT (ns : List Int) : shapedD (.tup (ns.map .int)) = true := by
  have h1 := canLay_ints ns
  have h2 := depth_ints ns
  have h3 := noObjs_ints ns
  show (noObjs (ns.map .int) && (PyData.canLayAll0 (toPys (ns.map .int)) && decide (PyData.depthAll (toPys (ns.map .int)) + 1 ≤ 64))) = true
  rw [h1, h2, h3]
  rfl
def pathL (r : List Nat) : List DV := r.map fun i => .int (i : Nat)
abbrev pathD (r : List Nat) : DV := .tup (pathL r)
theorem shaped_path (r : List Nat) : shapedD (pathD r) = true := by
  have := shaped_intsT (r.map fun i : Nat => (i : Int))
  rw [List.map_map] at this
  exact this
abbrev Thg (d : DV) : Prop := Siz 120000 60 d
theorem thg_in {ds : List DV} {e : DV} {i : Nat} (h : Thg (.tup ds)) (h1 : ds[i]? = some e) : Thg e ∧ ds.length ≤ 120000 := by
  obtain ⟨p', e', hs⟩ := siz_tupI h
  exact ⟨(sizs_get hs h1).le (Nat.le_refl _) (by omega), sizs_len hs⟩

theorem noDcts_mem : ∀ {ds : List DV}, noDcts ds = true → ∀ d ∈ ds, noDct d = true
  | [], _, d, h => by cases h
  | e :: ds, h, d, hd => by
    have h' : (noDct e && noDcts ds) = true := h
    rw [Bool.and_eq_true] at h'
    rcases List.mem_cons.mp hd with rfl | hd
    · exact h'.1
    · exact noDcts_mem h'.2 d hd
theorem noDcts_of : ∀ {ds : List DV}, (∀ d ∈ ds, noDct d = true) → noDcts ds = true
  | [], _ => rfl
  | e :: ds, h => by
    show (noDct e && noDcts ds) = true
    rw [h e List.mem_cons_self, noDcts_of fun d hd => h d (List.mem_cons_of_mem _ hd)]
    rfl
theorem nd_at : ∀ (r : List Nat) {d y : DV}, noDct d = true → atP d r = some y → noDct y = true
  | [], d, y, h, e => by rw [← Option.some.inj e]; exact h
  | i :: r, d, y, h, e => by
    obtain ⟨ds, z, rfl, h1, h2⟩ := atP_cons e
    exact nd_at r (noDcts_mem (show noDcts ds = true from h) z (List.mem_of_getElem? h1)) h2
theorem siz_at {N p : Nat} : ∀ (r : List Nat) {d y : DV}, Siz N p d → atP d r = some y → Siz N p y
  | [], d, y, h, e => by rw [← Option.some.inj e]; exact h
  | i :: r, d, y, h, e => by
    obtain ⟨ds, z, rfl, h1, h2⟩ := atP_cons e
    obtain ⟨p', rfl, hs⟩ := siz_tupI h
    exact (siz_at r (sizs_get hs h1) h2).le (Nat.le_refl _) (by omega)
theorem atP_append : ∀ (r s : List Nat) (d e : DV), atP d r = some e → atP d (r ++ s) = atP e s
  | [], s, d, e, h => by rw [← Option.some.inj h]; rfl
  | i :: r, s, d, e, h => by
    obtain ⟨ds, z, rfl, h1, h2⟩ := atP_cons h
    show (match ds[i]? with | some e => atP e (r ++ s) | none => none) = _
    rw [h1]
    exact atP_append r s z e h2
theorem pathL_append (r s : List Nat) : pathL r ++ pathL s = pathL (r ++ s) := by unfold pathL; rw [List.map_append]
theorem siz_path (r : List Nat) (h : ∀ i ∈ r, i < 1000) : Siz r.length 1 (pathD r) := by
  have hs := Sizs.all (N := 0) (p := 0) (ds := pathL r) (fun d hd => by
    unfold pathL at hd
    rw [List.mem_map] at hd
    obtain ⟨i, hi, rfl⟩ := hd
    have := h i hi
    exact Siz.int (Nat.lt_of_lt_of_le (by simpa using this) (by decide)))
  refine (Siz.tup hs).le ?_ (Nat.le_refl _)
  unfold pathL
  rw [List.length_map]
  omega
theorem nd_path (r : List Nat) : noDct (pathD r) = true := noDcts_of fun d hd => by
  unfold pathL at hd
  rw [List.mem_map] at hd
  obtain ⟨i, hi, rfl⟩ := hd
  rfl
theorem app_o {ρ : Rho} {μ : Mh} {i : Nat} {p : Addr} {zs : List DV} {t : DV} {we : WE} {E : DEnds} (hv : ρ[i]? = some (some (.obj p))) (h : μ p = some (.lst zs)) (hw : ∀ P : DV → Mh → Prop, P t μ → we ρ μ P) (l : zs.length < sizeLine) (k : E.nx ρ (updM μ p (.lst (zs ++ [t])))) : wDrop (wApp (wVar i) we) E ρ μ := by
  show (match ρ[i]? with | some (some d) => isLstM d μ ∧ we ρ μ fun y μ2 => _ | _ => False)
  rw [hv]
  refine ⟨?_, hw _ ?_⟩
  · show (match μ p with | some (.lst _) => True | _ => False)
    rw [h]
    trivial
  · show (match μ p with | some (.lst ds) => _ | _ => False)
    rw [h]
    exact ⟨l, k⟩
theorem ext_o {ρ : Rho} {μ : Mh} {i : Nat} {p : Addr} {zs ys : List DV} {we : WE} {E : DEnds} (hv : ρ[i]? = some (some (.obj p))) (h : μ p = some (.lst zs)) (hw : ∀ P : DV → Mh → Prop, P (.lst ys) μ → we ρ μ P) (l : zs.length + ys.length ≤ sizeLine) (k : E.nx ρ (updM μ p (.lst (zs ++ ys)))) : wDrop (wExt (wVar i) we) E ρ μ := by
  show (match ρ[i]? with | some (some d) => isLstM d μ ∧ we ρ μ fun y μ2 => _ | _ => False)
  rw [hv]
  refine ⟨?_, hw _ ?_⟩
  · show (match μ p with | some (.lst _) => True | _ => False)
    rw [h]
    trivial
  · show (match μ p with | some (.lst ds) => _ | _ => False)
    rw [h]
    exact ⟨l, k⟩
theorem frz_o {ρ : Rho} {μ : Mh} {i : Nat} {p : Addr} {zs : List DV} {P : DV → Mh → Prop} (hv : ρ[i]? = some (some (.obj p))) (h : μ p = some (.lst zs)) (k : P (.lst zs) (delM μ p)) : wFrz (wVar i) ρ μ P := by
  show (match ρ[i]? with | some (some d) => _ | _ => False)
  rw [hv]
  show (match μ p with | some (.lst ds) => P (.lst ds) (delM μ p) | some (.dct ds) => P (.dct ds) (delM μ p) | _ => False)
  rw [h]
  exact k
theorem neL_empty {μ : Mh} {p : Addr} {zs : List DV} {P : DV → Mh → Prop} (h : μ p = some (.lst zs)) (hs : shapedD (.lst zs) = true) (k : P (.bool (!zs.isEmpty)) μ) : wNeL (.obj p) (.lst []) μ P := by
  refine neL_o h hs rfl ?_
  cases zs with
  | nil => exact k
  | cons z zs => exact k
theorem noObjs_mem : ∀ {ds : List DV}, (∀ d ∈ ds, noObj d = true) → noObjs ds = true
  | [], _ => rfl
  | d :: ds, h => by
    show (noObj d && noObjs ds) = true
    rw [h d List.mem_cons_self, noObjs_mem fun e he => h e (List.mem_cons_of_mem _ he)]
    rfl
theorem sizs_any {p : Nat} : ∀ {ds : List DV}, (∀ d ∈ ds, ∃ N, Siz N p d) → ∃ N, Sizs N p ds
  | [], _ => ⟨0, Sizs.nil.le (Nat.le_refl _) (Nat.zero_le _)⟩
  | d :: ds, h => by
    obtain ⟨N, hN⟩ := h d List.mem_cons_self
    obtain ⟨M, hM⟩ := sizs_any fun e he => h e (List.mem_cons_of_mem _ he)
    exact ⟨_, Sizs.cons hN hM⟩
theorem shaped_all {p : Nat} {ds : List DV} (h : ∀ d ∈ ds, (∃ N, Siz N p d) ∧ noDct d = true) (hp : p ≤ 60) : shapedD (.lst ds) = true := by
  obtain ⟨N, hN⟩ := sizs_any fun d hd => (h d hd).1
  exact (Siz.lst hN).shaped (by omega) (noDcts_of fun d hd => (h d hd).2)
theorem ixK_o {f : List (Str × DV)} {z : Str} {d : DV} {wb : WE} {ρ : Rho} {μ : Mh} {P : DV → Mh → Prop} (hw : ∀ P : DV → Mh → Prop, P (.str z) μ → wb ρ μ P) (h : lookD f z = some d) (k : P d μ) : wIxK f wb ρ μ P := by
  refine hw _ ?_
  show atW (lookD f z) _
  rw [h]
  exact k
theorem atI_zero {x : DV} {xs : List DV} : atI (x :: xs) 0 = some x := atI_of (i := 0) rfl
theorem snoc_of {α : Type} (l : List α) : l = [] ∨ ∃ init x, l = init ++ [x] := by
  rcases List.eq_nil_or_concat l with h | ⟨init, x, h⟩
  · exact .inl h
  · exact .inr ⟨init, x, by simpa using h⟩
theorem in_tup {x : Str} {ds : List DV} (b : Bool) {μ : Mh} {P : DV → Mh → Prop} (h1 : ds.all flatD = true) (h2 : inF (.str x) ds = b) (h3 : P (.bool b) μ) : wIn (.str x) (.tup ds) μ P :=
  .inl ⟨rfl, h1, by rw [h2]; exact h3⟩
theorem eq_str {x y : Str} (b : Bool) {μ : Mh} {P : DV → Mh → Prop} (h : decide (x = y) = b) (h3 : P (.bool b) μ) : wEqL (.str x) (.str y) μ P := by
  show P (.bool (decide (x = y))) μ
  rw [h]
  exact h3
theorem in_lst {x : Str} {ds : List DV} (b : Bool) {μ : Mh} {P : DV → Mh → Prop} (h1 : ds.all flatD = true) (h2 : inF (.str x) ds = b) (h3 : P (.bool b) μ) : wIn (.str x) (.lst ds) μ P :=
  .inl ⟨rfl, h1, by rw [h2]; exact h3⟩
theorem inF_strs (x : Str) (l : List Str) : inF (.str x) (l.map .str) = true ↔ x ∈ l := by
  unfold inF
  rw [List.any_eq_true]
  constructor
  · rintro ⟨y, hy, he⟩
    rw [List.mem_map] at hy
    obtain ⟨z, hz, rfl⟩ := hy
    have : z = x := eq_of_beq (show (z == x) = true from he)
    rw [← this]
    exact hz
  · intro h
    exact ⟨.str x, List.mem_map.mpr ⟨x, h, rfl⟩, beq_self_eq_true x⟩
theorem flat_strs (l : List Str) : (l.map DV.str).all flatD = true := by
  rw [List.all_eq_true]
  intro x hx
  rw [List.mem_map] at hx
  obtain ⟨y, _, rfl⟩ := hx
  rfl
theorem comp_inv {g : WG} {t : WT} {e : WE} {ρ : Rho} {J : List DV → List DV → Mh → Prop} : ∀ (xs acc : List DV) (μ : Mh) (P : List DV → Mh → Prop),
    (∀ (x : DV) (rest acc : List DV) (μ : Mh) (P : List DV → Mh → Prop), J acc (x :: rest) μ → acc.length < sizeLine → (∀ y μ', J (acc ++ [y]) rest μ' → P (acc ++ [y]) μ') → (∀ μ', J acc rest μ' → P acc μ') →
      g x ρ fun ρ1 => t ρ1 μ fun b μ1 => match b with
        | true => e ρ1 μ1 fun y μ2 => acc.length < sizeLine ∧ P (acc ++ [y]) μ2
        | false => P acc μ1) →
    acc.length + xs.length ≤ sizeLine → J acc xs μ → (∀ zs μ', J zs [] μ' → P zs μ') → compW g t e ρ xs acc μ P
  | [], acc, μ, P, _, _, hi, q => q acc μ hi
  | x :: xs, acc, μ, P, hx, hl, hi, q => by
    rw [List.length_cons] at hl
    refine hx x xs acc μ (fun ac μ' => compW g t e ρ xs ac μ' P) hi (by omega) (fun y μ' j => ?_) (fun μ' j => ?_)
    · exact comp_inv xs (acc ++ [y]) μ' P hx (by simp; omega) j q
    · exact comp_inv xs acc μ' P hx (by omega) j q
abbrev Dk (μ : Mh) (a c : Addr) (m : Nat) : Prop := HasDeck "total" μ a c m
abbrev drawW : WF := wfDraw "total"
abbrev pickW : WF := wfPick "total"
theorem draw_c {a c : Addr} {m : Nat} {many : Int} {μ : Mh} {Q : DV → Mh → Prop} (h0 : 0 < many) (h1 : many < 2 ^ 64) (h : Dk μ a c (m + 1)) (q : ∀ r μ', 0 ≤ r → r < many → Dk μ' a c m → OnlyDeck μ μ' a c → Q (.int r) μ') : drawW [.obj a, .int many] μ Q :=
  ⟨a, c, m, many, rfl, h0, h1, h, q⟩
theorem pick_c {a c : Addr} {m : Nat} {y : DV} {μ : Mh} {Q : DV → Mh → Prop} (l0 : 0 < (itemsD y).length) (l1 : (itemsD y).length ≤ 1000000) (h : Dk μ a c (m + 1)) (q : ∀ x μ', x ∈ itemsD y → Dk μ' a c m → OnlyDeck μ μ' a c → Q x μ') : pickW [.obj a, y] μ Q :=
  ⟨a, c, m, y, rfl, l0, sl l1, h, q⟩
def IsNm (d : DV) : Prop := ∃ x, d = .str x ∧ plainS x = true ∧ x.length ≤ 8
theorem IsNm.siz {d : DV} (h : IsNm d) : Siz 8 0 d := by
  obtain ⟨x, rfl, h1, h2⟩ := h
  exact (Siz.str h1).le h2 (Nat.le_refl _)
theorem nd3 {w : Str} {a b : DV} (h : noDct a = true) (h' : noDct b = true) : noDct (.tup [.str w, a, b]) = true := by
  show (true && (noDct a && (noDct b && true))) = true
  rw [h, h']
  rfl
theorem nd2 {w : Str} {a : DV} (h : noDct a = true) : noDct (.tup [.str w, a]) = true := by
  show (true && (noDct a && true)) = true
  rw [h]
  rfl
theorem nd22 {a b : DV} (h : noDct a = true) (h' : noDct b = true) : noDct (.tup [a, b]) = true := by
  show (noDct a && (noDct b && true)) = true
  rw [h, h']
  rfl
theorem wordS {x : Str} {n : Nat} (h : plainS x = true) (h2 : x.length = n) (p : Nat) : Siz n p (.str x) := (Siz.str h).le (Nat.le_of_eq h2) (Nat.zero_le _)
theorem nilS {p : Nat} : Sizs 0 p [] := Sizs.nil.le (Nat.le_refl 0) (Nat.zero_le _)
theorem mem_dl {α : Type} {x : α} {l : List α} (h : x ∈ l.dropLast) : x ∈ l := (List.dropLast_sublist l).mem h
theorem last_of {pl : List DV} (h : 0 < pl.length) : ∃ y, pl[pl.length - 1]? = some y ∧ y ∈ pl := by
  have hi : pl.length - 1 < pl.length := by omega
  exact ⟨pl[pl.length - 1], List.getElem?_eq_getElem hi, List.getElem_mem hi⟩
theorem dropLast_snoc {α : Type} {l : List α} {y : α} (h : l[l.length - 1]? = some y) : l.dropLast ++ [y] = l := by
  rcases List.eq_nil_or_concat l with rfl | ⟨init, x, e⟩
  · cases h
  · have e : l = init ++ [x] := by simpa using e
    subst e
    rw [List.length_append, List.length_singleton, Nat.add_sub_cancel, List.getElem?_append_right (Nat.le_refl _), Nat.sub_self] at h
    have : x = y := by simpa using h
    rw [this, List.dropLast_concat]
theorem nodup_of_map {α β : Type} {f : α → β} {l : List α} (h : (l.map f).Nodup) : l.Nodup := by
  unfold List.Nodup at h ⊢
  rw [List.pairwise_map] at h
  exact h.imp fun h e => h (by rw [e])
theorem getElem?_inj' {α : Type} {l : List α} (h : l.Nodup) {i j : Nat} {x : α} (hi : l[i]? = some x) (hj : l[j]? = some x) : i = j := by
  obtain ⟨h1, h2⟩ := List.getElem?_eq_some_iff.mp hi
  obtain ⟨h3, h4⟩ := List.getElem?_eq_some_iff.mp hj
  have pw := List.pairwise_iff_getElem.mp (show l.Pairwise (· ≠ ·) from h)
  rcases Nat.lt_trichotomy i j with hlt | rfl | hlt
  · exact absurd (h2.trans h4.symm) (pw i j h1 h3 hlt)
  · rfl
  · exact absurd (h4.trans h2.symm) (pw j i h3 h1 hlt)
abbrev leS (a b : Str) : Prop := PySem.Spec.ltCps b.cps.toList a.cps.toList = false
theorem leS_iff {a b : Str} : leS a b ↔ a.cps.toList ≤ b.cps.toList := by
  unfold leS
  rw [PyProof.Rows.ltCps_eq, decide_eq_false_iff_not, List.not_lt]
theorem leS_trans {a b c : Str} (h : leS a b) (h' : leS b c) : leS a c := leS_iff.mpr (List.le_trans (leS_iff.mp h) (leS_iff.mp h'))
theorem leS_anti {a b : Str} (h : leS a b) (h' : leS b a) : a = b := by
  have := List.le_antisymm (leS_iff.mp h) (leS_iff.mp h')
  exact PySem.W.str_of_cps this
theorem rising_pair : ∀ {p : Str} {l : List Str}, PyProof.Rows.risingS p l = true → (p :: l).Pairwise leS
  | p, [], _ => List.pairwise_singleton _ _
  | p, x :: r, h => by
    have h' : (!PySem.Spec.ltCps x.cps.toList p.cps.toList && PyProof.Rows.risingS x r) = true := h
    rw [Bool.and_eq_true, Bool.not_eq_true'] at h'
    have ih := rising_pair h'.2
    refine List.pairwise_cons.mpr ⟨fun y hy => ?_, ih⟩
    rcases List.mem_cons.mp hy with rfl | hy
    · exact h'.1
    · exact leS_trans h'.1 (List.rel_of_pairwise_cons ih hy)
theorem sorted_pair : ∀ {l : List Str}, PyProof.Rows.sortedS l = true → l.Pairwise leS
  | [], _ => .nil
  | _ :: _, h => rising_pair h
theorem rising_unique {xs ys : List Str} (h1 : xs.Nodup) (h2 : ys.Nodup) (p1 : xs.Pairwise leS) (p2 : ys.Pairwise leS) (h : ∀ k, k ∈ xs ↔ k ∈ ys) : xs = ys := by
  have pm : xs.Perm ys := (List.perm_ext_iff_of_nodup h1 h2).mpr h
  exact pm.eq_of_pairwise (fun a b _ _ h h' => leS_anti h h') p1 p2
theorem leD_str {a b : Str} : leD (.str a) (.str b) = true ↔ leS a b := by
  unfold leD
  rw [show toPy (.str b) = .str b from rfl, show toPy (.str a) = .str a from rfl, PySem.W.dataLt_str, Bool.not_eq_true']
  unfold leS
  rw [PyProof.Rows.ltCps_eq]
def unS (d : DV) : Str := match d with | .str s => s | _ => ⟨#[]⟩
theorem unS_map (l : List Str) : (l.map DV.str).map unS = l := by
  rw [List.map_map]
  exact List.map_id l
theorem sort_strs {l : List Str} {μ : Mh} {P : DV → Mh → Prop} (hl : l.length ≤ 1000) (k : ∀ es : List Str, es.Perm l → es.Pairwise leS → P (.lst (es.map .str)) μ) : sortW (l.map .str) μ P := by
  have no : ∀ l : List Str, noObjs (l.map DV.str) = true := fun l => noObjs_mem fun d hd => by
    rw [List.mem_map] at hd
    obtain ⟨x, _, rfl⟩ := hd
    rfl
  refine ⟨no l, ?_, ?_, fun d hd => ?_, by rw [List.length_map]; exact sl (by omega), fun es pm pw => ?_⟩
  · unfold allAlike
    rw [List.all_eq_true]
    intro x hx
    rw [List.all_eq_true]
    intro y hy
    rw [List.mem_map] at hx hy
    obtain ⟨s, _, rfl⟩ := hx
    obtain ⟨t, _, rfl⟩ := hy
    rfl
  · unfold sortable
    rw [Bool.or_eq_true]
    right
    rw [List.all_eq_true]
    intro x hx
    rw [List.mem_map] at hx
    obtain ⟨s, _, rfl⟩ := hx
    rfl
  · rw [List.mem_map] at hd
    obtain ⟨s, _, rfl⟩ := hd
    exact Nat.zero_le _
  · have hst : ∀ z ∈ es, ∃ s, z = DV.str s := fun z hz => by
      have := pm.mem_iff.mp hz
      rw [List.mem_map] at this
      obtain ⟨s, _, rfl⟩ := this
      exact ⟨s, rfl⟩
    have hes : ∃ zs : List Str, es = zs.map .str := by
      clear pm pw
      induction es with
      | nil => exact ⟨[], rfl⟩
      | cons z es ih =>
        obtain ⟨s, rfl⟩ := hst z List.mem_cons_self
        obtain ⟨zs, rfl⟩ := ih fun y hy => hst y (List.mem_cons_of_mem _ hy)
        exact ⟨s :: zs, rfl⟩
    obtain ⟨zs, rfl⟩ := hes
    refine k zs ?_ ?_
    · have e := pm.map unS
      rw [unS_map, unS_map] at e
      exact e
    · rw [List.pairwise_map] at pw
      exact pw.imp fun h => leD_str.mp h
theorem cut_nd {ds : List DV} {lo hi : Option Int} (h : ds.Nodup) : (cutD ds lo hi).Nodup := by
  unfold cutD
  exact h.sublist ((List.take_sublist _ _).trans (List.drop_sublist _ _))
end Qz

set_option Elab.async false
set_option linter.all false
set_option maxRecDepth 100000
set_option maxHeartbeats 1000000
/-! Am1: atoms and what is solved, without any program. -/
namespace Am
open PySem L2 Dz

/-! ### tables: lists of pairs, each key once -/
section
variable {K A : Type} [DecidableEq K]
def lk (l : List (K × A)) (k : K) : Option A := (l.find? fun e => decide (e.1 = k)).map (·.2)
def pt (l : List (K × A)) (k : K) (a : A) : List (K × A) := if (lk l k).isSome then l.map fun e => if e.1 = k then (e.1, a) else e else l ++ [(k, a)]
end
inductive Kd where
  | no | nu | wo
  deriving DecidableEq
inductive Atm where
  | kind (u : Nat) (k : Kd)
  | most (a b : Option Nat) (n : Int)
  | pair (neg : Bool) (u v : Nat)
  | word (neg : Bool) (u : Nat) (w : Str)
  deriving DecidableEq
inductive Vu where
  | non
  | num (i : Int)
  | word (w : Str)
  deriving DecidableEq
def RANGE : Int := 1000000000000
abbrev Fr := List (Nat × List Kd)
def Atm.us : Atm → List Nat
  | .kind u _ => [u]
  | .most a b _ => a.toList ++ b.toList
  | .pair _ u v => [u, v]
  | .word _ u _ => [u]
def Atm.ask : Atm → Kd
  | .kind _ k => k
  | .most .. => .nu
  | _ => .wo
def restrict (k : Kd) (l : Fr) (u : Nat) : Fr := pt l u (((lk l u).getD []).filter fun one => decide (one = k))
def kindsLeft (fr : Fr) (as : List Atm) : Fr := as.foldl (fun l a => a.us.foldl (restrict a.ask) l) fr
abbrev Edge := Option Nat × Option Nat × Int
def Atm.edge : Atm → Option Edge
  | .most a b n => some (a, b, n)
  | _ => none
def edges (nums : List Nat) (as : List Atm) : List Edge := as.filterMap Atm.edge ++ nums.flatMap fun u => [(some u, none, RANGE), (none, some u, RANGE)]
abbrev Fd := List (Option Nat × Int)
def gt (f : Fd) (o : Option Nat) : Int := (lk f o).getD 0
def relax (st : Fd × Bool) (e : Edge) : Fd × Bool := if gt st.1 e.2.1 + e.2.2 < gt st.1 e.1 then (pt st.1 e.1 (gt st.1 e.2.1 + e.2.2), true) else st
def turns (es : List Edge) : Nat → Fd → Option Fd
  | 0, _ => none
  | n + 1, f => match es.foldl relax (f, false) with
    | (g, true) => turns es n g
    | (g, false) => some g
def found0 (nums : List Nat) : Fd := pt (nums.foldl (fun acc u => pt acc (some u) RANGE) []) none 0
def numbersSolved (nums : List Nat) (as : List Atm) : Option Fd := turns (edges nums as) ((found0 nums).length + 1) (found0 nums)
abbrev Hd := List (Nat × Nat)
def gn (h : Hd) (u : Nat) : Nat := (lk h u).getD u
def same1 (words : List Nat) (h : Hd) : Atm → Hd
  | .pair false u v => words.foldl (fun g w => if gn g w = gn h v then pt g w (gn h u) else g) h
  | _ => h
def classesOf (words : List Nat) (as : List Atm) : Hd := as.foldl (same1 words) (words.foldl (fun acc u => pt acc u u) [])
abbrev Td := List (Nat × Str)
def wordsTold (h : Hd) : List Atm → Td → Option Td
  | [], t => some t
  | .word false u w :: r, t => match lk t (gn h u) with
    | some w' => if w' = w then wordsTold h r t else none
    | none => wordsTold h r (pt t (gn h u) w)
  | _ :: r, t => wordsTold h r t
def unlike1 (h : Hd) (t : Td) : Atm → Bool
  | .word true u w => !decide (lk t (gn h u) = some w)
  | .pair true u v => !(decide (gn h u = gn h v) || ((lk t (gn h u)).isSome && decide (lk t (gn h u) = lk t (gn h v))))
  | _ => true
def areUnlike (h : Hd) (t : Td) (as : List Atm) : Bool := as.all (unlike1 h t)
def letters : Str := "abcdefghijklmnopqrstuvwxyz"
def letter (d : Nat) : Str := Str.mk #[letters.cps.getD d 97]
def wordGo : Nat → Nat → Str → Str
  | 0, _, acc => acc
  | f + 1, n, acc => if n < 26 then letter (n % 26) ++ acc else wordGo f (n / 26 - 1) (letter (n % 26) ++ acc)
def wordOf (n : Nat) : Str := wordGo (n + 1) n Str.empty
def Atm.wd : Atm → Option Str
  | .word _ _ w => some w
  | _ => none
def taken (as : List Atm) : List Str := as.filterMap Atm.wd
def nextFree (tk : List Str) : Nat → Nat → Nat
  | 0, n => n
  | f + 1, n => if wordOf n ∈ tk then nextFree tk f (n + 1) else n
def name1 (h : Hd) (tk : List Str) (st : Td × Nat) (u : Nat) : Td × Nat := match lk st.1 (gn h u) with
  | some _ => st
  | none => (pt st.1 (gn h u) (wordOf (nextFree tk (tk.length + 1) st.2)), nextFree tk (tk.length + 1) st.2 + 1)
def wordsSolved (words : List Nat) (as : List Atm) : Option Td :=
  let h := classesOf words as
  match wordsTold h as [] with
  | none => none
  | some t => if areUnlike h t as then
      let t' := (words.foldl (name1 h (taken as)) (t, 0)).1
      some (words.foldl (fun acc u => pt acc u ((lk t' (gn h u)).getD Str.empty)) [])
    else none
def kindsOf (l : Fr) : List (Nat × Kd) := l.foldl (fun acc e => pt acc e.1 (((lk l e.1).getD []).headD .no)) []
def ofKind (k : Kd) (ks : List (Nat × Kd)) : List Nat := (ks.map (·.1)).filter fun u => decide (lk ks u = some k)
def valueOf (f : Fd) (t : Td) (u : Nat) : Vu := match lk f (some u) with
  | some n => .num n
  | none => match lk t u with
    | some w => .word w
    | none => .non
def valuesSolved (fr : Fr) (as : List Atm) : Option (List (Nat × Vu)) :=
  let l := kindsLeft fr as
  if l.any (fun e => e.2.isEmpty) then none else
  let ks := kindsOf l
  match numbersSolved (ofKind .nu ks) as, wordsSolved (ofKind .wo ks) as with
  | some f, some t => some (ks.foldl (fun acc e => pt acc e.1 (valueOf f t e.1)) [])
  | _, _ => none
def solution (fr : Fr) (as : List Atm) : Option (List (Nat × Vu)) := (valuesSolved fr as).map fun f => fr.map fun e => (e.1, (lk f e.1).getD .non)
def isContr (fr : Fr) (as : List Atm) : Bool := (valuesSolved fr as).isNone
def once (as : List Atm) : List Atm := as.foldl (fun acc a => if a ∈ acc then acc else acc ++ [a]) []
def least (fr : Fr) (found : List Atm) (a : Atm) : List Atm := if isContr fr (found.filter fun one => !decide (one = a)) then found.filter fun one => !decide (one = a) else found
def contradiction (fr : Fr) (as : List Atm) : Option (List Atm) := if isContr fr as then some ((once as).foldl (least fr) (once as)) else none
def otherKinds (u : Nat) (k : Kd) : List Atm := ([Kd.no, .nu, .wo].filter fun o => !decide (o = k)).map (.kind u)
def negations : Atm → List Atm
  | .kind u k => otherKinds u k
  | .most a b n => (Atm.us (.most a b n)).flatMap (fun u => otherKinds u .nu) ++ [.most b a (-n - 1)]
  | .pair s u v => (Atm.us (.pair s u v)).flatMap (fun u => otherKinds u .wo) ++ [.pair (!s) u v]
  | .word s u w => otherKinds u .wo ++ [.word (!s) u w]
def settled (fr : Fr) (as : List Atm) (t : Atm) : Option Bool :=
  if isContr fr (as ++ [t]) then some false else if (negations t).all fun o => isContr fr (as ++ [o]) then some true else none
end Am

set_option Elab.async false
set_option linter.all false
set_option maxRecDepth 100000
set_option maxHeartbeats 1000000
/-! Am2: unknowns and atoms as data; tables as dicts; readings that only give a value. -/
namespace Am
open PySem L2 Dz

theorem sl {n : Nat} (h : n ≤ 1000000) : n ≤ sizeLine := by rw [sizeLine_eq]; omega
theorem sl' {n : Nat} (h : n < 1000000) : n < sizeLine := by rw [sizeLine_eq]; omega

/-! ### keys as data -/
mutual
theorem noObj_kd : ∀ k : NestedKey, noObj (kd k) = true
  | .none => rfl
  | .num _ => rfl
  | .text _ => rfl
  | .tup ks => noObjs_kd ks
theorem noObjs_kd : ∀ ks : List NestedKey, noObjs (kds ks) = true
  | [] => rfl
  | k :: ks => by
    show (noObj (kd k) && noObjs (kds ks)) = true
    rw [noObj_kd k, noObjs_kd ks]
    rfl
end
mutual
theorem depth_kd : ∀ k : NestedKey, (toPy (kd k)).depth = k.depth
  | .none => rfl
  | .num _ => rfl
  | .text _ => rfl
  | .tup ks => by
    show PyData.depthAll (toPys (kds ks)) + 1 = NestedKey.depthAll ks + 1
    rw [depths_kd ks]
theorem depths_kd : ∀ ks : List NestedKey, PyData.depthAll (toPys (kds ks)) = NestedKey.depthAll ks
  | [] => rfl
  | k :: ks => by
    show max (toPy (kd k)).depth (PyData.depthAll (toPys (kds ks))) = max k.depth (NestedKey.depthAll ks)
    rw [depth_kd k, depths_kd ks]
end
mutual
theorem eqv_kd : ∀ a b : NestedKey, PyData.eqv (toPy (kd a)) (toPy (kd b)) = NestedKey.beq a b
  | .none, b => by cases b <;> rfl
  | .num i, b => by
    cases b with
    | num j =>
      show (i == j) = decide (i = j)
      by_cases h : i = j
      · rw [decide_eq_true h]; exact beq_iff_eq.mpr h
      · rw [decide_eq_false h]; exact beq_eq_false_iff_ne.mpr h
    | _ => rfl
  | .text i, b => by
    cases b with
    | text j =>
      show (i == j) = decide (i = j)
      by_cases h : i = j
      · rw [decide_eq_true h]; exact beq_iff_eq.mpr h
      · rw [decide_eq_false h]; exact beq_eq_false_iff_ne.mpr h
    | _ => rfl
  | .tup ks, b => by
    cases b with
    | tup js => exact eqvs_kd ks js
    | _ => rfl
theorem eqvs_kd : ∀ a b : List NestedKey, PyData.eqvAll (toPys (kds a)) (toPys (kds b)) = NestedKey.beqAll a b
  | [], b => by cases b <;> rfl
  | k :: ks, b => by
    cases b with
    | nil => rfl
    | cons j js =>
      show (PyData.eqv (toPy (kd k)) (toPy (kd j)) && PyData.eqvAll (toPys (kds ks)) (toPys (kds js))) = (NestedKey.beq k j && NestedKey.beqAll ks js)
      rw [eqv_kd k j, eqvs_kd ks js]
end
theorem deep_kd (a b : NestedKey) : deepEq (kd a) (kd b) = decide (a = b) := (eqv_kd a b).trans (NestedKey.decide_eq a b).symm
/-- a key whose texts are texts, not too deep -/
def okK (k : NestedKey) : Prop := (toPy (kd k)).canLay0 = true ∧ k.depth ≤ 8
theorem okK.shaped {k : NestedKey} (h : okK k) : shapedD (kd k) = true := by
  unfold shapedD SeqAt.shaped
  rw [noObj_kd, h.1, depth_kd]
  simp only [Bool.true_and]
  exact decide_eq_true (Nat.le_trans h.2 (by decide))
theorem keyN_kd {ks : List NestedKey} {P : NestedKey → Prop} (h : okK (.tup ks)) (q : P (.tup ks)) : keyN (kd (.tup ks)) P := by
  show (match nkeys (kds ks) with | some ks => (NestedKey.tup ks).depth ≤ 8 ∧ P (.tup ks) | none => False)
  rw [nkeys_of ks]
  exact ⟨h.2, q⟩

/-! ### names of unknowns -/
structure Names where
  ks : Nat → List NestedKey
  inj : ∀ i j, ks i = ks j → i = j
  ne : ∀ i, ks i ≠ []
  ok : ∀ i, (toPy (kd (.tup (ks i)))).canLay0 = true ∧ (NestedKey.tup (ks i)).depth ≤ 6
def Names.kt (N : Names) : Option Nat → List NestedKey
  | none => []
  | some i => N.ks i
def Names.k (N : Names) (o : Option Nat) : NestedKey := .tup (N.kt o)
def Names.u (N : Names) (o : Option Nat) : DV := kd (N.k o)
theorem Names.k_inj (N : Names) {a b : Option Nat} (h : N.k a = N.k b) : a = b := by
  have h : N.kt a = N.kt b := NestedKey.tup.inj h
  cases a with
  | none => cases b with
    | none => rfl
    | some j => exact absurd h.symm (N.ne j)
  | some i => cases b with
    | none => exact absurd h (N.ne i)
    | some j => rw [N.inj i j h]
theorem Names.okk (N : Names) (o : Option Nat) : okK (N.k o) := by
  cases o with
  | none => exact ⟨rfl, by show (0 : Nat) + 1 ≤ 8; decide⟩
  | some i => exact ⟨(N.ok i).1, Nat.le_trans (N.ok i).2 (by decide)⟩
theorem Names.dep (N : Names) (o : Option Nat) : (N.k o).depth ≤ 6 := by
  cases o with
  | none => show (0 : Nat) + 1 ≤ 6; decide
  | some i => exact (N.ok i).2
theorem Names.eq (N : Names) (a b : Option Nat) : deepEq (N.u a) (N.u b) = decide (a = b) := by
  refine (deep_kd _ _).trans ?_
  by_cases h : a = b
  · rw [decide_eq_true h, decide_eq_true (congrArg N.k h)]
  · rw [decide_eq_false h, decide_eq_false fun e => h (N.k_inj e)]
def Kd.s : Kd → Str
  | .no => "nothing"
  | .nu => "number"
  | .wo => "word"
theorem Kd.s_inj {a b : Kd} (h : a.s = b.s) : a = b := by
  revert h
  cases a <;> cases b <;> first | (intro _; rfl) | (intro h; exact absurd h (by decide +kernel))
def pairS (neg : Bool) : Str := if neg then "unlike" else "same"
def wordS (neg : Bool) : Str := if neg then "other" else "word"
def Atm.ks (N : Names) : Atm → List NestedKey
  | .kind u k => [.text "kind", N.k (some u), .text k.s]
  | .most a b n => [.text "most", N.k a, N.k b, .num n]
  | .pair s u v => [.text (pairS s), N.k (some u), N.k (some v)]
  | .word s u w => [.text (wordS s), N.k (some u), .text w]
def Atm.k (N : Names) (a : Atm) : NestedKey := .tup (a.ks N)
def Atm.d (N : Names) (a : Atm) : DV := kd (a.k N)
/-- the atom's word is a text that can be asked for -/
def Atm.ok : Atm → Prop
  | .word _ _ w => PyData.strOk w = true
  | _ => True
theorem pairS_inj {a b : Bool} (h : pairS a = pairS b) : a = b := by
  revert h
  cases a <;> cases b <;> first | (intro _; rfl) | (intro h; exact absurd h (by decide +kernel))
theorem wordS_inj {a b : Bool} (h : wordS a = wordS b) : a = b := by
  revert h
  cases a <;> cases b <;> first | (intro _; rfl) | (intro h; exact absurd h (by decide +kernel))
theorem pair_word {a b : Bool} : pairS a ≠ wordS b := by cases a <;> cases b <;> decide +kernel
theorem kind_pair {b : Bool} : ("kind" : Str) ≠ pairS b := by cases b <;> decide +kernel
theorem kind_word {b : Bool} : ("kind" : Str) ≠ wordS b := by cases b <;> decide +kernel
theorem Atm.k_inj {N : Names} {a b : Atm} (h : a.k N = b.k N) : a = b := by
  have h : a.ks N = b.ks N := NestedKey.tup.inj h
  cases a with
  | kind u k => cases b with
    | kind u' k' =>
      simp only [Atm.ks, List.cons.injEq, NestedKey.text.injEq, and_true, true_and] at h
      have e1 := Option.some.inj (N.k_inj h.1)
      have e2 := Kd.s_inj h.2
      rw [e1, e2]
    | most a b n => simp [Atm.ks] at h
    | pair s u v =>
      simp only [Atm.ks, List.cons.injEq, NestedKey.text.injEq] at h
      exact absurd h.1 kind_pair
    | word s u w =>
      simp only [Atm.ks, List.cons.injEq, NestedKey.text.injEq] at h
      exact absurd h.1 kind_word
  | most x y n => cases b with
    | most x' y' n' =>
      simp only [Atm.ks, List.cons.injEq, NestedKey.num.injEq, and_true, true_and] at h
      rw [N.k_inj h.1, N.k_inj h.2.1, h.2.2]
    | kind _ _ => simp [Atm.ks] at h
    | pair _ _ _ => simp [Atm.ks] at h
    | word _ _ _ => simp [Atm.ks] at h
  | pair s u v => cases b with
    | kind u' k =>
      simp only [Atm.ks, List.cons.injEq, NestedKey.text.injEq] at h
      exact absurd h.1.symm kind_pair
    | most a b n => simp [Atm.ks] at h
    | pair s' u' v' =>
      simp only [Atm.ks, List.cons.injEq, NestedKey.text.injEq, and_true] at h
      rw [pairS_inj h.1, Option.some.inj (N.k_inj h.2.1), Option.some.inj (N.k_inj h.2.2)]
    | word s' u' w =>
      simp only [Atm.ks, List.cons.injEq, NestedKey.text.injEq] at h
      exact absurd h.1 pair_word
  | word s u w => cases b with
    | kind u' k =>
      simp only [Atm.ks, List.cons.injEq, NestedKey.text.injEq] at h
      exact absurd h.1.symm kind_word
    | most a b n => simp [Atm.ks] at h
    | pair s' u' v' =>
      simp only [Atm.ks, List.cons.injEq, NestedKey.text.injEq] at h
      exact absurd h.1.symm pair_word
    | word s' u' w' =>
      simp only [Atm.ks, List.cons.injEq, NestedKey.text.injEq, and_true] at h
      rw [wordS_inj h.1, Option.some.inj (N.k_inj h.2.1), h.2.2]
theorem Atm.eq {N : Names} (a b : Atm) : deepEq (a.d N) (b.d N) = decide (a = b) := by
  refine (deep_kd _ _).trans ?_
  by_cases h : a = b
  · rw [decide_eq_true h, decide_eq_true (congrArg (Atm.k N) h)]
  · rw [decide_eq_false h, decide_eq_false fun e => h (Atm.k_inj e)]
theorem lays_cons (k : NestedKey) (ks : List NestedKey) : PyData.canLayAll0 (toPys (kds (k :: ks))) = ((toPy (kd k)).canLay0 && PyData.canLayAll0 (toPys (kds ks))) := rfl
theorem Atm.okk {N : Names} {a : Atm} (h : a.ok) : okK (a.k N) := by
  have n1 := fun o => (N.okk o).1
  have n2 := fun o => N.dep o
  have lit : ∀ s : Str, PyData.strOk s = true → (toPy (kd (.text s))).canLay0 = true := fun s hs => hs
  cases a with
  | kind u k =>
    refine ⟨?_, ?_⟩
    · show PyData.canLayAll0 (toPys (kds [_, _, _])) = true
      rw [lays_cons, lays_cons, lays_cons, lit _ (by decide +kernel), n1, lit _ (by cases k <;> decide +kernel)]
      rfl
    · show max 0 (max (N.k (some u)).depth (max 0 0)) + 1 ≤ 8
      have := n2 (some u)
      omega
  | most a b n =>
    refine ⟨?_, ?_⟩
    · show PyData.canLayAll0 (toPys (kds [_, _, _, _])) = true
      rw [lays_cons, lays_cons, lays_cons, lays_cons, lit _ (by decide +kernel), n1, n1]
      rfl
    · show max 0 (max (N.k a).depth (max (N.k b).depth (max 0 0))) + 1 ≤ 8
      have h1 := n2 a
      have h2 := n2 b
      omega
  | pair s u v =>
    refine ⟨?_, ?_⟩
    · show PyData.canLayAll0 (toPys (kds [_, _, _])) = true
      rw [lays_cons, lays_cons, lays_cons, lit _ (by cases s <;> decide +kernel), n1, n1]
      rfl
    · show max 0 (max (N.k (some u)).depth (max (N.k (some v)).depth 0)) + 1 ≤ 8
      have h1 := n2 (some u)
      have h2 := n2 (some v)
      omega
  | word s u w =>
    refine ⟨?_, ?_⟩
    · show PyData.canLayAll0 (toPys (kds [_, _, _])) = true
      rw [lays_cons, lays_cons, lays_cons, lit _ (by cases s <;> decide +kernel), n1, lit _ h]
      rfl
    · show max 0 (max (N.k (some u)).depth (max 0 0)) + 1 ≤ 8
      have := n2 (some u)
      omega

/-! ### tables as dicts -/
section
variable {K A : Type} [DecidableEq K]
def enc (f : K → NestedKey) (g : A → DV) (l : List (K × A)) : List (NestedKey × DV) := l.map fun e => (f e.1, g e.2)
theorem enc_len {f : K → NestedKey} {g : A → DV} {l : List (K × A)} : (enc f g l).length = l.length := List.length_map _
theorem lk_cons (e : K × A) (l : List (K × A)) (k : K) : lk (e :: l) k = if e.1 = k then some e.2 else lk l k := by
  unfold lk
  rw [List.find?_cons]
  by_cases h : e.1 = k
  · rw [if_pos h, decide_eq_true h]; rfl
  · rw [if_neg h, decide_eq_false h]
theorem lk_enc {f : K → NestedKey} {g : A → DV} (hf : ∀ a b, f a = f b → a = b) (k : K) : ∀ l : List (K × A), lkN (enc f g l) (f k) = (lk l k).map g
  | [] => rfl
  | e :: l => by
    have ih := lk_enc (g := g) hf k l
    rw [lk_cons]
    show lkN ((f e.1, g e.2) :: enc f g l) (f k) = _
    unfold lkN at ih ⊢
    rw [List.find?_cons]
    by_cases h : e.1 = k
    · rw [if_pos h, decide_eq_true (congrArg f h)]; rfl
    · rw [if_neg h, decide_eq_false fun z => h (hf _ _ z)]
      exact ih
theorem pt_enc {f : K → NestedKey} {g : A → DV} (hf : ∀ a b, f a = f b → a = b) (k : K) (a : A) (l : List (K × A)) : putN (enc f g l) (f k) (g a) = enc f g (pt l k a) := by
  have hs : (lkN (enc f g l) (f k)).isSome = (lk l k).isSome := by rw [lk_enc hf, Option.isSome_map]
  unfold putN pt
  rw [hs]
  by_cases c : (lk l k).isSome = true
  · rw [if_pos c, if_pos c]
    unfold enc
    rw [List.map_map, List.map_map]
    refine List.map_congr_left fun e _ => ?_
    show (if f e.1 = f k then (f e.1, g a) else (f e.1, g e.2)) = (f (if e.1 = k then (e.1, a) else e).1, g (if e.1 = k then (e.1, a) else e).2)
    by_cases h : e.1 = k
    · rw [if_pos (congrArg f h), if_pos h]
    · rw [if_neg fun z => h (hf _ _ z), if_neg h]
  · rw [if_neg c, if_neg c]
    unfold enc
    rw [List.map_append]
    rfl
theorem lk_pt (l : List (K × A)) (k k' : K) (a : A) : lk (pt l k a) k' = if k = k' then some a else lk l k' := by
  have go : ∀ l : List (K × A), lk (l.map fun e => if e.1 = k then (e.1, a) else e) k' = if k = k' then (lk l k).map fun _ => a else lk l k' := by
    intro l
    induction l with
    | nil => simp [lk]
    | cons e l ih =>
      rw [List.map_cons, lk_cons, lk_cons, lk_cons, ih]
      by_cases h1 : e.1 = k
      · simp only [h1, if_true]
        by_cases h2 : k = k'
        · simp [h2]
        · simp [h2]
      · simp only [h1, if_false]
        by_cases h2 : k = k'
        · subst h2
          simp [h1]
        · simp only [h2, if_false]
  unfold pt
  cases hs : (lk l k).isSome with
  | true =>
    rw [if_pos rfl, go]
    by_cases h2 : k = k'
    · rw [if_pos h2, if_pos h2]
      cases e : lk l k with
      | none => rw [e] at hs; cases hs
      | some z => rfl
    · rw [if_neg h2, if_neg h2]
  | false =>
    rw [if_neg Bool.false_ne_true]
    have e : lk l k = none := by
      cases e : lk l k with
      | none => rfl
      | some z => rw [e] at hs; cases hs
    clear hs go
    induction l with
    | nil => rw [List.nil_append, lk_cons]
    | cons x l ih =>
      rw [lk_cons] at e
      by_cases h1 : x.1 = k
      · rw [if_pos h1] at e; cases e
      · rw [if_neg h1] at e
        rw [List.cons_append, lk_cons, lk_cons, ih e]
        by_cases h2 : k = k'
        · subst h2
          rw [if_neg h1, if_pos rfl, if_pos rfl]
        · rw [if_neg h2, if_neg h2]
theorem pt_len (l : List (K × A)) (k : K) (a : A) : (pt l k a).length ≤ l.length + 1 := by
  unfold pt
  split
  · rw [List.length_map]; omega
  · rw [List.length_append]; exact Nat.le_refl _
theorem pt_len' {l : List (K × A)} {k : K} (a : A) (h : (lk l k).isSome = true) : (pt l k a).length = l.length := by
  unfold pt
  rw [if_pos h, List.length_map]
theorem lk_isSome {l : List (K × A)} {k : K} : (lk l k).isSome = true ↔ k ∈ l.map (·.1) := by
  induction l with
  | nil =>
    refine ⟨fun h => ?_, fun h => ?_⟩
    · exact absurd h Bool.false_ne_true
    · cases h
  | cons e l ih =>
    rw [lk_cons, List.map_cons, List.mem_cons]
    by_cases h : e.1 = k
    · rw [if_pos h]; exact ⟨fun _ => .inl h.symm, fun _ => rfl⟩
    · rw [if_neg h, ih]
      exact ⟨.inr, fun z => z.elim (fun z => absurd z.symm h) id⟩
theorem pt_keys {l : List (K × A)} {k : K} (a : A) (h : (lk l k).isSome = true) : (pt l k a).map (·.1) = l.map (·.1) := by
  unfold pt
  rw [if_pos h, List.map_map]
  refine List.map_congr_left fun e _ => ?_
  show (if e.1 = k then (e.1, a) else e).1 = e.1
  split <;> rfl
end
end Am

set_option Elab.async false
set_option linter.all false
set_option maxRecDepth 100000
/-! AmR: readings of the program's atoms, as gen.py prints them. -/
namespace Am
open PySem L2 Dz

def w_unknowns_of : WS :=
  (wSeq (wAsg (wIf (wTest (wBin wIn (wBin wIx (wVar 0) (wC (.int 0))) (wTup (wCons (wC (.str "most")) (wCons (wC (.str "same")) (wCons (wC (.str "unlike")) wNil)))))) (wSl (wVar 0) (wPart (wC (.int 1))) (wPart (wC (.int 3)))) (wSl (wVar 0) (wPart (wC (.int 1))) (wPart (wC (.int 2))))) (wgName 1))
    (wRet (wLc (sTup (wVar 1)) (wgName 2) (wTest (wBin wNeL (wVar 2) (wC (.tup [])))) (wVar 2) [2])))

def w_kind_asked : WS :=
  (wSeq (wIfS (wTest (wBin wEqL (wBin wIx (wVar 0) (wC (.int 0))) (wC (.str "kind")))) (wRet (wBin wIx (wVar 0) (wC (.int 2)))) wNext)
    (wRet (wIf (wTest (wBin wEqL (wBin wIx (wVar 0) (wC (.int 0))) (wC (.str "most")))) (wC (.str "number")) (wC (.str "word")))))

def w_kinds_left (hs : NestedKey → Int) (f_kind_asked : WF) (f_unknowns_of : WF) : WS :=
  (wSeq (wAsg (wB (wDictP hs) (wCons (wVar 0) wNil)) (wgName 2))
    (wSeq (wFor (sTup (wVar 1)) (wgName 3) (wSeq (wAsg (wCall 1 f_kind_asked (wCons (wVar 3) wNil)) (wgName 4))
    (wFor (sLst (wCall 1 f_unknowns_of (wCons (wVar 3) wNil))) (wgName 5) (wNPut hs (wVar 2) (wVar 5) (wB wTuple (wCons (wLc (sTup (wBin (wNGet hs) (wVar 2) (wVar 5))) (wgName 6) (wTest (wBin wEqL (wVar 6) (wVar 4))) (wVar 6) [6]) wNil))))))
    (wRet (wFrzN (wVar 2)))))

def w_edges_of : WS :=
  (wSeq (wAsg (wLcM (sTup (wVar 1)) (wgName 3) (wTest (wBin wEqL (wBin wIx (wVar 3) (wC (.int 0))) (wC (.str "most")))) (wTup (wCons (wBin wIx (wVar 3) (wC (.int 1))) (wCons (wBin wIx (wVar 3) (wC (.int 2))) (wCons (wBin wIx (wVar 3) (wC (.int 3))) wNil)))) [3]) (wgName 2))
    (wSeq (wFor (sLst (wVar 0)) (wgName 4) (wDrop (wExt (wVar 2) (wLst (wCons (wTup (wCons (wVar 4) (wCons (wC (.tup [])) (wCons (wC (.int 1000000000000)) wNil)))) (wCons (wTup (wCons (wC (.tup [])) (wCons (wVar 4) (wCons (wC (.int 1000000000000)) wNil)))) wNil))))))
    (wRet (wFrz (wVar 2)))))

def w_numbers_solved (hs : NestedKey → Int) (f_edges_of : WF) : WS :=
  wPureN (wSeq (wAsg (wCall 2 f_edges_of (wCons (wVar 0) (wCons (wVar 1) wNil))) (wgName 2))
    (wSeq (wAsg (wDcN hs (sLst (wVar 0)) (wgName 4) wYes (wVar 4) (wC (.int 1000000000000)) [4]) (wgName 3))
    (wSeq (wNPut hs (wVar 3) (wC (.tup [])) (wC (.int 0)))
    (wSeq (wFor (sRng1 (wBin wAdd (wB (wLenN hs) (wCons (wVar 3) wNil)) (wC (.int 1)))) (wgName 5) (wSeq (wAsg (wC (.bool false)) (wgName 6))
    (wSeq (wFor (sLst (wVar 2)) (wgTup 3 (wgCons (wgName 7) (wgCons (wgName 8) (wgCons (wgName 9) wgNil)))) (wIfS (wTest (wBin wLtA (wBin wAdd (wBin (wNGet hs) (wVar 3) (wVar 8)) (wVar 9)) (wBin (wNGet hs) (wVar 3) (wVar 7)))) (wSeq (wNPut hs (wVar 3) (wVar 7) (wBin wAdd (wBin (wNGet hs) (wVar 3) (wVar 8)) (wVar 9)))
    (wAsg (wC (.bool true)) (wgName 6))) wNext))
    (wIfS (wNotT (wTest (wVar 6))) (wRet (wFrzN (wVar 3))) wNext))))
    (wRet (wC .none))))))

def w_classes_of (hs : NestedKey → Int) : WS :=
  (wSeq (wAsg (wDcN hs (sLst (wVar 0)) (wgName 3) wYes (wVar 3) (wVar 3) [3]) (wgName 2))
    (wSeq (wFor (sTup (wVar 1)) (wgName 4) (wIfS (wTest (wBin wEqL (wBin wIx (wVar 4) (wC (.int 0))) (wC (.str "same")))) (wSeq (wPar 5 6 (wCons (wBin (wNGet hs) (wVar 2) (wBin wIx (wVar 4) (wC (.int 1)))) (wCons (wBin (wNGet hs) (wVar 2) (wBin wIx (wVar 4) (wC (.int 2)))) wNil)))
    (wFor (sLst (wVar 0)) (wgName 3) (wIfS (wTest (wBin wEqL (wBin (wNGet hs) (wVar 2) (wVar 3)) (wVar 6))) (wNPut hs (wVar 2) (wVar 3) (wVar 5)) wNext))) wNext))
    (wRet (wFrzN (wVar 2)))))

def w_words_told (hs : NestedKey → Int) : WS :=
  (wSeq (wAsg (wDctN0 hs) (wgName 2))
    (wSeq (wFor (sTup (wVar 1)) (wgName 3) (wIfS (wAndT (wTest (wBin wEqL (wBin wIx (wVar 3) (wC (.int 0))) (wC (.str "word")))) (wTest (wBin wNeL (wNSetdef hs (wVar 2) (wBin (wNGetA hs) (wVar 0) (wBin wIx (wVar 3) (wC (.int 1)))) (wBin wIx (wVar 3) (wC (.int 2)))) (wBin wIx (wVar 3) (wC (.int 2)))))) (wRet (wC .none)) wNext))
    (wRet (wVar 2))))

def w_are_unlike (hs : NestedKey → Int) : WS :=
  (wSeq (wFor (sTup (wVar 2)) (wgName 3) (wSeq (wIfS (wAndT (wTest (wBin wEqL (wBin wIx (wVar 3) (wC (.int 0))) (wC (.str "other")))) (wTest (wBin wEqL (wNGet1 hs (wVar 1) (wBin (wNGetA hs) (wVar 0) (wBin wIx (wVar 3) (wC (.int 1))))) (wBin wIx (wVar 3) (wC (.int 2)))))) (wRet (wC (.bool false))) wNext)
    (wIfS (wTest (wBin wEqL (wBin wIx (wVar 3) (wC (.int 0))) (wC (.str "unlike")))) (wSeq (wPar 4 5 (wCons (wBin (wNGetA hs) (wVar 0) (wBin wIx (wVar 3) (wC (.int 1)))) (wCons (wBin (wNGetA hs) (wVar 0) (wBin wIx (wVar 3) (wC (.int 2)))) wNil)))
    (wIfS (wOrT (wTest (wBin wEqL (wVar 4) (wVar 5))) (wAndT (wTest (wBin (wInA hs) (wVar 4) (wVar 1))) (wTest (wBin wEqL (wBin (wNGetA hs) (wVar 1) (wVar 4)) (wNGet1 hs (wVar 1) (wVar 5)))))) (wRet (wC (.bool false))) wNext)) wNext)))
    (wRet (wC (.bool true))))

def w_word_of : WS :=
  (wSeq (wAsg (wC (.str "")) (wgName 1))
    (wSeq (wWhile (wTest (wBin wGe (wVar 0) (wC (.int 0)))) (wSeq (wAsg (wBin wAdd (wBin wIx (wC (.str "abcdefghijklmnopqrstuvwxyz")) (wBin wMod (wVar 0) (wB wLen (wCons (wC (.str "abcdefghijklmnopqrstuvwxyz")) wNil)))) (wVar 1)) (wgName 1))
    (wAsg (wBin wSub (wBin wDiv (wVar 0) (wB wLen (wCons (wC (.str "abcdefghijklmnopqrstuvwxyz")) wNil))) (wC (.int 1))) (wgName 0))))
    (wRet (wVar 1))))

def w_words_solved (hs : NestedKey → Int) (f_classes_of : WF) (f_words_told : WF) (f_are_unlike : WF) (f_word_of : WF) : WS :=
  wPureN (wSeq (wAsg (wCall 2 f_classes_of (wCons (wVar 0) (wCons (wVar 1) wNil))) (wgName 2))
    (wSeq (wAsg (wCall 2 f_words_told (wCons (wVar 2) (wCons (wVar 1) wNil))) (wgName 3))
    (wSeq (wIfS (wOrT (wTest (wBin wIsN (wVar 3) (wC .none))) (wNotT (wTest (wCall 3 f_are_unlike (wCons (wVar 2) (wCons (wVar 3) (wCons (wVar 1) wNil))))))) (wRet (wC .none)) wNext)
    (wSeq (wAsg (wDcK (sTup (wVar 1)) (wgName 5) (wTest (wBin wIn (wBin wIx (wVar 5) (wC (.int 0))) (wTup (wCons (wC (.str "word")) (wCons (wC (.str "other")) wNil))))) (wBin wIx (wVar 5) (wC (.int 2))) (wC (.bool true)) [5]) (wgName 4))
    (wSeq (wAsg (wC (.int 0)) (wgName 6))
    (wSeq (wFor (sLst (wVar 0)) (wgName 7) (wIfS (wTest (wBin (wNotInA hs) (wBin (wNGetA hs) (wVar 2) (wVar 7)) (wVar 3))) (wSeq (wWhile (wTest (wBin wInK (wCall 1 f_word_of (wCons (wVar 6) wNil)) (wVar 4))) (wAugI (fun a b => a + b) 6 (wC (.int 1))))
    (wSeq (wNPut hs (wVar 3) (wBin (wNGetA hs) (wVar 2) (wVar 7)) (wCall 1 f_word_of (wCons (wVar 6) wNil)))
    (wAugI (fun a b => a + b) 6 (wC (.int 1))))) wNext))
    (wRet (wFrzN (wDcN hs (sLst (wVar 0)) (wgName 7) wYes (wVar 7) (wBin (wNGetA hs) (wVar 3) (wBin (wNGetA hs) (wVar 2) (wVar 7))) [7])))))))))

def w_values_solved (hs : NestedKey → Int) (f_kinds_left : WF) (f_numbers_solved : WF) (f_words_solved : WF) : WS :=
  (wSeq (wAsg (wCall 2 f_kinds_left (wCons (wVar 0) (wCons (wVar 1) wNil))) (wgName 2))
    (wSeq (wIfS (wTest (wInVals hs (wTup wNil) (wVar 2))) (wRet (wC .none)) wNext)
    (wSeq (wAsg (wDcN hs (sKeysN hs (wVar 2)) (wgName 4) wYes (wVar 4) (wBin wIx (wBin (wNGetA hs) (wVar 2) (wVar 4)) (wC (.int 0))) [4]) (wgName 3))
    (wFrzNV 3 (wSeq (wAsg (wCall 2 f_numbers_solved (wCons (wLc (sKeysN hs (wVar 3)) (wgName 4) (wTest (wBin wEqL (wBin (wNGetA hs) (wVar 3) (wVar 4)) (wC (.str "number")))) (wVar 4) [4]) (wCons (wVar 1) wNil))) (wgName 5))
    (wSeq (wAsg (wCall 2 f_words_solved (wCons (wLc (sKeysN hs (wVar 3)) (wgName 4) (wTest (wBin wEqL (wBin (wNGetA hs) (wVar 3) (wVar 4)) (wC (.str "word")))) (wVar 4) [4]) (wCons (wVar 1) wNil))) (wgName 6))
    (wSeq (wIfS (wOrT (wTest (wBin wIsN (wVar 5) (wC .none))) (wTest (wBin wIsN (wVar 6) (wC .none)))) (wRet (wC .none)) wNext)
    (wRet (wFrzN (wDcN hs (sKeysN hs (wVar 3)) (wgName 4) wYes (wVar 4) (wNGet2 hs (wVar 5) (wVar 4) (wNGet1 hs (wVar 6) (wVar 4))) [4]))))))))))

def w_solution (hs : NestedKey → Int) (f_values_solved : WF) : WS :=
  (wSeq (wAsg (wCall 2 f_values_solved (wCons (wVar 0) (wCons (wVar 1) wNil))) (wgName 2))
    (wRet (wIf (wTest (wBin wIsN (wVar 2) (wC .none))) (wC .none) (wB wTuple (wCons (wLc (sTup (wVar 0)) (wgTup 2 (wgCons (wgName 3) (wgCons (wgName 4) wgNil))) wYes (wTup (wCons (wVar 3) (wCons (wBin (wNGetA hs) (wVar 2) (wVar 3)) wNil))) [3, 4]) wNil)))))

def w_is_contradiction (f_values_solved : WF) : WS :=
  (wRet (wBin wIsN (wCall 2 f_values_solved (wCons (wVar 0) (wCons (wVar 1) wNil))) (wC .none)))

def w_contradiction (hs : NestedKey → Int) (f_is_contradiction : WF) : WS :=
  wPureN (wSeq (wIfS (wNotT (wTest (wCall 2 f_is_contradiction (wCons (wVar 0) (wCons (wVar 1) wNil))))) (wRet (wC .none)) wNext)
    (wSeq (wAsg (wB (wListN hs) (wCons (wDcN hs (sTup (wVar 1)) (wgName 3) wYes (wVar 3) (wC (.bool true)) [3]) wNil)) (wgName 2))
    (wSeq (wFor (sLst (wB wList (wCons (wVar 2) wNil))) (wgName 3) (wSeq (wAsg (wLc (sLst (wVar 2)) (wgName 5) (wTest (wBin wNeL (wVar 5) (wVar 3))) (wVar 5) [5]) (wgName 4))
    (wIfS (wTest (wCall 2 f_is_contradiction (wCons (wVar 0) (wCons (wB wTuple (wCons (wVar 4) wNil)) wNil)))) (wAsg (wVar 4) (wgName 2)) wNext)))
    (wRet (wB wTuple (wCons (wVar 2) wNil))))))

def w_other_kinds : WS :=
  (wRet (wIf (wTest (wBin wEqL (wVar 0) (wC (.tup [])))) (wLst wNil) (wLc (sTup (wC (.tup [(.str "nothing"), (.str "number"), (.str "word")]))) (wgName 2) (wTest (wBin wNeL (wVar 2) (wVar 1))) (wTup (wCons (wC (.str "kind")) (wCons (wVar 0) (wCons (wVar 2) wNil)))) [2])))

def w_negations (f_other_kinds : WF) (f_unknowns_of : WF) (f_kind_asked : WF) : WS :=
  (wSeq (wIfS (wTest (wBin wEqL (wBin wIx (wVar 0) (wC (.int 0))) (wC (.str "kind")))) (wRet (wCall 2 f_other_kinds (wCons (wBin wIx (wVar 0) (wC (.int 1))) (wCons (wBin wIx (wVar 0) (wC (.int 2))) wNil)))) wNext)
    (wSeq (wAsg (wLc2 (sLst (wCall 1 f_unknowns_of (wCons (wVar 0) wNil))) (wgName 2) wYes (sLst (wCall 2 f_other_kinds (wCons (wVar 2) (wCons (wCall 1 f_kind_asked (wCons (wVar 0) wNil)) wNil)))) (wgName 3) wYes (wVar 3) [2, 3] [3]) (wgName 1))
    (wSeq (wIfS (wTest (wBin wEqL (wBin wIx (wVar 0) (wC (.int 0))) (wC (.str "most")))) (wRet (wLst (wStar (wVar 1) (wCons (wTup (wCons (wC (.str "most")) (wCons (wBin wIx (wVar 0) (wC (.int 2))) (wCons (wBin wIx (wVar 0) (wC (.int 1))) (wCons (wBin wSub (wUn wNeg (wBin wIx (wVar 0) (wC (.int 3)))) (wC (.int 1))) wNil))))) wNil)))) wNext)
    (wRet (wLst (wStar (wVar 1) (wCons (wTup (wCons (wIxK [("same", (.str "unlike")), ("unlike", (.str "same")), ("word", (.str "other")), ("other", (.str "word"))] (wBin wIx (wVar 0) (wC (.int 0)))) (wCons (wBin wIx (wVar 0) (wC (.int 1))) (wCons (wBin wIx (wVar 0) (wC (.int 2))) wNil)))) wNil)))))))

def w_settled (f_is_contradiction : WF) (f_negations : WF) : WS :=
  (wSeq (wIfS (wTest (wCall 2 f_is_contradiction (wCons (wVar 0) (wCons (wTup (wStar (wVar 1) (wCons (wVar 2) wNil))) wNil)))) (wRet (wC (.bool false))) wNext)
    (wSeq (wIfS (wTest (wB wAll (wCons (wLc (sLst (wCall 1 f_negations (wCons (wVar 2) wNil))) (wgName 3) wYes (wCall 2 f_is_contradiction (wCons (wVar 0) (wCons (wTup (wStar (wVar 1) (wCons (wVar 3) wNil))) wNil))) [3]) wNil))) (wRet (wC (.bool true))) wNext)
    (wRet (wC .none))))

end Am

set_option Elab.async false
set_option linter.all false
set_option maxRecDepth 100000
set_option maxHeartbeats 1000000
/-! Am3: readings that only give a value; loops that fold; dicts with tuple keys. -/
namespace Am
open PySem L2 Dz

def PEv (w : WE) (ρ : Rho) (μ : Mh) (y : DV) : Prop := ∀ P : DV → Mh → Prop, P y μ → w ρ μ P
def PTv (w : WT) (ρ : Rho) (μ : Mh) (b : Bool) : Prop := ∀ P : Bool → Mh → Prop, P b μ → w ρ μ P
def PAv (w : WA) (ρ : Rho) (μ : Mh) (ys : List DV) : Prop := ∀ P : List DV → Mh → Prop, P ys μ → w ρ μ P
def PIv (w : WI) (ρ : Rho) (μ : Mh) (ys : List DV) : Prop := ∀ P : List DV → Mh → Prop, P ys μ → w ρ μ P
section
variable {ρ : Rho} {μ : Mh} {x y z u : DV} {wa wb wc : WE} {wr : WA} {t : WT} {b : Bool} {i : Nat} {E : DEnds} {rest : WS} {C a : Addr} {f : Str} {fs : List (Str × DV)} {ys ds : List DV}
theorem pe_var (h : ρ[i]? = some (some y)) : PEv (wVar i) ρ μ y := fun P q => by
  unfold wVar
  simp only [h]
  exact q
theorem pe_c : PEv (wC y) ρ μ y := fun P q => q
theorem pe_bin {w2 : W2} (ha : PEv wa ρ μ x) (hb : PEv wb ρ μ y) (h : ∀ P : DV → Mh → Prop, P z μ → w2 x y μ P) : PEv (wBin w2 wa wb) ρ μ z := fun P q => ha _ (hb _ (h P q))
theorem pa_nil : PAv wNil ρ μ [] := fun P q => q
theorem pa_cons (ha : PEv wa ρ μ x) (hr : PAv wr ρ μ ys) : PAv (wCons wa wr) ρ μ (x :: ys) := fun P q => ha _ (hr _ q)
theorem pa_starT (ha : PEv wa ρ μ (.tup ds)) (hr : PAv wr ρ μ ys) : PAv (wStar wa wr) ρ μ (ds ++ ys) := fun P q => ha _ (hr _ q)
theorem pa_starL (ha : PEv wa ρ μ (.lst ds)) (hr : PAv wr ρ μ ys) : PAv (wStar wa wr) ρ μ (ds ++ ys) := fun P q => ha _ (hr _ q)
theorem pe_b {wf : WB} (ha : PAv wr ρ μ ys) (h : ∀ P : DV → Mh → Prop, P z μ → wf ys μ P) : PEv (wB wf wr) ρ μ z := fun P q => ha _ (h P q)
theorem pe_call {wf : WF} {n : Nat} (ha : PAv wr ρ μ ys) (hn : ys.length = n) (h : ∀ P : DV → Mh → Prop, P z μ → wf ys μ P) : PEv (wCall n wf wr) ρ μ z := fun P q => ha _ ⟨hn, h P q⟩
theorem pe_tup (ha : PAv wr ρ μ ys) (hn : ys.length ≤ sizeLine) : PEv (wTup wr) ρ μ (.tup ys) := fun P q => ha _ ⟨hn, q⟩
theorem pe_lst (ha : PAv wr ρ μ ys) (hn : ys.length ≤ sizeLine) : PEv (wLst wr) ρ μ (.lst ys) := fun P q => ha _ ⟨hn, q⟩
theorem pt_test (h : PEv wa ρ μ (.bool b)) : PTv (wTest wa) ρ μ b := fun P q => h _ q
theorem pe_if (h : PTv t ρ μ b) (ha : b = true → PEv wa ρ μ x) (hb : b = false → PEv wb ρ μ x) : PEv (wIf t wa wb) ρ μ x := fun P q => h _ (by
  cases b with
  | true => exact ha rfl P q
  | false => exact hb rfl P q)
theorem pt_not (h : PTv t ρ μ b) : PTv (wNotT t) ρ μ (!b) := fun P q => h _ q
theorem pt_or {t2 : WT} {c : Bool} (h : PTv t ρ μ b) (k : b = false → PTv t2 ρ μ c) : PTv (wOrT t t2) ρ μ (b || c) := fun P q => h _ (by
  cases b with
  | true => exact q
  | false => exact k rfl P q)
theorem pt_and {t2 : WT} {c : Bool} (h : PTv t ρ μ b) (k : b = true → PTv t2 ρ μ c) : PTv (wAndT t t2) ρ μ (b && c) := fun P q => h _ (by
  cases b with
  | true => exact k rfl P q
  | false => exact q)
theorem ret_v (h : PEv wa ρ μ y) (k : E.rt y μ) : wRet wa E ρ μ := h _ k
theorem ret_ (k : wa ρ μ fun d μ1 => E.rt d μ1) : wRet wa E ρ μ := k
theorem seq_asg (h : PEv wa ρ μ y) (k : rest E (ρ.set i (some y)) μ) : wSeq (wAsg wa (wgName i)) rest E ρ μ := h _ k
theorem seq_ (k : wa ρ μ fun d μ1 => rest E (ρ.set i (some d)) μ1) : wSeq (wAsg wa (wgName i)) rest E ρ μ := k
theorem asg_last (h : PEv wa ρ μ y) (k : E.nx (ρ.set i (some y)) μ) : wAsg wa (wgName i) E ρ μ := h _ k
theorem par_last {j : Nat} {ys : List DV} (h : PAv wr ρ μ [x, y]) (k : E.nx ((ρ.set i (some x)).set j (some y)) μ) : wPar i j wr E ρ μ := h _ k
theorem seq_par {j : Nat} (h : PAv wr ρ μ [x, y]) (k : rest E ((ρ.set i (some x)).set j (some y)) μ) : wSeq (wPar i j wr) rest E ρ μ := h _ k
theorem seq_if {su : WS} (h : PTv t ρ μ b) (ka : b = true → su { E with nx := rest E } ρ μ) (kb : b = false → rest E ρ μ) : wSeq (wIfS t su wNext) rest E ρ μ := h _ (by
  cases b with
  | true => exact ka rfl
  | false => exact kb rfl)
theorem ifs_v {su : WS} (h : PTv t ρ μ b) (ka : b = true → su E ρ μ) (kb : b = false → E.nx ρ μ) : wIfS t su wNext E ρ μ := h _ (by
  cases b with
  | true => exact ka rfl
  | false => exact kb rfl)
theorem pe_ixT {k : Int} (h : PEv wa ρ μ (.tup ds)) (hi : PEv wb ρ μ (.int k)) (e : atI ds k = some y) : PEv (wBin wIx wa wb) ρ μ y := fun P q => h _ (hi _ (by
  show atW (atI ds k) _
  rw [e]
  exact q))
theorem pe_catL {xs ys : List DV} (h : PEv wa ρ μ (.lst xs)) (k : PEv wb ρ μ (.lst ys)) (l : xs.length + ys.length ≤ sizeLine) : PEv (wBin wAdd wa wb) ρ μ (.lst (xs ++ ys)) := fun P q => h _ (k _ ⟨l, q⟩)
theorem pe_sl {a b : Int} (h : PEv wa ρ μ (.tup ds)) (e : cutD ds (some a) (some b) = ys) : PEv (wSl wa (wPart (wC (.int a))) (wPart (wC (.int b)))) ρ μ (.tup ys) := fun P q => h _ (by
  show P (.tup (cutD ds (some a) (some b))) μ
  rw [e]
  exact q)
theorem pi_tup (h : PEv wa ρ μ (.tup ds)) : PIv (sTup wa) ρ μ ds := fun P q => h _ q
theorem pi_lst (h : PEv wa ρ μ (.lst ds)) : PIv (sLst wa) ρ μ ds := fun P q => h _ q
theorem pe_str {s r : Str} {c : Bool} (ha : PEv wa ρ μ (.str s)) (hb : PEv wb ρ μ (.str r)) (h : decide (s = r) = c) : PEv (wBin wEqL wa wb) ρ μ (.bool c) := pe_bin ha hb fun P q => by
  show P (.bool (decide (s = r))) μ
  rw [h]
  exact q
theorem pe_strN {s r : Str} {c : Bool} (ha : PEv wa ρ μ (.str s)) (hb : PEv wb ρ μ (.str r)) (h : (!decide (s = r)) = c) : PEv (wBin wNeL wa wb) ρ μ (.bool c) := pe_bin ha hb fun P q => by
  show P (.bool (!decide (s = r))) μ
  rw [h]
  exact q
theorem pe_eqK {j k : NestedKey} {js ks : List NestedKey} (ej : j = .tup js) (ek : k = .tup ks) (oj : okK j) (ok : okK k) (ha : PEv wa ρ μ (kd j)) (hb : PEv wb ρ μ (kd k)) : PEv (wBin wEqL wa wb) ρ μ (.bool (decide (j = k))) := pe_bin ha hb fun P q => by
  have e := deep_kd j k
  rw [← e] at q
  have s1 := oj.shaped
  have s2 := ok.shaped
  subst ej ek
  exact ⟨s1, s2, q⟩
theorem pe_neK {j k : NestedKey} {js ks : List NestedKey} (ej : j = .tup js) (ek : k = .tup ks) (oj : okK j) (ok : okK k) (ha : PEv wa ρ μ (kd j)) (hb : PEv wb ρ μ (kd k)) : PEv (wBin wNeL wa wb) ρ μ (.bool (!decide (j = k))) := pe_bin ha hb fun P q => by
  have e := deep_kd j k
  rw [← e] at q
  have s1 := oj.shaped
  have s2 := ok.shaped
  subst ej ek
  exact ⟨s1, s2, q⟩

/-! ### loops that fold -/
theorem for_fold {g : WG} {bd : WS} {α S : Type} (d : α → DV) (step : S → α → S) (R : S → Rho → Mh → Prop) : ∀ (l : List α) (s : S) (ρ : Rho) (μ : Mh),
    (∀ x ∈ l, ∀ (s : S) (ρ : Rho) (μ : Mh) (F : DEnds), R s ρ μ → F.rt = E.rt → F.bk = E.nx → (∀ ρ' μ', R (step s x) ρ' μ' → F.nx ρ' μ') → (∀ ρ' μ', R (step s x) ρ' μ' → F.ct ρ' μ') → g (d x) ρ fun ρ1 => bd F ρ1 μ) →
    R s ρ μ → (∀ ρ' μ', R (l.foldl step s) ρ' μ' → E.nx ρ' μ') → forW g bd E (l.map d) ρ μ
  | [], s, ρ, μ, _, h, q => q ρ μ h
  | x :: l, s, ρ, μ, hx, h, q => by
    refine hx x List.mem_cons_self s ρ μ { nx := forW g bd E (l.map d), rt := E.rt, bk := E.nx, ct := forW g bd E (l.map d) } h rfl rfl (fun ρ' μ' i' => ?_) fun ρ' μ' i' => ?_
    · exact for_fold d step R l _ ρ' μ' (fun z hz => hx z (List.mem_cons_of_mem _ hz)) i' q
    · exact for_fold d step R l _ ρ' μ' (fun z hz => hx z (List.mem_cons_of_mem _ hz)) i' q
theorem seq_for {g : WG} {bd : WS} {ws : WI} {xs : List DV} (h : PIv ws ρ μ xs) (k : forW g bd { E with nx := rest E } xs ρ μ) : wSeq (wFor ws g bd) rest E ρ μ := h _ k
theorem for_last {g : WG} {bd : WS} {ws : WI} {xs : List DV} (h : PIv ws ρ μ xs) (k : forW g bd E xs ρ μ) : wFor ws g bd E ρ μ := h _ k
/-- [e for x in ws if t], nothing made -/
theorem pe_lc {α : Type} {g : WG} {ws : WI} {t : WT} {e : WE} {vs : List Nat} (d : α → DV) (l : List α) (bb : α → Bool) (ff : α → DV) (r : α → Rho) (hw : PIv ws ρ μ (l.map d)) (hl : l.length ≤ sizeLine)
    (hg : ∀ x ∈ l, ∀ P : Rho → Prop, P (r x) → g (d x) (wipeD ρ vs) P) (ht : ∀ x ∈ l, PTv t (r x) μ (bb x)) (he : ∀ x ∈ l, bb x = true → PEv e (r x) μ (ff x)) : PEv (wLc ws g t e vs) ρ μ (.lst ((l.filter bb).map ff)) := fun P q => by
  refine hw _ ?_
  have go : ∀ (l : List α) (acc : List DV) (P : List DV → Mh → Prop), (∀ x ∈ l, ∀ P : Rho → Prop, P (r x) → g (d x) (wipeD ρ vs) P) → (∀ x ∈ l, PTv t (r x) μ (bb x)) → (∀ x ∈ l, bb x = true → PEv e (r x) μ (ff x)) →
      acc.length + l.length ≤ sizeLine → P (acc ++ (l.filter bb).map ff) μ → compW g t e (wipeD ρ vs) (l.map d) acc μ P := by
    intro l
    induction l with
    | nil =>
      intro acc P _ _ _ _ q
      have q' : P (acc ++ []) μ := q
      rw [List.append_nil] at q'
      exact q'
    | cons x l ih =>
      intro acc P hg ht he hl q
      rw [List.length_cons] at hl
      refine hg x List.mem_cons_self _ (ht x List.mem_cons_self _ ?_)
      have hg' := fun z hz => hg z (List.mem_cons_of_mem _ hz)
      have ht' := fun z hz => ht z (List.mem_cons_of_mem _ hz)
      have he' := fun z hz => he z (List.mem_cons_of_mem x hz)
      cases hb : bb x with
      | true =>
        rw [List.filter_cons_of_pos hb, List.map_cons] at q
        refine he x List.mem_cons_self hb _ ⟨by omega, ?_⟩
        refine ih (acc ++ [ff x]) P hg' ht' he' (by rw [List.length_append]; simp; omega) ?_
        rw [List.append_assoc]
        exact q
      | false =>
        rw [List.filter_cons_of_neg (by rw [hb]; exact Bool.false_ne_true)] at q
        exact ih acc P hg' ht' he' (by omega) q
  exact go l [] _ hg ht he (by simpa using hl) (by rw [List.nil_append]; exact q)
theorem pt_yes : PTv wYes ρ μ true := fun P q => q

/-! ### dicts with tuple keys -/
variable {hs : NestedKey → Int} {kvs : List (NestedKey × DV)} {k : NestedKey} {kt : List NestedKey} {d : DV} {p : Addr}
/-- x is such a dict -/
def isD (hs : NestedKey → Int) (μ : Mh) (x : DV) (kvs : List (NestedKey × DV)) : Prop := x = dnD hs kvs ∨ ∃ a, x = .obj a ∧ μ a = some (.dcN hs kvs)
theorem isD.data : isD hs μ (dnD hs kvs) kvs := .inl rfl
theorem isD.obj (h : μ a = some (.dcN hs kvs)) : isD hs μ (.obj a) kvs := .inr ⟨a, rfl, h⟩
theorem nDct_in {T : List (NestedKey × DV) → Prop} (h : isD hs μ x kvs) (q : T kvs) : nDct hs μ x T := by
  rcases h with rfl | ⟨a, rfl, h⟩
  · exact ⟨kvs, rfl, q⟩
  · show (match μ a with | some (.dcN hs' kvs) => hs' = hs ∧ T kvs | _ => False)
    rw [h]
    exact ⟨rfl, q⟩
theorem nAt_in {T : Addr → List (NestedKey × DV) → NestedKey → Prop} (h : μ a = some (.dcN hs kvs)) (ek : k = .tup kt) (ok : okK k) (q : T a kvs k) : nAt hs μ (.obj a) (kd k) T := by
  subst ek
  show (match μ a with | some (.dcN hs' kvs) => hs' = hs ∧ keyN (kd (.tup kt)) (fun k => T a kvs k) | _ => False)
  rw [h]
  exact ⟨rfl, keyN_kd ok q⟩
theorem pe_ngetA (h : PEv wa ρ μ x) (hd : isD hs μ x kvs) (hk : PEv wb ρ μ (kd k)) (ek : k = .tup kt) (ok : okK k) (l : lkN kvs k = some d) : PEv (wBin (wNGetA hs) wa wb) ρ μ d := pe_bin h hk fun P q => by
  subst ek
  refine nDct_in hd (keyN_kd ok ?_)
  show atW (lkN kvs (.tup kt)) _
  rw [l]
  exact q
theorem pe_nget (h : PEv wa ρ μ (.obj a)) (hd : μ a = some (.dcN hs kvs)) (hk : PEv wb ρ μ (kd k)) (ek : k = .tup kt) (ok : okK k) (l : lkN kvs k = some d) : PEv (wBin (wNGet hs) wa wb) ρ μ d := pe_bin h hk fun P q => by
  refine nAt_in hd ek ok ?_
  show atW (lkN kvs k) _
  rw [l]
  exact q
theorem pe_nget1 (h : PEv wa ρ μ x) (hd : isD hs μ x kvs) (hk : PEv wb ρ μ (kd k)) (ek : k = .tup kt) (ok : okK k) : PEv (wNGet1 hs wa wb) ρ μ ((lkN kvs k).getD .none) := fun P q => by
  subst ek
  exact h _ ⟨nDct_in hd trivial, hk _ (nDct_in hd (keyN_kd ok q))⟩
theorem pe_nget2 (h : PEv wa ρ μ x) (hd : isD hs μ x kvs) (hk : PEv wb ρ μ (kd k)) (ek : k = .tup kt) (ok : okK k) (hz : PEv wc ρ μ z) : PEv (wNGet2 hs wa wb wc) ρ μ ((lkN kvs k).getD z) := fun P q => by
  subst ek
  exact h _ ⟨nDct_in hd trivial, hk _ (hz _ (nDct_in hd (keyN_kd ok q)))⟩
theorem pe_inA (hk : PEv wa ρ μ (kd k)) (h : PEv wb ρ μ x) (hd : isD hs μ x kvs) (ek : k = .tup kt) (ok : okK k) : PEv (wBin (wInA hs) wa wb) ρ μ (.bool (lkN kvs k).isSome) := pe_bin hk h fun P q => by
  subst ek
  exact nDct_in hd (keyN_kd ok q)
theorem pe_notinA (hk : PEv wa ρ μ (kd k)) (h : PEv wb ρ μ x) (hd : isD hs μ x kvs) (ek : k = .tup kt) (ok : okK k) : PEv (wBin (wNotInA hs) wa wb) ρ μ (.bool (!(lkN kvs k).isSome)) := pe_bin hk h fun P q => by
  subst ek
  exact nDct_in hd (keyN_kd ok q)
theorem nput_last {wd wk wv : WE} (hv : PEv wv ρ μ d) (h : PEv wd ρ μ (.obj a)) (hk : PEv wk ρ μ (kd k)) (hd : μ a = some (.dcN hs kvs)) (ek : k = .tup kt) (ok : okK k) (l : kvs.length < sizeLine) (q : E.nx ρ (updM μ a (.dcN hs (putN kvs k d)))) : wNPut hs wd wk wv E ρ μ :=
  hv _ (h _ (hk _ (nAt_in hd ek ok ⟨l, q⟩)))
theorem seq_nput {wd wk wv : WE} (hv : PEv wv ρ μ d) (h : PEv wd ρ μ (.obj a)) (hk : PEv wk ρ μ (kd k)) (hd : μ a = some (.dcN hs kvs)) (ek : k = .tup kt) (ok : okK k) (l : kvs.length < sizeLine) (q : rest E ρ (updM μ a (.dcN hs (putN kvs k d)))) : wSeq (wNPut hs wd wk wv) rest E ρ μ :=
  nput_last (E := { E with nx := rest E }) hv h hk hd ek ok l q
/-- {k: v for x in ws}, nothing else made: the pairs put one by one -/
theorem comp_dcN {α : Type} {g : WG} {ek ev : WE} {ρ0 : Rho} (d : α → DV) (kf : α → NestedKey) (vf : α → DV) (r : α → Rho) : ∀ (l : List α) (acc : List (NestedKey × DV)) (P : List (NestedKey × DV) → Mh → Prop),
    (∀ x ∈ l, ∀ P : Rho → Prop, P (r x) → g (d x) ρ0 P) → (∀ x ∈ l, PEv ek (r x) μ (kd (kf x))) → (∀ x ∈ l, ∃ ks, kf x = .tup ks) → (∀ x ∈ l, okK (kf x)) → (∀ x ∈ l, PEv ev (r x) μ (vf x)) → acc.length + l.length < sizeLine →
    P (l.foldl (fun acc x => putN acc (kf x) (vf x)) acc) μ → compN g wYes ek ev ρ0 (l.map d) acc μ P
  | [], acc, P, _, _, _, _, _, _, q => q
  | x :: l, acc, P, hg, hk, ht, ok, hv, hl, q => by
    rw [List.length_cons] at hl
    have kx := hk x List.mem_cons_self
    have ox := ok x List.mem_cons_self
    obtain ⟨ks, ek'⟩ := ht x List.mem_cons_self
    refine hg x List.mem_cons_self _ ?_
    refine kx _ (hv x List.mem_cons_self _ ?_)
    have ln : (putN acc (kf x) (vf x)).length ≤ acc.length + 1 := by
      unfold putN
      split
      · rw [List.length_map]; omega
      · rw [List.length_append]; exact Nat.le_refl _
    have key : ∀ P' : NestedKey → Prop, P' (kf x) → keyN (kd (kf x)) P' := fun P' h => by
      rw [ek'] at h ox ⊢
      exact keyN_kd ox h
    exact key _ ⟨by omega, comp_dcN d kf vf r l _ P (fun z hz => hg z (List.mem_cons_of_mem _ hz)) (fun z hz => hk z (List.mem_cons_of_mem _ hz)) (fun z hz => ht z (List.mem_cons_of_mem _ hz)) (fun z hz => ok z (List.mem_cons_of_mem _ hz)) (fun z hz => hv z (List.mem_cons_of_mem _ hz)) (by omega) q⟩
theorem fold_enc {α K A : Type} [DecidableEq K] {f : K → NestedKey} {g : A → DV} (hf : ∀ a b, f a = f b → a = b) (kf : α → K) (vf : α → A) : ∀ (l : List α) (acc : List (K × A)), l.foldl (fun acc x => putN acc (f (kf x)) (g (vf x))) (enc f g acc) = enc f g (l.foldl (fun acc x => pt acc (kf x) (vf x)) acc)
  | [], acc => rfl
  | x :: l, acc => by
    rw [List.foldl_cons, List.foldl_cons, pt_enc hf]
    exact fold_enc hf kf vf l _
theorem updM_same' {o : MO} : updM μ p o p = some o := updM_same
theorem updM_upd {o o' : MO} : updM (updM μ p o) p o' = updM μ p o' := by
  funext b
  by_cases e : b = p
  · subst e; rw [updM_same, updM_same]
  · rw [updM_ne e, updM_ne e, updM_ne e]
theorem delM_upd {o : MO} (h : μ p = none) : delM (updM μ p o) p = μ := by
  funext b
  by_cases e : b = p
  · subst e; rw [delM_same, h]
  · rw [delM_ne e, updM_ne e]
/-- the rest, slot i's dict plain data from here on -/
theorem frznv_o {w : WS} (h1 : ρ[i]? = some (some (.obj p))) (h : μ p = some (.dcN hs kvs)) (k : w E (ρ.set i (some (dnD hs kvs))) (delM μ p)) : wFrzNV i w E ρ μ := by
  unfold wFrzNV
  simp only [h1, h]
  exact k
theorem pe_frzn (h : PEv wa ρ μ (.obj p)) (hp : μ p = some (.dcN hs kvs)) (k : E.rt (dnD hs kvs) (delM μ p)) : wRet (wFrzN wa) E ρ μ := by
  refine h _ ?_
  show (match μ p with | some (.dcN hs kvs) => _ | _ => False)
  rw [hp]
  exact k
end
end Am

set_option Elab.async false
set_option linter.all false
set_option maxRecDepth 100000
set_option maxHeartbeats 1000000
/-! Am4: unknowns_of, kind_asked, kinds_left. -/
namespace Am
open PySem L2 Dz

def Names.v (N : Names) (i : Nat) : DV := N.u (some i)
def Names.kk (N : Names) (i : Nat) : NestedKey := N.k (some i)
theorem Names.kk_inj (N : Names) (a b : Nat) (h : N.kk a = N.kk b) : a = b := Option.some.inj (N.k_inj h)
def kindsD (l : List Kd) : DV := .tup (l.map fun k => .str k.s)
def frD (N : Names) (fr : Fr) : DV := .tup (fr.map fun e => .tup [N.v e.1, kindsD e.2])
def asD (N : Names) (as : List Atm) : DV := .tup (as.map (Atm.d N))
def encF (N : Names) (l : Fr) : List (NestedKey × DV) := enc N.kk kindsD l
/-- a frame and atoms that name its unknowns -/
structure Fits (fr : Fr) (as : List Atm) : Prop where
  nd : (fr.map (·.1)).Nodup
  len : fr.length ≤ 1000
  alen : as.length ≤ 1000
  us : ∀ a ∈ as, ∀ u ∈ a.us, u ∈ fr.map (·.1)

section
variable {ρ : Rho} {μ : Mh} {x y z u : DV} {wa wb wc : WE} {wr : WA} {t : WT} {b : Bool} {i : Nat} {E : DEnds} {rest : WS} {N : Names} {hs : NestedKey → Int}
theorem pe_eqU {a b : Option Nat} (ha : PEv wa ρ μ (N.u a)) (hb : PEv wb ρ μ (N.u b)) : PEv (wBin wEqL wa wb) ρ μ (.bool (decide (a = b))) := by
  have h := pe_eqK (j := N.k a) (k := N.k b) rfl rfl (N.okk a) (N.okk b) ha hb
  have e : decide (N.k a = N.k b) = decide (a = b) := by
    by_cases c : a = b
    · rw [decide_eq_true c, decide_eq_true (congrArg N.k c)]
    · rw [decide_eq_false c, decide_eq_false fun z => c (N.k_inj z)]
  rw [e] at h
  exact h
theorem pe_neU {a b : Option Nat} (ha : PEv wa ρ μ (N.u a)) (hb : PEv wb ρ μ (N.u b)) : PEv (wBin wNeL wa wb) ρ μ (.bool (!decide (a = b))) := by
  have h := pe_neK (j := N.k a) (k := N.k b) rfl rfl (N.okk a) (N.okk b) ha hb
  have e : decide (N.k a = N.k b) = decide (a = b) := by
    by_cases c : a = b
    · rw [decide_eq_true c, decide_eq_true (congrArg N.k c)]
    · rw [decide_eq_false c, decide_eq_false fun z => c (N.k_inj z)]
  rw [e] at h
  exact h
theorem pe_inS {s : Str} {ds : List DV} {c : Bool} (ha : PEv wa ρ μ (.str s)) (hb : PEv wb ρ μ (.tup ds)) (hf : ds.all flatD = true) (h : inF (.str s) ds = c) : PEv (wBin wIn wa wb) ρ μ (.bool c) := pe_bin ha hb fun P q => .inl ⟨rfl, hf, by rw [h]; exact q⟩
/-- the parts of an atom -/
def Atm.word0 : Atm → Str
  | .kind _ _ => "kind"
  | .most _ _ _ => "most"
  | .pair s _ _ => pairS s
  | .word s _ _ => wordS s
theorem pe_a0 {a : Atm} (h : PEv wa ρ μ (a.d N)) : PEv (wBin wIx wa (wC (.int 0))) ρ μ (.str a.word0) := by
  cases a <;> exact pe_ixT h pe_c rfl
def Atm.pl : Atm → List (Option Nat)
  | .kind u _ => [some u]
  | .most a b _ => [a, b]
  | .pair _ u v => [some u, some v]
  | .word _ u _ => [some u]
theorem pl_us (a : Atm) : (a.pl.filter fun o => !decide (o = none)).map N.u = a.us.map N.v := by
  cases a with
  | most a b n => cases a <;> cases b <;> rfl
  | _ => rfl
end
theorem c_kk : decide (("kind" : Str) = "kind") = true := by decide +kernel
theorem c_mk : decide (("most" : Str) = "kind") = false := by decide +kernel
theorem c_pk (s : Bool) : decide (pairS s = "kind") = false := by cases s <;> decide +kernel
theorem c_wk (s : Bool) : decide (wordS s = "kind") = false := by cases s <;> decide +kernel
theorem c_mm : decide (("most" : Str) = "most") = true := by decide +kernel
theorem c_km : decide (("kind" : Str) = "most") = false := by decide +kernel
theorem c_pm (s : Bool) : decide (pairS s = "most") = false := by cases s <;> decide +kernel
theorem c_wm (s : Bool) : decide (wordS s = "most") = false := by cases s <;> decide +kernel
theorem i_k : inF (.str "kind") [.str "most", .str "same", .str "unlike"] = false := by decide +kernel
theorem i_m : inF (.str "most") [.str "most", .str "same", .str "unlike"] = true := by decide +kernel
theorem i_p (s : Bool) : inF (.str (pairS s)) [.str "most", .str "same", .str "unlike"] = true := by cases s <;> decide +kernel
theorem i_w (s : Bool) : inF (.str (wordS s)) [.str "most", .str "same", .str "unlike"] = false := by cases s <;> decide +kernel
def wfUnk : WF := fun ds μ Q => ∃ (N : Names) (a : Atm), ds = [a.d N] ∧ Q (.lst (a.us.map N.v)) μ
theorem p_unknowns_of (ds : List DV) (μ : Mh) (Q : DV → Mh → Prop) (hl : ds.length = 1) (h : wfUnk ds μ Q) : w_unknowns_of { nx := fun _ μ' => Q .none μ', rt := Q } (ds.map some ++ List.replicate 2 none) μ := by
  obtain ⟨N, a, rfl, q⟩ := h
  unfold w_unknowns_of
  have p0 : PEv (wVar 0) [some (a.d N), none, none] μ (a.d N) := pe_var rfl
  have ht : ∀ c : Bool, inF (.str a.word0) [.str "most", .str "same", .str "unlike"] = c → PTv (wTest (wBin wIn (wBin wIx (wVar 0) (wC (.int 0))) (wTup (wCons (wC (.str "most")) (wCons (wC (.str "same")) (wCons (wC (.str "unlike")) wNil)))))) [some (a.d N), none, none] μ c := fun c hc =>
    pt_test (pe_inS (pe_a0 p0) (pe_tup (pa_cons pe_c (pa_cons pe_c (pa_cons pe_c pa_nil))) (sl (by decide))) rfl hc)
  refine seq_asg (y := .tup (a.pl.map N.u)) ?_ ?_
  · cases a with
    | kind u k => exact pe_if (ht false i_k) (fun h => by cases h) fun _ => pe_sl p0 rfl
    | most x y n => exact pe_if (ht true i_m) (fun _ => pe_sl p0 rfl) fun h => by cases h
    | pair s u v => exact pe_if (ht true (i_p s)) (fun _ => pe_sl p0 rfl) fun h => by cases h
    | word s u w => exact pe_if (ht false (i_w s)) (fun h => by cases h) fun _ => pe_sl p0 rfl
  · refine ret_v (y := .lst (a.us.map N.v)) ?_ q
    have hl : a.pl.length ≤ sizeLine := by cases a <;> exact sl (Nat.le_of_ble_eq_true rfl)
    have k := pe_lc (ρ := [some (a.d N), some (.tup (a.pl.map N.u)), none]) (μ := μ) (g := wgName 2) (ws := sTup (wVar 1)) (t := wTest (wBin wNeL (wVar 2) (wC (.tup [])))) (e := wVar 2) (vs := [2]) N.u a.pl (fun o => !decide (o = none)) N.u
      (fun o => [some (a.d N), some (.tup (a.pl.map N.u)), some (N.u o)]) (pi_tup (pe_var rfl)) hl (fun x _ P q => q) (fun x _ => pt_test (pe_neU (b := none) (pe_var rfl) pe_c)) fun x _ _ => pe_var rfl
    rw [pl_us] at k
    exact k
def wfKa : WF := fun ds μ Q => ∃ (N : Names) (a : Atm), ds = [a.d N] ∧ Q (.str a.ask.s) μ
theorem p_kind_asked (ds : List DV) (μ : Mh) (Q : DV → Mh → Prop) (hl : ds.length = 1) (h : wfKa ds μ Q) : w_kind_asked { nx := fun _ μ' => Q .none μ', rt := Q } (ds.map some ++ List.replicate 0 none) μ := by
  obtain ⟨N, a, rfl, q⟩ := h
  unfold w_kind_asked
  have p0 : PEv (wVar 0) [some (a.d N)] μ (a.d N) := pe_var rfl
  have k1 : ∀ c : Bool, decide (a.word0 = "kind") = c → PTv (wTest (wBin wEqL (wBin wIx (wVar 0) (wC (.int 0))) (wC (.str "kind")))) [some (a.d N)] μ c := fun c hc => pt_test (pe_str (pe_a0 p0) pe_c hc)
  have k2 : ∀ c : Bool, decide (a.word0 = "most") = c → PTv (wTest (wBin wEqL (wBin wIx (wVar 0) (wC (.int 0))) (wC (.str "most")))) [some (a.d N)] μ c := fun c hc => pt_test (pe_str (pe_a0 p0) pe_c hc)
  cases a with
  | kind u k => exact seq_if (k1 true c_kk) (fun _ => ret_v (pe_ixT p0 pe_c rfl) q) fun h => by cases h
  | most x y n => exact seq_if (k1 false c_mk) (fun h => by cases h) fun _ => ret_v (pe_if (k2 true c_mm) (fun _ => pe_c) fun h => by cases h) q
  | pair s u v => exact seq_if (k1 false (c_pk s)) (fun h => by cases h) fun _ => ret_v (pe_if (k2 false (c_pm s)) (fun h => by cases h) fun _ => pe_c) q
  | word s u w => exact seq_if (k1 false (c_wk s)) (fun h => by cases h) fun _ => ret_v (pe_if (k2 false (c_wm s)) (fun h => by cases h) fun _ => pe_c) q

/-! ### kinds_left -/
theorem pairs_fr {N : Names} : ∀ fr : Fr, pairsN (fr.map fun e => .tup [N.v e.1, kindsD e.2]) = some (encF N fr)
  | [] => rfl
  | e :: fr => by
    rw [List.map_cons]
    show (match nkeys (kds (N.ks e.1)), pairsN (fr.map fun e => .tup [N.v e.1, kindsD e.2]) with | some k, some l => some ((NestedKey.tup k, kindsD e.2) :: l) | _, _ => none) = _
    rw [nkeys_of, pairs_fr fr]
    rfl
theorem lk_encF {N : Names} (l : Fr) (u : Nat) : lkN (encF N l) (N.kk u) = (lk l u).map kindsD := lk_enc N.kk_inj u l
theorem keys_enc {K A : Type} {f : K → NestedKey} {g : A → DV} (l : List (K × A)) : (enc f g l).map (·.1) = (l.map (·.1)).map f := by
  unfold enc
  rw [List.map_map, List.map_map]
  rfl
theorem nodup_enc {K A : Type} {f : K → NestedKey} {g : A → DV} (hf : ∀ a b, f a = f b → a = b) {l : List (K × A)} (h : (l.map (·.1)).Nodup) : ((enc f g l).map (·.1)).Nodup := by
  rw [keys_enc]
  exact List.Pairwise.map f (fun a b h z => h (hf a b z)) h
theorem restrict_keys {k : Kd} {l : Fr} {u : Nat} (h : u ∈ l.map (·.1)) : (restrict k l u).map (·.1) = l.map (·.1) := pt_keys _ (lk_isSome.mpr h)
theorem restricts_keys {k : Kd} : ∀ {us : List Nat} {l : Fr}, (∀ u ∈ us, u ∈ l.map (·.1)) → (us.foldl (restrict k) l).map (·.1) = l.map (·.1)
  | [], _, _ => rfl
  | u :: us, l, h => by
    rw [List.foldl_cons, restricts_keys (us := us) (l := restrict k l u)]
    · exact restrict_keys (h u List.mem_cons_self)
    · intro v hv
      rw [restrict_keys (h u List.mem_cons_self)]
      exact h v (List.mem_cons_of_mem _ hv)
theorem left_keys : ∀ {as : List Atm} {l : Fr}, (∀ a ∈ as, ∀ u ∈ a.us, u ∈ l.map (·.1)) → (kindsLeft l as).map (·.1) = l.map (·.1)
  | [], _, _ => rfl
  | a :: as, l, h => by
    have e := restricts_keys (k := a.ask) (h a List.mem_cons_self)
    show (kindsLeft (a.us.foldl (restrict a.ask) l) as).map (·.1) = _
    rw [left_keys (as := as) (l := a.us.foldl (restrict a.ask) l) fun b hb u hu => by rw [e]; exact h b (List.mem_cons_of_mem _ hb) u hu]
    exact e
def wfLeft (hs : NestedKey → Int) : WF := fun ds μ Q => ∃ (N : Names) (fr : Fr) (as : List Atm), ds = [frD N fr, asD N as] ∧ Fits fr as ∧ (∀ e ∈ fr, e.2.length ≤ 10) ∧ Q (dnD hs (encF N (kindsLeft fr as))) μ
theorem restrict_small {k : Kd} {l : Fr} (u : Nat) (h : ∀ e ∈ l, e.2.length ≤ 10) : ∀ e ∈ restrict k l u, e.2.length ≤ 10 := by
  have hg : (((lk l u).getD []).filter fun one => decide (one = k)).length ≤ 10 := by
    refine Nat.le_trans (List.length_filter_le _ _) ?_
    cases e : lk l u with
    | none => exact Nat.zero_le _
    | some z =>
      have : ∃ x ∈ l, x.2 = z := by
        unfold lk at e
        obtain ⟨x, hx, rfl⟩ := Option.map_eq_some_iff.mp e
        exact ⟨x, List.mem_of_find?_eq_some hx, rfl⟩
      obtain ⟨x, hx, rfl⟩ := this
      exact h x hx
  intro e he
  unfold restrict pt at he
  split at he
  · obtain ⟨x, hx, rfl⟩ := List.mem_map.mp he
    split
    · exact hg
    · exact h x hx
  · rcases List.mem_append.mp he with he | he
    · exact h e he
    · rw [List.mem_singleton] at he
      rw [he]
      exact hg
theorem p_kinds_left {hs : NestedKey → Int} (ds : List DV) (μ : Mh) (Q : DV → Mh → Prop) (hl : ds.length = 2) (h : wfLeft hs ds μ Q) : w_kinds_left hs wfKa wfUnk { nx := fun _ μ' => Q .none μ', rt := Q } (ds.map some ++ List.replicate 5 none) μ := by
  obtain ⟨N, fr, as, rfl, fit, sm, q⟩ := h
  unfold w_kinds_left
  refine seq_ (pa_cons (pe_var (y := frD N fr) rfl) pa_nil _ ⟨encF N fr, pairs_fr fr, fun e he => ?_, nodup_enc N.kk_inj fit.nd, by unfold encF; rw [enc_len]; exact sl (Nat.le_trans fit.len (by decide)), fun p hp => ?_⟩)
  · obtain ⟨z, hz, rfl⟩ := List.mem_map.mp he
    exact (N.okk _).2
  let R : Fr → Rho → Mh → Prop := fun l ρ μ' => (∃ x3 x4 x5 x6, ρ = [some (frD N fr), some (asD N as), some (.obj p), x3, x4, x5, x6]) ∧ μ' = updM μ p (.dcN hs (encF N l)) ∧ l.map (·.1) = fr.map (·.1) ∧ ∀ e ∈ l, e.2.length ≤ 10
  refine seq_for (xs := as.map (Atm.d N)) (pi_tup (pe_var rfl)) (for_fold (Atm.d N) (fun l a => a.us.foldl (restrict a.ask) l) R as fr _ _ (fun a ha l ρ μ' F hR hrt _ hnx _ => ?_) ⟨⟨none, none, none, none, rfl⟩, rfl, rfl, sm⟩ fun ρ' μ' hR => ?_)
  · obtain ⟨⟨x3, x4, x5, x6, rfl⟩, rfl, hk, sm'⟩ := hR
    refine seq_asg (y := .str a.ask.s) (pe_call (pa_cons (pe_var rfl) pa_nil) rfl fun P q => ⟨N, a, rfl, q⟩) ?_
    have hin : ∀ u ∈ a.us, u ∈ l.map (·.1) := fun u hu => by rw [hk]; exact fit.us a ha u hu
    let R2 : Fr → Rho → Mh → Prop := fun l ρ μ' => (∃ x5 x6, ρ = [some (frD N fr), some (asD N as), some (.obj p), some (a.d N), some (.str a.ask.s), x5, x6]) ∧ μ' = updM μ p (.dcN hs (encF N l)) ∧ l.map (·.1) = fr.map (·.1) ∧ ∀ e ∈ l, e.2.length ≤ 10
    refine for_last (xs := a.us.map N.v) (pi_lst (pe_call (pa_cons (pe_var rfl) pa_nil) rfl fun P q => ⟨N, a, rfl, q⟩)) (for_fold N.v (restrict a.ask) R2 a.us l _ _ (fun u hu l2 ρ2 μ2 F2 hR2 _ _ hnx2 _ => ?_) ⟨⟨x5, x6, rfl⟩, rfl, hk, sm'⟩ fun ρ' μ' hR2 => ?_)
    · obtain ⟨⟨x5, x6, rfl⟩, rfl, hk2, sm2⟩ := hR2
      have hu2 : u ∈ l2.map (·.1) := by rw [hk2]; exact fit.us a ha u hu
      obtain ⟨ks, hks⟩ := Option.isSome_iff_exists.mp (lk_isSome.mpr hu2)
      have hlk : lkN (encF N l2) (N.kk u) = some (kindsD ks) := by rw [lk_encF, hks]; rfl
      have hlen : l2.length = fr.length := by have := congrArg List.length hk2; rwa [List.length_map, List.length_map] at this
      have hks10 : ks.length ≤ 10 := by
        unfold lk at hks
        obtain ⟨x, hx, rfl⟩ := Option.map_eq_some_iff.mp hks
        exact sm2 x (List.mem_of_find?_eq_some hx)
      have hm : updM μ p (.dcN hs (encF N l2)) p = some (.dcN hs (encF N l2)) := updM_same
      refine nput_last (a := p) (k := N.kk u) (d := kindsD (ks.filter fun one => decide (one = a.ask))) (kvs := encF N l2) ?_ (pe_var rfl) (pe_var rfl) hm rfl (N.okk _) (by unfold encF; rw [enc_len, hlen]; exact sl' (by have := fit.len; omega)) ?_
      · refine pe_b (pa_cons (x := .lst ((ks.filter fun one => decide (one = a.ask)).map fun k : Kd => DV.str k.s)) (pe_lc (fun k : Kd => DV.str k.s) ks (fun one => decide (one = a.ask)) (fun k : Kd => DV.str k.s)
          (fun k => [some (frD N fr), some (asD N as), some (.obj p), some (a.d N), some (.str a.ask.s), some (N.v u), some (.str k.s)]) (pi_tup (pe_nget (pe_var rfl) hm (pe_var rfl) rfl (N.okk _) hlk)) (sl (by omega)) (fun x _ P q => q) (fun x _ => ?_) fun x _ _ => pe_var rfl) pa_nil) fun P q => q
        refine pt_test (pe_str (pe_var rfl) (pe_var rfl) ?_)
        by_cases c : x = a.ask
        · rw [decide_eq_true c, decide_eq_true (congrArg Kd.s c)]
        · rw [decide_eq_false c, decide_eq_false fun z => c (Kd.s_inj z)]
      · refine hnx2 _ _ ⟨⟨_, _, rfl⟩, ?_, by rw [restrict_keys hu2]; exact hk2, restrict_small u sm2⟩
        rw [updM_upd]
        have e := pt_enc (f := N.kk) (g := kindsD) N.kk_inj u (ks.filter fun one => decide (one = a.ask)) l2
        unfold restrict
        rw [hks]
        exact congrArg (fun z => updM μ p (.dcN hs z)) e
    · obtain ⟨⟨x5, x6, rfl⟩, rfl, hk2, sm2⟩ := hR2
      exact hnx _ _ ⟨⟨_, _, _, _, rfl⟩, rfl, hk2, sm2⟩
  · obtain ⟨⟨x3, x4, x5, x6, rfl⟩, rfl, hk, _⟩ := hR
    dsimp only
    refine pe_frzn (p := p) (pe_var rfl) updM_same ?_
    rw [delM_upd hp]
    exact q
end Am

set_option Elab.async false
set_option linter.all false
set_option maxRecDepth 100000
set_option maxHeartbeats 1000000
/-! Am5: edges_of, numbers_solved. -/
namespace Am
open PySem L2 Dz

def edD (N : Names) (e : Edge) : DV := .tup [N.u e.1, N.u e.2.1, .int e.2.2]
section
variable {ρ : Rho} {μ : Mh} {x y z u : DV} {wa wb wc we : WE} {wr : WA} {t : WT} {b : Bool} {i : Nat} {E : DEnds} {rest : WS} {N : Names} {hs : NestedKey → Int} {p : Addr} {ds es xs : List DV} {P : DV → Mh → Prop}
theorem lcM_of {ws : WI} {g : WG} {t : WT} {e : WE} {vs : List Nat} (h : PEv (wLc ws g t e vs) ρ μ (.lst xs)) (k : ∀ p, μ p = none → P (.obj p) (updM μ p (.lst xs))) : wLcM ws g t e vs ρ μ P :=
  h (fun d μ2 => match d with | .lst acc => ∀ p, μ2 p = none → P (.obj p) (updM μ2 p (.lst acc)) | _ => False) k
theorem drop_ext (h1 : ρ[i]? = some (some (.obj p))) (h : μ p = some (.lst ds)) (hw : PEv we ρ μ (.lst es)) (l : ds.length + es.length ≤ sizeLine) (k : E.nx ρ (updM μ p (.lst (ds ++ es)))) : wDrop (wExt (wVar i) we) E ρ μ := by
  unfold wDrop wExt
  refine pe_var h1 _ ⟨?_, hw _ ?_⟩
  · unfold isLstM
    simp only [h]
  · show (match μ p with | some (.lst ds) => _ | _ => False)
    rw [h]
    exact ⟨l, k⟩
theorem pe_frz (h : PEv wa ρ μ (.obj p)) (hp : μ p = some (.lst ds)) (k : E.rt (.lst ds) (delM μ p)) : wRet (wFrz wa) E ρ μ := by
  refine h _ ?_
  show (match μ p with | some (.lst ds) => _ | some (.dct ds) => _ | _ => False)
  rw [hp]
  exact k
theorem edges_filter : ∀ as : List Atm, (as.filter fun a : Atm => decide (a.word0 = ("most" : Str))).map (fun a : Atm => match a with | .most x y n => edD N (x, y, n) | _ => .none) = (as.filterMap Atm.edge).map (edD N)
  | [] => rfl
  | a :: as => by
    have ih := edges_filter as
    cases a with
    | kind u k =>
      rw [List.filter_cons_of_neg (by rw [show (Atm.kind u k).word0 = "kind" from rfl, c_km]; exact Bool.false_ne_true)]
      exact ih
    | most x y n =>
      rw [List.filter_cons_of_pos (by rw [show (Atm.most x y n).word0 = "most" from rfl]; exact c_mm), List.map_cons, ih]
      rfl
    | pair s u v =>
      rw [List.filter_cons_of_neg (by rw [show (Atm.pair s u v).word0 = pairS s from rfl, c_pm]; exact Bool.false_ne_true)]
      exact ih
    | word s u w =>
      rw [List.filter_cons_of_neg (by rw [show (Atm.word s u w).word0 = wordS s from rfl, c_wm]; exact Bool.false_ne_true)]
      exact ih
end
def wfEdges : WF := fun ds μ Q => ∃ (N : Names) (nums : List Nat) (as : List Atm), ds = [.lst (nums.map N.v), asD N as] ∧ nums.length ≤ 1000 ∧ as.length ≤ 1000 ∧ Q (.lst ((edges nums as).map (edD N))) μ
theorem p_edges_of (ds : List DV) (μ : Mh) (Q : DV → Mh → Prop) (hl : ds.length = 2) (h : wfEdges ds μ Q) : w_edges_of { nx := fun _ μ' => Q .none μ', rt := Q } (ds.map some ++ List.replicate 3 none) μ := by
  obtain ⟨N, nums, as, rfl, h1, h2, q⟩ := h
  unfold w_edges_of
  refine seq_ (lcM_of (xs := (as.filterMap Atm.edge).map (edD N)) ?_ fun p hp => ?_)
  · have k := pe_lc (ρ := [some (.lst (nums.map N.v)), some (asD N as), none, none, none]) (μ := μ) (g := wgName 3) (ws := sTup (wVar 1)) (t := wTest (wBin wEqL (wBin wIx (wVar 3) (wC (.int 0))) (wC (.str "most"))))
      (e := wTup (wCons (wBin wIx (wVar 3) (wC (.int 1))) (wCons (wBin wIx (wVar 3) (wC (.int 2))) (wCons (wBin wIx (wVar 3) (wC (.int 3))) wNil)))) (vs := [3]) (Atm.d N) as (fun a : Atm => decide (a.word0 = ("most" : Str)))
      (fun a : Atm => match a with | .most x y n => edD N (x, y, n) | _ => .none) (fun a => [some (.lst (nums.map N.v)), some (asD N as), none, some (a.d N), none]) (pi_tup (pe_var rfl)) (sl (by omega)) (fun x _ P q => q)
      (fun x _ => pt_test (pe_str (pe_a0 (pe_var rfl)) pe_c rfl)) fun x _ hx => ?_
    · rw [edges_filter] at k
      exact k
    · cases x with
      | most x y n => exact pe_tup (pa_cons (pe_ixT (pe_var (y := Atm.d N (.most x y n)) rfl) pe_c rfl) (pa_cons (pe_ixT (pe_var (y := Atm.d N (.most x y n)) rfl) pe_c rfl) (pa_cons (pe_ixT (pe_var (y := Atm.d N (.most x y n)) rfl) pe_c rfl) pa_nil))) (sl (Nat.le_of_ble_eq_true rfl))
      | kind u k => rw [show (Atm.kind u k).word0 = "kind" from rfl, c_km] at hx; cases hx
      | pair s u v => rw [show (Atm.pair s u v).word0 = pairS s from rfl, c_pm] at hx; cases hx
      | word s u w => rw [show (Atm.word s u w).word0 = wordS s from rfl, c_wm] at hx; cases hx
  · have hm : ((as.filterMap Atm.edge).map (edD N)).length ≤ 1000 := by
      rw [List.length_map]
      exact Nat.le_trans (List.length_filterMap_le _ _) h2
    have go : ∀ (us : List Nat) (l : List DV) (x3 x4 : Option DV), l.length + 2 * us.length ≤ 3000 → (Q (.lst (l ++ (us.flatMap fun u => [(some u, none, RANGE), (none, some u, RANGE)]).map (edD N))) μ) →
        forW (wgName 4) (wDrop (wExt (wVar 2) (wLst (wCons (wTup (wCons (wVar 4) (wCons (wC (.tup [])) (wCons (wC (.int 1000000000000)) wNil)))) (wCons (wTup (wCons (wC (.tup [])) (wCons (wVar 4) (wCons (wC (.int 1000000000000)) wNil)))) wNil)))))
          { nx := wRet (wFrz (wVar 2)) { nx := fun _ μ' => Q .none μ', rt := Q }, rt := Q } (us.map N.v) [some (.lst (nums.map N.v)), some (asD N as), some (.obj p), x3, x4] (updM μ p (.lst l)) := by
      intro us
      induction us with
      | nil =>
        intro l x3 x4 hl k
        rw [List.flatMap_nil, List.map_nil, List.append_nil] at k
        rw [List.map_nil, forW]
        dsimp only
        refine pe_frz (p := p) (pe_var rfl) updM_same ?_
        rw [delM_upd hp]
        exact k
      | cons u us ih =>
        intro l x3 x4 hl k
        rw [List.length_cons] at hl
        show wDrop (wExt (wVar 2) _) _ [some (.lst (nums.map N.v)), some (asD N as), some (.obj p), x3, some (N.v u)] _
        refine drop_ext (p := p) (ds := l) (es := [edD N (some u, none, RANGE), edD N (none, some u, RANGE)]) rfl updM_same (pe_lst (pa_cons (pe_tup (pa_cons (pe_var rfl) (pa_cons pe_c (pa_cons pe_c pa_nil))) (sl (Nat.le_of_ble_eq_true rfl))) (pa_cons (pe_tup (pa_cons pe_c (pa_cons (pe_var rfl) (pa_cons pe_c pa_nil))) (sl (Nat.le_of_ble_eq_true rfl))) pa_nil)) (sl (Nat.le_of_ble_eq_true rfl))) (sl (by show l.length + 2 ≤ _; omega)) ?_
        rw [updM_upd]
        refine ih (l ++ [edD N (some u, none, RANGE), edD N (none, some u, RANGE)]) x3 (some (N.v u)) (by rw [List.length_append]; show l.length + 2 + _ ≤ _; omega) ?_
        rw [List.append_assoc]
        exact k
    refine seq_for (xs := nums.map N.v) (pi_lst (pe_var rfl)) (go nums _ _ _ (by omega) ?_)
    rw [← List.map_append]
    exact q

/-! ### numbers_solved -/
def fdE (N : Names) (f : Fd) : List (NestedKey × DV) := enc N.k DV.int f
theorem lk_fdE {N : Names} (f : Fd) (o : Option Nat) : lkN (fdE N f) (N.k o) = (lk f o).map DV.int := lk_enc (fun a b h => N.k_inj h) o f
theorem pt_fdE {N : Names} (f : Fd) (o : Option Nat) (n : Int) : putN (fdE N f) (N.k o) (.int n) = fdE N (pt f o n) := pt_enc (fun a b h => N.k_inj h) o n f
theorem has_fold {K A B : Type} [DecidableEq K] (kf : B → K) (vf : B → A) (k : K) : ∀ (l : List B) (acc : List (K × A)), (lk (l.foldl (fun acc u => pt acc (kf u) (vf u)) acc) k).isSome = true ↔ (lk acc k).isSome = true ∨ k ∈ l.map kf
  | [], acc => by simp
  | u :: l, acc => by
    rw [List.foldl_cons, has_fold kf vf k l, lk_pt, List.map_cons, List.mem_cons]
    by_cases h : kf u = k
    · rw [if_pos h]
      simp [h]
    · rw [if_neg h]
      simp [Ne.symm h]
theorem len_fold {K A B : Type} [DecidableEq K] (kf : B → K) (vf : B → A) : ∀ (l : List B) (acc : List (K × A)), (l.foldl (fun acc u => pt acc (kf u) (vf u)) acc).length ≤ acc.length + l.length
  | [], acc => Nat.le_refl _
  | u :: l, acc => by
    have h1 := len_fold kf vf l (pt acc (kf u) (vf u))
    have h2 := pt_len acc (kf u) (vf u)
    rw [List.foldl_cons, List.length_cons]
    omega
theorem has_found0 {nums : List Nat} {o : Option Nat} (h : o = none ∨ ∃ u ∈ nums, o = some u) : o ∈ (found0 nums).map (·.1) := by
  refine lk_isSome.mp ?_
  unfold found0
  rw [lk_pt]
  by_cases c : none = o
  · rw [if_pos c]; rfl
  · rw [if_neg c]
    refine (has_fold some (fun _ => RANGE) o nums []).mpr (.inr ?_)
    rcases h with h | ⟨u, hu, h⟩
    · exact absurd h.symm c
    · rw [h]; exact List.mem_map_of_mem hu
/-- the ends of all edges are asked for -/
def EndsIn (nums : List Nat) (as : List Atm) : Prop := ∀ x y n, Atm.most x y n ∈ as → (x = none ∨ ∃ u ∈ nums, x = some u) ∧ (y = none ∨ ∃ u ∈ nums, y = some u)
theorem ends_in {nums : List Nat} {as : List Atm} (h : EndsIn nums as) : ∀ e ∈ edges nums as, e.1 ∈ (found0 nums).map (·.1) ∧ e.2.1 ∈ (found0 nums).map (·.1) := by
  intro e he
  unfold edges at he
  rcases List.mem_append.mp he with he | he
  · obtain ⟨a, ha, h2⟩ := List.mem_filterMap.mp he
    cases a with
    | most x y n =>
      cases h2
      obtain ⟨h3, h4⟩ := h x y n ha
      exact ⟨has_found0 h3, has_found0 h4⟩
    | _ => cases h2
  · obtain ⟨u, hu, h2⟩ := List.mem_flatMap.mp he
    rcases List.mem_cons.mp h2 with h2 | h2
    · rw [h2]; exact ⟨has_found0 (.inr ⟨u, hu, rfl⟩), has_found0 (.inl rfl)⟩
    · rw [List.mem_singleton] at h2
      rw [h2]; exact ⟨has_found0 (.inl rfl), has_found0 (.inr ⟨u, hu, rfl⟩)⟩
def numsD (hs : NestedKey → Int) (N : Names) : Option Fd → DV
  | some f => dnD hs (fdE N f)
  | none => .none
def wfNums (hs : NestedKey → Int) : WF := fun ds μ Q => ∃ (N : Names) (nums : List Nat) (as : List Atm), ds = [.lst (nums.map N.v), asD N as] ∧ nums.length ≤ 1000 ∧ as.length ≤ 1000 ∧ EndsIn nums as ∧ Q (numsD hs N (numbersSolved nums as)) μ
theorem p_numbers_solved {hs : NestedKey → Int} (ds : List DV) (μ : Mh) (Q : DV → Mh → Prop) (hl : ds.length = 2) (h : wfNums hs ds μ Q) : w_numbers_solved hs wfEdges { nx := fun _ μ' => Q .none μ', rt := Q } (ds.map some ++ List.replicate 8 none) μ := by
  obtain ⟨N, nums, as, rfl, h1, h2, hends, q⟩ := h
  unfold w_numbers_solved
  show wSeq _ _ _ _ _
  refine seq_asg (y := .lst ((edges nums as).map (edD N))) (pe_call (pa_cons (pe_var rfl) (pa_cons (pe_var rfl) pa_nil)) rfl fun P q => ⟨N, nums, as, rfl, h1, h2, q⟩) ?_
  refine seq_ (pi_lst (ds := nums.map N.v) (pe_var rfl) _ (comp_dcN N.v N.kk (fun _ => .int RANGE) (fun u => [some (.lst (nums.map N.v)), some (asD N as), some (.lst ((edges nums as).map (edD N))), none, some (N.v u), none, none, none, none, none]) nums [] _
    (fun x _ P q => q) (fun x _ => pe_var rfl) (fun x _ => ⟨_, rfl⟩) (fun x _ => N.okk _) (fun x _ => pe_c) (sl' (by show 0 + nums.length < _; omega)) fun p hp => ?_))
  have e0 : nums.foldl (fun acc x => putN acc (N.kk x) (.int RANGE)) [] = fdE N (nums.foldl (fun acc u => pt acc (some u) RANGE) []) := fold_enc (f := N.k) (g := DV.int) (fun a b h => N.k_inj h) some (fun _ => RANGE) nums []
  rw [e0]
  have l0 := len_fold (A := Int) some (fun _ : Nat => RANGE) nums []
  have l1 : (nums.foldl (fun acc u => pt acc (some u) RANGE) ([] : Fd)).length ≤ 1000 := Nat.le_trans l0 (by show 0 + nums.length ≤ 1000; omega)
  have hl0 : (found0 nums).length ≤ 1001 := by
    have := pt_len (nums.foldl (fun acc u => pt acc (some u) RANGE) []) none (0 : Int)
    exact Nat.le_trans this (Nat.succ_le_succ l1)
  refine seq_nput (a := p) (k := N.k none) (d := .int 0) pe_c (pe_var rfl) pe_c updM_same rfl (N.okk none) (by unfold fdE; rw [enc_len]; exact sl' (Nat.lt_of_le_of_lt l1 (by decide))) ?_
  rw [updM_upd, pt_fdE]
  show wSeq _ _ _ _ (updM μ p (.dcN hs (fdE N (found0 nums))))
  have hends' := ends_in hends
  refine seq_for (xs := rngD 0 ((found0 nums).length + 1)) (fun P hP => ?_) ?_
  · refine pe_bin (x := .int ((found0 nums).length : Nat)) (y := .int 1) (z := .int ((found0 nums).length + 1 : Nat)) (pe_b (pa_cons (pe_var rfl) pa_nil) fun P q => ?_) pe_c (fun P q => q) _ ⟨by omega, by omega, hP⟩
    refine nDct_in (isD.obj updM_same) ?_
    unfold fdE
    rw [enc_len]
    exact q
  · have go : ∀ (xs : List DV) (f : Fd) (x4 x5 x6 x7 x8 x9 : Option DV), f.map (·.1) = (found0 nums).map (·.1) → Q (numsD hs N (turns (edges nums as) xs.length f)) μ →
        forW (wgName 5) (wSeq (wAsg (wC (.bool false)) (wgName 6))
          (wSeq (wFor (sLst (wVar 2)) (wgTup 3 (wgCons (wgName 7) (wgCons (wgName 8) (wgCons (wgName 9) wgNil)))) (wIfS (wTest (wBin wLtA (wBin wAdd (wBin (wNGet hs) (wVar 3) (wVar 8)) (wVar 9)) (wBin (wNGet hs) (wVar 3) (wVar 7)))) (wSeq (wNPut hs (wVar 3) (wVar 7) (wBin wAdd (wBin (wNGet hs) (wVar 3) (wVar 8)) (wVar 9)))
          (wAsg (wC (.bool true)) (wgName 6))) wNext)) (wIfS (wNotT (wTest (wVar 6))) (wRet (wFrzN (wVar 3))) wNext)))
          { nx := wRet (wC .none) { nx := fun ρ' μ' => NewN μ μ' ∧ Q .none μ, rt := fun d μ' => NewN μ μ' ∧ Q d μ }, rt := fun d μ' => NewN μ μ' ∧ Q d μ } xs
          [some (.lst (nums.map N.v)), some (asD N as), some (.lst ((edges nums as).map (edD N))), some (.obj p), x4, x5, x6, x7, x8, x9] (updM μ p (.dcN hs (fdE N f))) := by
      intro xs
      induction xs with
      | nil =>
        intro f x4 x5 x6 x7 x8 x9 hk hq
        exact ⟨NewN.refl.upd hp (by intro z; cases z), hq⟩
      | cons x xs ih =>
        intro f x4 x5 x6 x7 x8 x9 hk hq
        refine seq_asg pe_c ?_
        let R : Fd × Bool → Rho → Mh → Prop := fun st ρ μ' => (∃ x7 x8 x9, ρ = [some (.lst (nums.map N.v)), some (asD N as), some (.lst ((edges nums as).map (edD N))), some (.obj p), x4, some x, some (.bool st.2), x7, x8, x9]) ∧ μ' = updM μ p (.dcN hs (fdE N st.1)) ∧ st.1.map (·.1) = (found0 nums).map (·.1)
        refine seq_for (xs := (edges nums as).map (edD N)) (pi_lst (pe_var rfl)) (for_fold (edD N) relax R (edges nums as) (f, false) _ _ (fun e he st ρ μ' F hR _ _ hnx _ => ?_) ⟨⟨x7, x8, x9, rfl⟩, rfl, hk⟩ fun ρ' μ' hR => ?_)
        · obtain ⟨⟨x7, x8, x9, rfl⟩, rfl, hk2⟩ := hR
          obtain ⟨g, b⟩ := st
          obtain ⟨a1, a2, n⟩ := e
          obtain ⟨i1, i2⟩ := hends' _ he
          have hk2 : g.map (·.1) = (found0 nums).map (·.1) := hk2
          have i1 : a1 ∈ (found0 nums).map (·.1) := i1
          have i2 : a2 ∈ (found0 nums).map (·.1) := i2
          rw [← hk2] at i1 i2
          obtain ⟨v1, hv1⟩ := Option.isSome_iff_exists.mp (lk_isSome.mpr i1)
          obtain ⟨v2, hv2⟩ := Option.isSome_iff_exists.mp (lk_isSome.mpr i2)
          have g1 : gt g a1 = v1 := by unfold gt; rw [hv1]; rfl
          have g2 : gt g a2 = v2 := by unfold gt; rw [hv2]; rfl
          have w1 : lkN (fdE N g) (N.k a1) = some (.int v1) := by rw [lk_fdE, hv1]; rfl
          have w2 : lkN (fdE N g) (N.k a2) = some (.int v2) := by rw [lk_fdE, hv2]; rfl
          have hm : updM μ p (.dcN hs (fdE N g)) p = some (.dcN hs (fdE N g)) := updM_same
          have hlen : g.length ≤ 1001 := by
            have := congrArg List.length hk2
            rw [List.length_map, List.length_map] at this
            omega
          refine ⟨rfl, rfl, ?_⟩
          have key : ∀ ρ : Rho, ρ[3]? = some (some (.obj p)) → ρ[8]? = some (some (N.u a2)) → ρ[9]? = some (some (.int n)) → PEv (wBin wAdd (wBin (wNGet hs) (wVar 3) (wVar 8)) (wVar 9)) ρ (updM μ p (.dcN hs (fdE N g))) (.int (v2 + n)) := fun ρ r3 r8 r9 =>
            pe_bin (pe_nget (pe_var r3) hm (pe_var r8) rfl (N.okk a2) w2) (pe_var r9) fun P q => q
          refine ifs_v (b := decide (v2 + n < v1)) (pt_test (pe_bin (key _ rfl rfl rfl) (pe_nget (pe_var rfl) hm (pe_var rfl) rfl (N.okk a1) w1) fun P q => q)) (fun c => ?_) fun c => ?_
          · refine seq_nput (a := p) (k := N.k a1) (d := .int (v2 + n)) (key _ rfl rfl rfl) (pe_var rfl) (pe_var rfl) hm rfl (N.okk a1) (by unfold fdE; rw [enc_len]; exact sl' (by omega)) ?_
            refine asg_last pe_c (hnx _ _ ?_)
            have er : relax (g, b) (a1, a2, n) = (pt g a1 (v2 + n), true) := by
              unfold relax
              rw [if_pos (by rw [g1, g2]; exact of_decide_eq_true c), g2]
            rw [er, updM_upd, pt_fdE]
            exact ⟨⟨_, _, _, rfl⟩, rfl, by rw [pt_keys _ (lk_isSome.mpr i1)]; exact hk2⟩
          · have er : relax (g, b) (a1, a2, n) = (g, b) := by
              unfold relax
              rw [if_neg (by rw [g1, g2]; exact of_decide_eq_false c)]
            refine hnx _ _ ?_
            rw [er]
            exact ⟨⟨_, _, _, rfl⟩, rfl, hk2⟩
        · obtain ⟨⟨x7, x8, x9, rfl⟩, rfl, hk2⟩ := hR
          dsimp only
          rw [List.length_cons] at hq
          unfold turns at hq
          generalize List.foldl relax (f, false) (edges nums as) = st at hq hk2 ⊢
          obtain ⟨g, b⟩ := st
          refine ifs_v (pt_not (pt_test (pe_var (y := .bool b) rfl))) (fun c => ?_) fun c => ?_
          · cases b with
            | true => cases c
            | false =>
              refine pe_frzn (p := p) (pe_var rfl) updM_same ?_
              rw [delM_upd hp]
              exact ⟨NewN.refl, hq⟩
          · cases b with
            | false => cases c
            | true => exact ih g _ _ _ _ _ _ hk2 hq
    have hr : (rngD 0 ((found0 nums).length + 1)).length = (found0 nums).length + 1 := rngD_len
    have hq : Q (numsD hs N (turns (edges nums as) (rngD 0 ((found0 nums).length + 1)).length (found0 nums))) μ := by
      rw [hr]
      exact q
    exact go _ _ _ _ _ _ _ _ rfl hq
end Am

set_option Elab.async false
set_option linter.all false
set_option maxRecDepth 100000
set_option maxHeartbeats 1000000
/-! Am6: classes_of, words_told, are_unlike. -/
namespace Am
open PySem L2 Dz

def hdE (N : Names) (h : Hd) : List (NestedKey × DV) := enc N.kk N.v h
def tdE (N : Names) (t : Td) : List (NestedKey × DV) := enc N.kk DV.str t
theorem lk_hdE {N : Names} (h : Hd) (u : Nat) : lkN (hdE N h) (N.kk u) = (lk h u).map N.v := lk_enc N.kk_inj u h
theorem lk_tdE {N : Names} (t : Td) (u : Nat) : lkN (tdE N t) (N.kk u) = (lk t u).map DV.str := lk_enc N.kk_inj u t
theorem lk_hd {N : Names} {h : Hd} {u : Nat} (hu : u ∈ h.map (·.1)) : lkN (hdE N h) (N.kk u) = some (N.v (gn h u)) := by
  rw [lk_hdE]
  obtain ⟨z, hz⟩ := Option.isSome_iff_exists.mp (lk_isSome.mpr hu)
  unfold gn
  rw [hz]
  rfl
theorem c_ps : decide (pairS false = "same") = true := by decide +kernel
theorem c_us : decide (pairS true = "same") = false := by decide +kernel
theorem c_pu : decide (pairS true = "unlike") = true := by decide +kernel
theorem c_su : decide (pairS false = "unlike") = false := by decide +kernel
theorem c_ww : decide (wordS false = "word") = true := by decide +kernel
theorem c_ow : decide (wordS true = "word") = false := by decide +kernel
theorem c_oo : decide (wordS true = "other") = true := by decide +kernel
theorem c_wo : decide (wordS false = "other") = false := by decide +kernel
theorem c_ks : decide (("kind" : Str) = "same") = false := by decide +kernel
theorem c_ms : decide (("most" : Str) = "same") = false := by decide +kernel
theorem c_ku : decide (("kind" : Str) = "unlike") = false := by decide +kernel
theorem c_mu : decide (("most" : Str) = "unlike") = false := by decide +kernel
theorem c_kw : decide (("kind" : Str) = "word") = false := by decide +kernel
theorem c_mw : decide (("most" : Str) = "word") = false := by decide +kernel
theorem c_ko : decide (("kind" : Str) = "other") = false := by decide +kernel
theorem c_mo : decide (("most" : Str) = "other") = false := by decide +kernel
theorem c_wsame (s : Bool) : decide (wordS s = "same") = false := by cases s <;> decide +kernel
theorem c_wunl (s : Bool) : decide (wordS s = "unlike") = false := by cases s <;> decide +kernel
theorem c_pword (s : Bool) : decide (pairS s = "word") = false := by cases s <;> decide +kernel
theorem c_poth (s : Bool) : decide (pairS s = "other") = false := by cases s <;> decide +kernel
theorem iffF {p : Prop} (h : ¬p) : (false = true) ↔ p := ⟨fun z => absurd z Bool.false_ne_true, fun z => absurd z h⟩
/-- the word that decides the sort of an atom -/
def Atm.is (a : Atm) (s : Str) : Bool := decide (a.word0 = s)
section
variable {ρ : Rho} {μ : Mh} {wa : WE} {N : Names} {a : Atm}
theorem pt_is {s : Str} (h : PEv wa ρ μ (a.d N)) : PTv (wTest (wBin wEqL (wBin wIx wa (wC (.int 0))) (wC (.str s)))) ρ μ (a.is s) := pt_test (pe_str (pe_a0 h) pe_c rfl)
theorem is_same : a.is "same" = true ↔ ∃ u v, a = .pair false u v := by
  unfold Atm.is
  cases a with
  | kind u k => rw [show (Atm.kind u k).word0 = "kind" from rfl, c_ks]; exact iffF fun ⟨_, _, h⟩ => by cases h
  | most x y n => rw [show (Atm.most x y n).word0 = "most" from rfl, c_ms]; exact iffF fun ⟨_, _, h⟩ => by cases h
  | pair s u v =>
    rw [show (Atm.pair s u v).word0 = pairS s from rfl]
    cases s with
    | false => rw [c_ps]; exact ⟨fun _ => ⟨u, v, rfl⟩, fun _ => rfl⟩
    | true => rw [c_us]; exact iffF fun ⟨_, _, h⟩ => by cases h
  | word s u w => rw [show (Atm.word s u w).word0 = wordS s from rfl, c_wsame]; exact iffF fun ⟨_, _, h⟩ => by cases h
theorem is_unlike : a.is "unlike" = true ↔ ∃ u v, a = .pair true u v := by
  unfold Atm.is
  cases a with
  | kind u k => rw [show (Atm.kind u k).word0 = "kind" from rfl, c_ku]; exact iffF fun ⟨_, _, h⟩ => by cases h
  | most x y n => rw [show (Atm.most x y n).word0 = "most" from rfl, c_mu]; exact iffF fun ⟨_, _, h⟩ => by cases h
  | pair s u v =>
    rw [show (Atm.pair s u v).word0 = pairS s from rfl]
    cases s with
    | true => rw [c_pu]; exact ⟨fun _ => ⟨u, v, rfl⟩, fun _ => rfl⟩
    | false => rw [c_su]; exact iffF fun ⟨_, _, h⟩ => by cases h
  | word s u w => rw [show (Atm.word s u w).word0 = wordS s from rfl, c_wunl]; exact iffF fun ⟨_, _, h⟩ => by cases h
theorem is_word : a.is "word" = true ↔ ∃ u w, a = .word false u w := by
  unfold Atm.is
  cases a with
  | kind u k => rw [show (Atm.kind u k).word0 = "kind" from rfl, c_kw]; exact iffF fun ⟨_, _, h⟩ => by cases h
  | most x y n => rw [show (Atm.most x y n).word0 = "most" from rfl, c_mw]; exact iffF fun ⟨_, _, h⟩ => by cases h
  | word s u v =>
    rw [show (Atm.word s u v).word0 = wordS s from rfl]
    cases s with
    | false => rw [c_ww]; exact ⟨fun _ => ⟨u, v, rfl⟩, fun _ => rfl⟩
    | true => rw [c_ow]; exact iffF fun ⟨_, _, h⟩ => by cases h
  | pair s u w => rw [show (Atm.pair s u w).word0 = pairS s from rfl, c_pword]; exact iffF fun ⟨_, _, h⟩ => by cases h
theorem is_other : a.is "other" = true ↔ ∃ u w, a = .word true u w := by
  unfold Atm.is
  cases a with
  | kind u k => rw [show (Atm.kind u k).word0 = "kind" from rfl, c_ko]; exact iffF fun ⟨_, _, h⟩ => by cases h
  | most x y n => rw [show (Atm.most x y n).word0 = "most" from rfl, c_mo]; exact iffF fun ⟨_, _, h⟩ => by cases h
  | word s u v =>
    rw [show (Atm.word s u v).word0 = wordS s from rfl]
    cases s with
    | true => rw [c_oo]; exact ⟨fun _ => ⟨u, v, rfl⟩, fun _ => rfl⟩
    | false => rw [c_wo]; exact iffF fun ⟨_, _, h⟩ => by cases h
  | pair s u w => rw [show (Atm.pair s u w).word0 = pairS s from rfl, c_poth]; exact iffF fun ⟨_, _, h⟩ => by cases h
end
theorem not_is {a : Atm} {s : Str} {p : Prop} (h : a.is s = true ↔ p) (c : a.is s = false) : ¬ p := fun z => by rw [h.mpr z] at c; cases c

/-! ### classes_of -/
def head0 (words : List Nat) : Hd := words.foldl (fun acc u => pt acc u u) []
theorem head0_has {words : List Nat} {u : Nat} (h : u ∈ words) : u ∈ (head0 words).map (·.1) := lk_isSome.mp ((has_fold (fun u => u) (fun u => u) u words []).mpr (.inr (by rw [List.map_id']; exact h)))
theorem one_keys {h g : Hd} {words : List Nat} {z y : Nat} (hk : ∀ w ∈ words, w ∈ g.map (·.1)) : (words.foldl (fun g w => if gn g w = z then pt g w y else g) g).map (·.1) = g.map (·.1) := by
  induction words generalizing g with
  | nil => rfl
  | cons w words ih =>
    rw [List.foldl_cons]
    have hw := hk w List.mem_cons_self
    have e : (if gn g w = z then pt g w y else g).map (·.1) = g.map (·.1) := by
      split
      · exact pt_keys _ (lk_isSome.mpr hw)
      · rfl
    rw [ih (by rw [e]; exact fun v hv => hk v (List.mem_cons_of_mem _ hv)), e]
theorem same1_keys {words : List Nat} {h : Hd} {a : Atm} (hk : ∀ w ∈ words, w ∈ h.map (·.1)) : (same1 words h a).map (·.1) = h.map (·.1) := by
  unfold same1
  split
  · exact one_keys (h := h) hk
  · rfl
theorem classes_keys {words : List Nat} : ∀ {as : List Atm} {h : Hd}, (∀ w ∈ words, w ∈ h.map (·.1)) → (as.foldl (same1 words) h).map (·.1) = h.map (·.1)
  | [], _, _ => rfl
  | a :: as, h, hk => by
    have e := same1_keys (a := a) hk
    rw [List.foldl_cons, classes_keys (by rw [e]; exact hk), e]
def wfClasses (hs : NestedKey → Int) : WF := fun ds μ Q => ∃ (N : Names) (words : List Nat) (as : List Atm), ds = [.lst (words.map N.v), asD N as] ∧ words.length ≤ 1000 ∧ as.length ≤ 1000 ∧ (∀ u v, Atm.pair false u v ∈ as → u ∈ words ∧ v ∈ words) ∧ Q (dnD hs (hdE N (classesOf words as))) μ
theorem p_classes_of {hs : NestedKey → Int} (ds : List DV) (μ : Mh) (Q : DV → Mh → Prop) (hl : ds.length = 2) (h : wfClasses hs ds μ Q) : w_classes_of hs { nx := fun _ μ' => Q .none μ', rt := Q } (ds.map some ++ List.replicate 5 none) μ := by
  obtain ⟨N, words, as, rfl, h1, h2, hin, q⟩ := h
  unfold w_classes_of
  refine seq_ (pi_lst (ds := words.map N.v) (pe_var rfl) _ (comp_dcN N.v N.kk N.v (fun u => [some (.lst (words.map N.v)), some (asD N as), none, some (N.v u), none, none, none]) words [] _
    (fun x _ P q => q) (fun x _ => pe_var rfl) (fun x _ => ⟨_, rfl⟩) (fun x _ => N.okk _) (fun x _ => pe_var rfl) (sl' (by show 0 + words.length < _; omega)) fun p hp => ?_))
  have e0 : words.foldl (fun acc x => putN acc (N.kk x) (N.v x)) [] = hdE N (head0 words) := fold_enc (f := N.kk) (g := N.v) N.kk_inj (fun u => u) (fun u => u) words []
  rw [e0]
  have l0 : (head0 words).length ≤ 1000 := Nat.le_trans (len_fold (fun u : Nat => u) (fun u : Nat => u) words []) (by show 0 + words.length ≤ 1000; omega)
  let R : Hd → Rho → Mh → Prop := fun h ρ μ' => (∃ x3 x4 x5 x6, ρ = [some (.lst (words.map N.v)), some (asD N as), some (.obj p), x3, x4, x5, x6]) ∧ μ' = updM μ p (.dcN hs (hdE N h)) ∧ h.map (·.1) = (head0 words).map (·.1)
  refine seq_for (xs := as.map (Atm.d N)) (pi_tup (pe_var rfl)) (for_fold (Atm.d N) (same1 words) R as (head0 words) _ _ (fun a ha h ρ μ' F hR hrt _ hnx _ => ?_) ⟨⟨none, none, none, none, rfl⟩, rfl, rfl⟩ fun ρ' μ' hR => ?_)
  · obtain ⟨⟨x3, x4, x5, x6, rfl⟩, rfl, hk⟩ := hR
    refine ifs_v (pt_is (a := a) (pe_var rfl)) (fun c => ?_) fun c => ?_
    · obtain ⟨u, v, rfl⟩ := is_same.mp c
      obtain ⟨hu, hv⟩ := hin u v ha
      have hm : updM μ p (.dcN hs (hdE N h)) p = some (.dcN hs (hdE N h)) := updM_same
      have ku : u ∈ h.map (·.1) := by rw [hk]; exact head0_has hu
      have kv : v ∈ h.map (·.1) := by rw [hk]; exact head0_has hv
      refine seq_par (x := N.v (gn h u)) (y := N.v (gn h v)) (pa_cons (pe_nget (pe_var rfl) hm (pe_ixT (y := kd (N.kk u)) (pe_var rfl) pe_c rfl) rfl (N.okk _) (lk_hd ku)) (pa_cons (pe_nget (pe_var rfl) hm (pe_ixT (y := kd (N.kk v)) (pe_var rfl) pe_c rfl) rfl (N.okk _) (lk_hd kv)) pa_nil)) ?_
      let R2 : Hd → Rho → Mh → Prop := fun g ρ μ' => (∃ x3, ρ = [some (.lst (words.map N.v)), some (asD N as), some (.obj p), x3, some (Atm.d N (.pair false u v)), some (N.v (gn h u)), some (N.v (gn h v))]) ∧ μ' = updM μ p (.dcN hs (hdE N g)) ∧ g.map (·.1) = (head0 words).map (·.1)
      refine for_last (xs := words.map N.v) (pi_lst (pe_var rfl)) (for_fold N.v (fun g w => if gn g w = gn h v then pt g w (gn h u) else g) R2 words h _ _ (fun w hw g ρ2 μ2 F2 hR2 _ _ hnx2 _ => ?_) ⟨⟨x3, rfl⟩, rfl, hk⟩ fun ρ' μ' hR2 => ?_)
      · obtain ⟨⟨x3, rfl⟩, rfl, hk2⟩ := hR2
        have kw : w ∈ g.map (·.1) := by rw [hk2]; exact head0_has hw
        have hm2 : updM μ p (.dcN hs (hdE N g)) p = some (.dcN hs (hdE N g)) := updM_same
        have hlen : g.length ≤ 1000 := by
          have := congrArg List.length hk2
          rw [List.length_map, List.length_map] at this
          omega
        refine ifs_v (pt_test (pe_eqU (a := some (gn g w)) (b := some (gn h v)) (pe_nget (pe_var rfl) hm2 (pe_var (y := kd (N.kk w)) rfl) rfl (N.okk _) (lk_hd kw)) (pe_var rfl))) (fun c => ?_) fun c => ?_
        · have c : gn g w = gn h v := Option.some.inj (of_decide_eq_true c)
          refine nput_last (a := p) (k := N.kk w) (d := N.v (gn h u)) (pe_var rfl) (pe_var rfl) (pe_var rfl) hm2 rfl (N.okk _) (by unfold hdE; rw [enc_len]; exact sl' (by omega)) (hnx2 _ _ ?_)
          rw [updM_upd, if_pos c]
          exact ⟨⟨_, rfl⟩, congrArg (fun z => updM μ p (.dcN hs z)) (pt_enc (f := N.kk) (g := N.v) N.kk_inj w (gn h u) g), by rw [pt_keys _ (lk_isSome.mpr kw)]; exact hk2⟩
        · have c : ¬ gn g w = gn h v := fun z => of_decide_eq_false c (congrArg some z)
          refine hnx2 _ _ ?_
          rw [if_neg c]
          exact ⟨⟨_, rfl⟩, rfl, hk2⟩
      · obtain ⟨⟨x3, rfl⟩, rfl, hk2⟩ := hR2
        exact hnx _ _ ⟨⟨_, _, _, _, rfl⟩, rfl, hk2⟩
    · have e : same1 words h a = h := by
        unfold same1
        split
        · exact absurd ⟨_, _, rfl⟩ (not_is is_same c)
        · rfl
      refine hnx _ _ ?_
      rw [e]
      exact ⟨⟨_, _, _, _, rfl⟩, rfl, hk⟩
  · obtain ⟨⟨x3, x4, x5, x6, rfl⟩, rfl, hk⟩ := hR
    dsimp only
    refine pe_frzn (p := p) (pe_var rfl) updM_same ?_
    rw [delM_upd hp]
    exact q

/-! ### words_told -/
def wfTold (hs : NestedKey → Int) : WF := fun ds μ Q => ∃ (N : Names) (h : Hd) (as : List Atm), ds = [dnD hs (hdE N h), asD N as] ∧ as.length ≤ 1000 ∧ (∀ u w, Atm.word false u w ∈ as → u ∈ h.map (·.1)) ∧
  (match wordsTold h as [] with
    | some t => ∀ p, μ p = none → Q (.obj p) (updM μ p (.dcN hs (tdE N t)))
    | none => ∀ p o, μ p = none → o ≠ .inner → Q .none (updM μ p o))
theorem p_words_told {hs : NestedKey → Int} (ds : List DV) (μ : Mh) (Q : DV → Mh → Prop) (hl : ds.length = 2) (h : wfTold hs ds μ Q) : w_words_told hs { nx := fun _ μ' => Q .none μ', rt := Q } (ds.map some ++ List.replicate 2 none) μ := by
  obtain ⟨N, h, as, rfl, hlen, hin, q⟩ := h
  unfold w_words_told
  refine seq_ (fun p hp => ?_)
  have go : ∀ {as0 : List Atm} (as : List Atm) (t : Td) (x3 : Option DV), t.length + as.length ≤ 1000 → (∀ u w, Atm.word false u w ∈ as → u ∈ h.map (·.1)) →
      (match wordsTold h as t with | some t => Q (.obj p) (updM μ p (.dcN hs (tdE N t))) | none => ∀ o, o ≠ .inner → Q .none (updM μ p o)) →
      forW (wgName 3) (wIfS (wAndT (wTest (wBin wEqL (wBin wIx (wVar 3) (wC (.int 0))) (wC (.str "word")))) (wTest (wBin wNeL (wNSetdef hs (wVar 2) (wBin (wNGetA hs) (wVar 0) (wBin wIx (wVar 3) (wC (.int 1)))) (wBin wIx (wVar 3) (wC (.int 2)))) (wBin wIx (wVar 3) (wC (.int 2)))))) (wRet (wC .none)) wNext)
        { nx := wRet (wVar 2) { nx := fun _ μ' => Q .none μ', rt := Q }, rt := Q } (as.map (Atm.d N)) [some (dnD hs (hdE N h)), some (asD N as0), some (.obj p), x3] (updM μ p (.dcN hs (tdE N t))) := by
    intro as0 as
    induction as with
    | nil =>
      intro t x3 _ _ hq
      rw [List.map_nil, forW]
      have hq : Q (.obj p) (updM μ p (.dcN hs (tdE N t))) := hq
      dsimp only
      exact ret_v (y := .obj p) (pe_var rfl) hq
    | cons a as ih =>
      intro t x3 hl hi hq
      rw [List.length_cons] at hl
      rw [List.map_cons, forW]
      have hi' := fun u w hm => hi u w (List.mem_cons_of_mem _ hm)
      show (wTest (wBin wEqL (wBin wIx (wVar 3) (wC (.int 0))) (wC (.str "word")))) [some (dnD hs (hdE N h)), some (asD N as0), some (.obj p), some (a.d N)] (updM μ p (.dcN hs (tdE N t))) _
      refine pt_is (a := a) (pe_var rfl) _ ?_
      cases c : a.is "word" with
      | false =>
        refine ih t _ (by omega) hi' ?_
        have e : wordsTold h (a :: as) t = wordsTold h as t := by
          have nw := not_is is_word c
          cases a with
          | word s u w => cases s with
            | false => exact absurd ⟨u, w, rfl⟩ nw
            | true => rfl
          | _ => rfl
        rw [e] at hq
        exact hq
      | true =>
        obtain ⟨u, w, rfl⟩ := is_word.mp c
        have hu := hi u w List.mem_cons_self
        have hm : updM μ p (.dcN hs (tdE N t)) p = some (.dcN hs (tdE N t)) := updM_same
        show wNSetdef hs _ _ _ _ _ _
        refine pe_var (y := .obj p) rfl _ ⟨nDct_in (isD.obj hm) trivial, ?_⟩
        refine pe_ngetA (hs := hs) (kvs := hdE N h) (k := N.kk u) (pe_var rfl) isD.data (pe_ixT (y := kd (N.kk u)) (pe_var (y := Atm.d N (.word false u w)) rfl) pe_c rfl) rfl (N.okk _) (lk_hd hu) _ ?_
        refine pe_ixT (y := .str w) (pe_var (y := Atm.d N (.word false u w)) rfl) pe_c rfl _ ?_
        refine nAt_in (k := N.kk (gn h u)) hm rfl (N.okk _) ⟨by unfold tdE; rw [enc_len]; exact sl' (by omega), ?_⟩
        rw [lk_tdE]
        cases e : lk t (gn h u) with
        | some w' =>
          show (wBin wIx (wVar 3) (wC (.int 2))) _ _ _
          refine pe_ixT (y := .str w) (pe_var (y := Atm.d N (.word false u w)) rfl) pe_c rfl _ ?_
          have e2 : wordsTold h (.word false u w :: as) t = if w' = w then wordsTold h as t else none := by
            show (match lk t (gn h u) with | some w' => if w' = w then wordsTold h as t else none | none => _) = _
            rw [e]
          rw [e2] at hq
          show (match (!decide (w' = w)) with | true => Q .none _ | false => forW _ _ _ _ _ _)
          by_cases z : w' = w
          · rw [if_pos z] at hq
            rw [decide_eq_true z]
            exact ih t _ (by omega) hi' hq
          · rw [if_neg z] at hq
            rw [decide_eq_false z]
            exact hq _ (by intro z; cases z)
        | none =>
          show (wBin wIx (wVar 3) (wC (.int 2))) _ _ _
          refine pe_ixT (y := .str w) (pe_var (y := Atm.d N (.word false u w)) rfl) pe_c rfl _ ?_
          have e2 : wordsTold h (.word false u w :: as) t = wordsTold h as (pt t (gn h u) w) := by
            show (match lk t (gn h u) with | some w' => _ | none => wordsTold h as (pt t (gn h u) w)) = _
            rw [e]
          rw [e2] at hq
          show (match (!decide (w = w)) with | true => Q .none _ | false => forW _ _ _ _ _ _)
          rw [decide_eq_true rfl, updM_upd]
          have e3 : putN (tdE N t) (N.kk (gn h u)) (.str w) = tdE N (pt t (gn h u) w) := pt_enc N.kk_inj _ w t
          rw [e3]
          have := pt_len t (gn h u) w
          exact ih _ _ (by omega) hi' hq
  refine seq_for (xs := as.map (Atm.d N)) (pi_tup (pe_var rfl)) (go (as0 := as) as [] none (by show 0 + as.length ≤ 1000; omega) hin ?_)
  cases e : wordsTold h as [] with
  | some t => rw [e] at q; exact q p hp
  | none => rw [e] at q; exact fun o ho => q p o hp ho
end Am

set_option Elab.async false
set_option linter.all false
set_option maxRecDepth 100000
set_option maxHeartbeats 1000000
/-! Am7: are_unlike, word_of. -/
namespace Am
open PySem L2 Dz

section
variable {ρ : Rho} {μ : Mh} {wa wb : WE}
def strO : Option Str → DV
  | some w => .str w
  | none => .none
theorem getD_strO (o : Option Str) : (o.map DV.str).getD .none = strO o := by cases o <;> rfl
theorem pe_eqO {o : Option Str} {w : Str} (ha : PEv wa ρ μ (strO o)) (hb : PEv wb ρ μ (.str w)) : PEv (wBin wEqL wa wb) ρ μ (.bool (decide (o = some w))) := pe_bin ha hb fun P q => by
  cases o with
  | none =>
    rw [decide_eq_false (by intro z; cases z)] at q
    exact q
  | some v =>
    have e : decide (some v = some w) = decide (v = w) := by
      by_cases c : v = w
      · rw [decide_eq_true c, decide_eq_true (congrArg some c)]
      · rw [decide_eq_false c, decide_eq_false fun z => c (Option.some.inj z)]
    rw [e] at q
    exact q
theorem pe_eqO' {o : Option Str} {w : Str} (ha : PEv wa ρ μ (.str w)) (hb : PEv wb ρ μ (strO o)) : PEv (wBin wEqL wa wb) ρ μ (.bool (decide (some w = o))) := pe_bin ha hb fun P q => by
  cases o with
  | none =>
    rw [decide_eq_false (by intro z; cases z)] at q
    exact q
  | some v =>
    have e : decide (some w = some v) = decide (w = v) := by
      by_cases c : w = v
      · rw [decide_eq_true c, decide_eq_true (congrArg some c)]
      · rw [decide_eq_false c, decide_eq_false fun z => c (Option.some.inj z)]
    rw [e] at q
    exact q
end
def wfUnl (hs : NestedKey → Int) : WF := fun ds μ Q => ∃ (N : Names) (h : Hd) (x : DV) (t : Td) (as : List Atm), ds = [dnD hs (hdE N h), x, asD N as] ∧ isD hs μ x (tdE N t) ∧ (∀ u w, Atm.word true u w ∈ as → u ∈ h.map (·.1)) ∧ (∀ u v, Atm.pair true u v ∈ as → u ∈ h.map (·.1) ∧ v ∈ h.map (·.1)) ∧
  Q (.bool (areUnlike h t as)) μ
theorem p_are_unlike {hs : NestedKey → Int} (ds : List DV) (μ : Mh) (Q : DV → Mh → Prop) (hl : ds.length = 3) (h : wfUnl hs ds μ Q) : w_are_unlike hs { nx := fun _ μ' => Q .none μ', rt := Q } (ds.map some ++ List.replicate 3 none) μ := by
  obtain ⟨N, h, x, t, as, rfl, hx, hi1, hi2, q⟩ := h
  unfold w_are_unlike
  have go : ∀ {as0 : List Atm} (as : List Atm) (x3 x4 x5 : Option DV), (∀ u w, Atm.word true u w ∈ as → u ∈ h.map (·.1)) → (∀ u v, Atm.pair true u v ∈ as → u ∈ h.map (·.1) ∧ v ∈ h.map (·.1)) → Q (.bool (areUnlike h t as)) μ →
      forW (wgName 3) (wSeq (wIfS (wAndT (wTest (wBin wEqL (wBin wIx (wVar 3) (wC (.int 0))) (wC (.str "other")))) (wTest (wBin wEqL (wNGet1 hs (wVar 1) (wBin (wNGetA hs) (wVar 0) (wBin wIx (wVar 3) (wC (.int 1))))) (wBin wIx (wVar 3) (wC (.int 2)))))) (wRet (wC (.bool false))) wNext)
    (wIfS (wTest (wBin wEqL (wBin wIx (wVar 3) (wC (.int 0))) (wC (.str "unlike")))) (wSeq (wPar 4 5 (wCons (wBin (wNGetA hs) (wVar 0) (wBin wIx (wVar 3) (wC (.int 1)))) (wCons (wBin (wNGetA hs) (wVar 0) (wBin wIx (wVar 3) (wC (.int 2)))) wNil)))
    (wIfS (wOrT (wTest (wBin wEqL (wVar 4) (wVar 5))) (wAndT (wTest (wBin (wInA hs) (wVar 4) (wVar 1))) (wTest (wBin wEqL (wBin (wNGetA hs) (wVar 1) (wVar 4)) (wNGet1 hs (wVar 1) (wVar 5)))))) (wRet (wC (.bool false))) wNext)) wNext))
        { nx := wRet (wC (.bool true)) { nx := fun _ μ' => Q .none μ', rt := Q }, rt := Q } (as.map (Atm.d N)) [some (dnD hs (hdE N h)), some x, some (asD N as0), x3, x4, x5] μ := by
    intro as0 as
    induction as with
    | nil =>
      intro x3 x4 x5 _ _ hq
      rw [List.map_nil, forW]
      exact hq
    | cons a as ih =>
      intro x3 x4 x5 j1 j2 hq
      rw [List.map_cons, forW]
      have j1' := fun u w hm => j1 u w (List.mem_cons_of_mem _ hm)
      have j2' := fun u w hm => j2 u w (List.mem_cons_of_mem _ hm)
      have e0 : areUnlike h t (a :: as) = (unlike1 h t a && areUnlike h t as) := rfl
      rw [e0] at hq
      show wSeq _ _ _ [some (dnD hs (hdE N h)), some x, some (asD N as0), some (a.d N), x4, x5] _
      have pa : ∀ x4 x5 : Option DV, PEv (wVar 3) [some (dnD hs (hdE N h)), some x, some (asD N as0), some (a.d N), x4, x5] μ (a.d N) := fun x4 x5 => pe_var rfl
      by_cases o : ∃ u w, a = .word true u w
      · obtain ⟨u, w, rfl⟩ := o
        have hu := j1 u w List.mem_cons_self
        have kk : PTv (wTest (wBin wEqL (wNGet1 hs (wVar 1) (wBin (wNGetA hs) (wVar 0) (wBin wIx (wVar 3) (wC (.int 1))))) (wBin wIx (wVar 3) (wC (.int 2))))) [some (dnD hs (hdE N h)), some x, some (asD N as0), some (Atm.d N (.word true u w)), x4, x5] μ (decide (lk t (gn h u) = some w)) := by
          refine pt_test (pe_eqO ?_ (pe_ixT (y := .str w) (pa x4 x5) pe_c rfl))
          rw [← getD_strO, ← lk_tdE]
          exact pe_nget1 (pe_var rfl) hx (pe_ngetA (hs := hs) (kvs := hdE N h) (k := N.kk u) (pe_var rfl) isD.data (pe_ixT (y := kd (N.kk u)) (pa x4 x5) pe_c rfl) rfl (N.okk _) (lk_hd hu)) rfl (N.okk _)
        have k := pt_and (pt_is (ρ := [some (dnD hs (hdE N h)), some x, some (asD N as0), some (Atm.d N (.word true u w)), x4, x5]) (μ := μ) (a := .word true u w) (s := "other") (pa x4 x5)) fun _ => kk
        rw [is_other.mpr ⟨u, w, rfl⟩, Bool.true_and] at k
        refine seq_if k (fun c => ?_) fun c => ?_
        · rw [show unlike1 h t (.word true u w) = !decide (lk t (gn h u) = some w) from rfl, c] at hq
          exact hq
        · rw [show unlike1 h t (.word true u w) = !decide (lk t (gn h u) = some w) from rfl, c] at hq
          refine ifs_v (b := false) ?_ (fun h => by cases h) fun _ => ih _ _ _ j1' j2' hq
          have k2 := pt_is (ρ := [some (dnD hs (hdE N h)), some x, some (asD N as0), some (Atm.d N (.word true u w)), x4, x5]) (μ := μ) (a := .word true u w) (s := "unlike") (pa x4 x5)
          rw [show Atm.is (.word true u w) "unlike" = false from c_wunl true] at k2
          exact k2
      · have c1 : a.is "other" = false := by
          cases c : a.is "other" with
          | true => exact absurd (is_other.mp c) o
          | false => rfl
        have k := pt_and (ρ := [some (dnD hs (hdE N h)), some x, some (asD N as0), some (a.d N), x4, x5]) (μ := μ) (t2 := wTest (wBin wEqL (wNGet1 hs (wVar 1) (wBin (wNGetA hs) (wVar 0) (wBin wIx (wVar 3) (wC (.int 1))))) (wBin wIx (wVar 3) (wC (.int 2))))) (pt_is (a := a) (s := "other") (pa x4 x5)) (c := false) fun z => by rw [c1] at z; cases z
        rw [c1, Bool.false_and] at k
        refine seq_if k (fun h => by cases h) fun _ => ?_
        refine ifs_v (pt_is (a := a) (s := "unlike") (pa x4 x5)) (fun c => ?_) fun c => ?_
        · obtain ⟨u, v, rfl⟩ := is_unlike.mp c
          obtain ⟨hu, hv⟩ := j2 u v List.mem_cons_self
          refine seq_par (x := N.v (gn h u)) (y := N.v (gn h v)) (pa_cons (pe_ngetA (hs := hs) (kvs := hdE N h) (k := N.kk u) (pe_var rfl) isD.data (pe_ixT (y := kd (N.kk u)) (pa x4 x5) pe_c rfl) rfl (N.okk _) (lk_hd hu))
            (pa_cons (pe_ngetA (hs := hs) (kvs := hdE N h) (k := N.kk v) (pe_var rfl) isD.data (pe_ixT (y := kd (N.kk v)) (pa x4 x5) pe_c rfl) rfl (N.okk _) (lk_hd hv)) pa_nil)) ?_
          let ρ' : Rho := [some (dnD hs (hdE N h)), some x, some (asD N as0), some (Atm.d N (.pair true u v)), some (N.v (gn h u)), some (N.v (gn h v))]
          have k1 : PTv (wTest (wBin wEqL (wVar 4) (wVar 5))) ρ' μ (decide (gn h u = gn h v)) := by
            have z := pt_test (pe_eqU (ρ := ρ') (μ := μ) (a := some (gn h u)) (b := some (gn h v)) (pe_var (i := 4) rfl) (pe_var (i := 5) rfl))
            have e : decide (some (gn h u) = some (gn h v)) = decide (gn h u = gn h v) := by
              by_cases c : gn h u = gn h v
              · rw [decide_eq_true c, decide_eq_true (congrArg some c)]
              · rw [decide_eq_false c, decide_eq_false fun z => c (Option.some.inj z)]
            rw [e] at z
            exact z
          have k2 : PTv (wTest (wBin (wInA hs) (wVar 4) (wVar 1))) ρ' μ (lk t (gn h u)).isSome := by
            have z := pt_test (pe_inA (ρ := ρ') (hs := hs) (k := N.kk (gn h u)) (pe_var (i := 4) rfl) (pe_var (i := 1) rfl) hx rfl (N.okk _))
            rw [lk_tdE, Option.isSome_map] at z
            exact z
          have k3 : (lk t (gn h u)).isSome = true → PTv (wTest (wBin wEqL (wBin (wNGetA hs) (wVar 1) (wVar 4)) (wNGet1 hs (wVar 1) (wVar 5)))) ρ' μ (decide (lk t (gn h u) = lk t (gn h v))) := fun s => by
            obtain ⟨w, hw⟩ := Option.isSome_iff_exists.mp s
            rw [hw]
            refine pt_test (pe_eqO' (pe_ngetA (ρ := ρ') (hs := hs) (k := N.kk (gn h u)) (pe_var (i := 1) rfl) hx (pe_var (i := 4) rfl) rfl (N.okk _) (by rw [lk_tdE, hw]; rfl)) ?_)
            rw [← getD_strO, ← lk_tdE]
            exact pe_nget1 (k := N.kk (gn h v)) (pe_var (i := 1) rfl) hx (pe_var (i := 5) rfl) rfl (N.okk _)
          have e1 : unlike1 h t (.pair true u v) = !(decide (gn h u = gn h v) || ((lk t (gn h u)).isSome && decide (lk t (gn h u) = lk t (gn h v)))) := rfl
          rw [e1] at hq
          refine ifs_v (pt_or k1 fun _ => pt_and k2 k3) (fun c => ?_) fun c => ?_
          · rw [c] at hq
            exact hq
          · rw [c] at hq
            exact ih _ _ _ j1' j2' hq
        · have e1 : unlike1 h t a = true := by
            have nu := not_is is_unlike c
            unfold unlike1
            split
            · exact absurd ⟨_, _, rfl⟩ o
            · exact absurd ⟨_, _, rfl⟩ nu
            · rfl
          rw [e1] at hq
          exact ih _ _ _ j1' j2' hq
  exact seq_for (xs := as.map (Atm.d N)) (pi_tup (pe_var rfl)) (go (as0 := as) as none none none hi1 hi2 q)

/-! ### word_of -/
theorem go_fuel : ∀ (f g n : Nat) (acc : Str), n < f → n < g → wordGo f n acc = wordGo g n acc
  | 0, _, _, _, h, _ => absurd h (Nat.not_lt_zero _)
  | _, 0, _, _, _, h => absurd h (Nat.not_lt_zero _)
  | f + 1, g + 1, n, acc, h1, h2 => by
    show (if n < 26 then _ else wordGo f (n / 26 - 1) _) = (if n < 26 then _ else wordGo g (n / 26 - 1) _)
    by_cases c : n < 26
    · rw [if_pos c, if_pos c]
    · rw [if_neg c, if_neg c]
      have h3 : n / 26 - 1 < n := by
        have := Nat.div_le_self n 26
        omega
      exact go_fuel f g _ _ (by omega) (by omega)
theorem go_step {n : Nat} {acc : Str} (h : ¬ n < 26) : wordGo (n + 1) n acc = wordGo (n / 26 - 1 + 1) (n / 26 - 1) (letter (n % 26) ++ acc) := by
  have e : wordGo (n + 1) n acc = wordGo n (n / 26 - 1) (letter (n % 26) ++ acc) := by
    show (if n < 26 then _ else wordGo n (n / 26 - 1) _) = _
    rw [if_neg h]
  rw [e]
  have := Nat.div_le_self n 26
  exact go_fuel _ _ _ _ (by omega) (by omega)
theorem go_last {n : Nat} {acc : Str} (h : n < 26) : wordGo (n + 1) n acc = letter (n % 26) ++ acc := by
  show (if n < 26 then _ else _) = _
  rw [if_pos h]
theorem letters_at : ∀ d : Fin 26, L2.atI letters.cps.toList ((d.val : Nat) : Int) = some (letters.cps.getD d.val 97) := by decide +kernel
theorem letters_len : letters.length = 26 := by decide +kernel
theorem app_len (a b : Str) : (a ++ b).length = a.length + b.length := by
  show (a.cps ++ b.cps).size = _
  rw [Array.size_append]
  rfl
theorem letter_len (d : Nat) : (letter d).length = 1 := rfl
def wfWord : WF := fun ds μ Q => ∃ n : Nat, ds = [.int n] ∧ n ≤ 5000000 ∧ Q (.str (wordOf n)) μ
theorem p_word_of (ds : List DV) (μ : Mh) (Q : DV → Mh → Prop) (hl : ds.length = 1) (h : wfWord ds μ Q) : w_word_of { nx := fun _ μ' => Q .none μ', rt := Q } (ds.map some ++ List.replicate 1 none) μ := by
  obtain ⟨n, rfl, hn, q⟩ := h
  unfold w_word_of
  refine seq_asg pe_c ?_
  let W : Nat → Rho → Mh → Prop := fun m ρ μ' => μ' = μ ∧ ((∃ (k : Nat) (acc : Str), m = k + 1 ∧ ρ = [some (.int k), some (.str acc)] ∧ wordGo (k + 1) k acc = wordOf n ∧ acc.length + k ≤ 5000000) ∨ (m = 0 ∧ ρ = [some (.int (-1)), some (.str (wordOf n))]))
  show wWhile _ _ _ _ _
  refine ⟨W, ⟨n + 1, rfl, .inl ⟨n, Str.empty, rfl, rfl, rfl, by show 0 + n ≤ _; omega⟩⟩, ?_⟩
  rintro m ρ μ' ⟨rfl, ⟨k, acc, rfl, rfl, hg, hb⟩ | ⟨rfl, rfl⟩⟩
  · refine pt_test (b := true) (pe_bin (x := .int k) (y := .int 0) (pe_var rfl) pe_c fun P q => ?_) _ ?_
    · show P (.bool (decide ((0 : Int) ≤ (k : Int)))) _
      rw [decide_eq_true (by omega)]
      exact q
    · have pl : ∀ ρ : Rho, PEv (wB wLen (wCons (wC (.str letters)) wNil)) ρ μ' (.int 26) := fun ρ P q => by
        show letters.length ≤ sizeLine ∧ P (.int (letters.length : Nat)) _
        rw [letters_len]
        exact ⟨sl (by decide), q⟩
      have pm : PEv (wBin wMod (wVar 0) (wB wLen (wCons (wC (.str letters)) wNil))) [some (.int k), some (.str acc)] μ' (.int ((k % 26 : Nat) : Int)) := pe_bin (pe_var rfl) (pl _) fun P q => ⟨by decide, by
        have e : ((k : Int) % 26) = ((k % 26 : Nat) : Int) := by omega
        rw [e]
        exact q⟩
      have px : PEv (wBin wIx (wC (.str letters)) (wBin wMod (wVar 0) (wB wLen (wCons (wC (.str letters)) wNil)))) [some (.int k), some (.str acc)] μ' (.str (letter (k % 26))) := pe_bin pe_c pm fun P q => by
        refine ⟨by rw [letters_len]; exact sl (by decide), ?_⟩
        have e := letters_at ⟨k % 26, Nat.mod_lt _ (by decide)⟩
        rw [e]
        exact q
      refine seq_asg (y := .str (letter (k % 26) ++ acc)) (pe_bin px (pe_var rfl) fun P q => ⟨by rw [letter_len, sizeLine_eq]; omega, q⟩) ?_
      refine asg_last (y := .int ((k / 26 : Nat) - 1 : Int)) (pe_bin (x := .int (k / 26 : Nat)) (pe_bin (pe_var rfl) (pl _) fun P q => ⟨⟨by decide, by decide⟩, by
        have e : ((k : Int) / 26) = ((k / 26 : Nat) : Int) := by omega
        rw [e]
        exact q⟩) pe_c fun P q => q) ?_
      show ∃ m', m' < k + 1 ∧ W m' _ _
      by_cases c : k < 26
      · refine ⟨0, Nat.succ_pos _, rfl, .inr ⟨rfl, ?_⟩⟩
        rw [go_last c] at hg
        rw [← hg]
        have e : k / 26 = 0 := Nat.div_eq_of_lt c
        rw [e]
        rfl
      · have hd := Nat.div_le_self k 26
        have hd2 : k / 26 * 26 ≤ k := Nat.div_mul_le_self k 26
        have h1 : 1 ≤ k / 26 := by omega
        refine ⟨k / 26 - 1 + 1, by omega, rfl, .inl ⟨k / 26 - 1, letter (k % 26) ++ acc, rfl, ?_, ?_, ?_⟩⟩
        · have e : ((k / 26 : Nat) : Int) - 1 = ((k / 26 - 1 : Nat) : Int) := by omega
          rw [e]
          rfl
        · rw [← go_step c]
          exact hg
        · rw [app_len, letter_len]
          omega
  · refine pt_test (b := false) (pe_bin (x := .int (-1)) (y := .int 0) (pe_var rfl) pe_c fun P q => q) _ ?_
    dsimp only
    exact ret_v (y := .str (wordOf n)) (pe_var rfl) q
end Am

set_option Elab.async false
set_option linter.all false
set_option maxRecDepth 100000
set_option maxHeartbeats 1000000
/-! Am8: words are different; words_solved. -/
namespace Am
open PySem L2 Dz

/-! ### words are different -/
def ltr (d : Nat) := letters.cps.getD d 97
def dgF : Nat → Nat → List Nat
  | 0, _ => []
  | f + 1, n => n % 26 :: if n < 26 then [] else dgF f (n / 26 - 1)
def valF : List Nat → Nat
  | [] => 0
  | [d] => d
  | d :: e :: r => d + 26 * (valF (e :: r) + 1)
theorem val_dg : ∀ (f n : Nat), n < f → valF (dgF f n) = n
  | 0, _, h => absurd h (Nat.not_lt_zero _)
  | f + 1, n, h => by
    show valF (n % 26 :: if n < 26 then [] else dgF f (n / 26 - 1)) = n
    by_cases c : n < 26
    · rw [if_pos c]
      exact Nat.mod_eq_of_lt c
    · rw [if_neg c]
      have h1 := Nat.div_add_mod n 26
      have h2 : 1 ≤ n / 26 := Nat.div_pos (by omega) (by decide)
      have h3 : n / 26 - 1 < f := by omega
      have ih := val_dg f (n / 26 - 1) h3
      cases f with
      | zero => omega
      | succ f =>
        generalize e : dgF (f + 1) (n / 26 - 1) = l at ih
        cases l with
        | nil => cases e
        | cons a r =>
          show n % 26 + 26 * (valF (a :: r) + 1) = n
          rw [ih]
          omega
theorem dg_lt : ∀ (f n : Nat), ∀ d ∈ dgF f n, d < 26
  | 0, _, d, h => by cases h
  | f + 1, n, d, h => by
    have h : d ∈ n % 26 :: if n < 26 then [] else dgF f (n / 26 - 1) := h
    rcases List.mem_cons.mp h with h | h
    · rw [h]; exact Nat.mod_lt _ (by decide)
    · by_cases c : n < 26
      · rw [if_pos c] at h; cases h
      · rw [if_neg c] at h; exact dg_lt f _ d h
theorem go_cps : ∀ (f n : Nat) (acc : Str), n < f → (wordGo f n acc).cps.toList = (dgF f n).reverse.map ltr ++ acc.cps.toList
  | 0, _, _, h => absurd h (Nat.not_lt_zero _)
  | f + 1, n, acc, h => by
    have el : (letter (n % 26) ++ acc).cps.toList = ltr (n % 26) :: acc.cps.toList := by
      show (#[ltr (n % 26)] ++ acc.cps).toList = _
      rw [Array.toList_append]
      rfl
    show (if n < 26 then letter (n % 26) ++ acc else wordGo f (n / 26 - 1) (letter (n % 26) ++ acc)).cps.toList = (n % 26 :: if n < 26 then [] else dgF f (n / 26 - 1)).reverse.map ltr ++ _
    by_cases c : n < 26
    · rw [if_pos c, if_pos c, el]
      rfl
    · rw [if_neg c, if_neg c]
      have h2 := Nat.div_le_self n 26
      rw [go_cps f _ _ (by omega), el, List.reverse_cons, List.map_append, List.append_assoc]
      rfl
theorem ltr_inj : ∀ a b : Fin 26, ltr a.val = ltr b.val → a = b := by decide +kernel
theorem map_ltr : ∀ {as bs : List Nat}, (∀ d ∈ as, d < 26) → (∀ d ∈ bs, d < 26) → as.map ltr = bs.map ltr → as = bs
  | [], [], _, _, _ => rfl
  | [], _ :: _, _, _, h => by cases h
  | _ :: _, [], _, _, h => by cases h
  | a :: as, b :: bs, h1, h2, h => by
    rw [List.map_cons, List.map_cons] at h
    injection h with e1 e2
    have e := ltr_inj ⟨a, h1 a List.mem_cons_self⟩ ⟨b, h2 b List.mem_cons_self⟩ e1
    rw [Fin.mk.injEq] at e
    rw [e, map_ltr (fun d hd => h1 d (List.mem_cons_of_mem _ hd)) (fun d hd => h2 d (List.mem_cons_of_mem _ hd)) e2]
theorem word_inj {n m : Nat} (h : wordOf n = wordOf m) : n = m := by
  have e : (wordOf n).cps.toList = (wordOf m).cps.toList := by rw [h]
  unfold wordOf at e
  rw [go_cps _ _ _ (Nat.lt_succ_self n), go_cps _ _ _ (Nat.lt_succ_self m)] at e
  have e := List.append_cancel_right e
  have r := map_ltr (fun d hd => dg_lt _ _ d (List.mem_reverse.mp hd)) (fun d hd => dg_lt _ _ d (List.mem_reverse.mp hd)) e
  have r := List.reverse_inj.mp r
  rw [← val_dg (n + 1) n (Nat.lt_succ_self n), r, val_dg (m + 1) m (Nat.lt_succ_self m)]
theorem next_spec (tk : List Str) : ∀ (f n : Nat), n ≤ nextFree tk f n ∧ nextFree tk f n ≤ n + f ∧ (∀ j, n ≤ j → j < nextFree tk f n → wordOf j ∈ tk) ∧ (wordOf (nextFree tk f n) ∈ tk → nextFree tk f n = n + f)
  | 0, n => ⟨Nat.le_refl _, Nat.le_refl _, (fun j h1 h2 => absurd (Nat.lt_of_le_of_lt h1 h2) (Nat.lt_irrefl _)), fun _ => rfl⟩
  | f + 1, n => by
    have e : nextFree tk (f + 1) n = if wordOf n ∈ tk then nextFree tk f (n + 1) else n := rfl
    rw [e]
    by_cases c : wordOf n ∈ tk
    · rw [if_pos c]
      obtain ⟨h1, h2, h3, h4⟩ := next_spec tk f (n + 1)
      refine ⟨by omega, by omega, fun j j1 j2 => ?_, fun z => by rw [h4 z]; omega⟩
      by_cases d : j = n
      · rw [d]; exact c
      · exact h3 j (by omega) j2
    · rw [if_neg c]
      exact ⟨Nat.le_refl _, by omega, (fun j h1 h2 => absurd (Nat.lt_of_le_of_lt h1 h2) (Nat.lt_irrefl _)), fun z => absurd z c⟩
theorem next_free (tk : List Str) (n : Nat) : wordOf (nextFree tk (tk.length + 1) n) ∉ tk := fun z => by
  obtain ⟨_, _, h3, h4⟩ := next_spec tk (tk.length + 1) n
  have e := h4 z
  rw [e] at h3
  have nd : ((List.range (tk.length + 1)).map fun i => wordOf (n + i)).Nodup := by
    refine List.Pairwise.map _ (fun a b hab hw => hab ?_) List.nodup_range
    have := word_inj hw
    omega
  have sub : ((List.range (tk.length + 1)).map fun i => wordOf (n + i)) ⊆ tk := fun w hw => by
    obtain ⟨i, hi, rfl⟩ := List.mem_map.mp hw
    have hi := List.mem_range.mp hi
    exact h3 _ (by omega) (by omega)
  have := List.Nodup.length_le_of_subset nd sub
  rw [List.length_map, List.length_range] at this
  omega

/-! ### {text: ..} -/
section
variable {ρ : Rho} {μ : Mh}
theorem pe_dcK {α : Type} {g : WG} {ws : WI} {t : WT} {ek ev : WE} {vs : List Nat} (d : α → DV) (l : List α) (bb : α → Bool) (kf : α → Key) (yf vf : α → DV) (r : α → Rho) (hw : PIv ws ρ μ (l.map d)) (hl : l.length < sizeLine)
    (hg : ∀ x ∈ l, ∀ P : Rho → Prop, P (r x) → g (d x) (wipeD ρ vs) P) (ht : ∀ x ∈ l, PTv t (r x) μ (bb x)) (hk : ∀ x ∈ l, bb x = true → PEv ek (r x) μ (yf x)) (hy : ∀ x ∈ l, bb x = true → keyD (yf x) = some (kf x)) (hv : ∀ x ∈ l, bb x = true → PEv ev (r x) μ (vf x)) :
    PEv (wDcK ws g t ek ev vs) ρ μ (.dct ((l.filter bb).foldl (fun acc x => putD acc (kf x) (vf x)) [])) := fun P q => by
  refine hw _ ?_
  have go : ∀ (l : List α) (acc : List (Key × DV)) (P : List (Key × DV) → Mh → Prop), (∀ x ∈ l, ∀ P : Rho → Prop, P (r x) → g (d x) (wipeD ρ vs) P) → (∀ x ∈ l, PTv t (r x) μ (bb x)) → (∀ x ∈ l, bb x = true → PEv ek (r x) μ (yf x)) → (∀ x ∈ l, bb x = true → keyD (yf x) = some (kf x)) → (∀ x ∈ l, bb x = true → PEv ev (r x) μ (vf x)) →
      acc.length + l.length < sizeLine → P ((l.filter bb).foldl (fun acc x => putD acc (kf x) (vf x)) acc) μ → compK g t ek ev (wipeD ρ vs) (l.map d) acc μ P := by
    intro l
    induction l with
    | nil => intro acc P _ _ _ _ _ _ q; exact q
    | cons x l ih =>
      intro acc P hg ht hk hy hv hl q
      rw [List.length_cons] at hl
      refine hg x List.mem_cons_self _ (ht x List.mem_cons_self _ ?_)
      have hg' := fun z hz => hg z (List.mem_cons_of_mem _ hz)
      have ht' := fun z hz => ht z (List.mem_cons_of_mem _ hz)
      have hk' := fun z hz => hk z (List.mem_cons_of_mem x hz)
      have hy' := fun z hz => hy z (List.mem_cons_of_mem x hz)
      have hv' := fun z hz => hv z (List.mem_cons_of_mem x hz)
      cases hb : bb x with
      | true =>
        rw [List.filter_cons_of_pos hb, List.foldl_cons] at q
        have kx := hk x List.mem_cons_self hb
        have vx := hv x List.mem_cons_self hb
        have yx := hy x List.mem_cons_self hb
        refine kx _ (vx _ ?_)
        show atW (keyD (yf x)) _
        rw [yx]
        have ln : (putD acc (kf x) (vf x)).length ≤ acc.length + 1 := by
          unfold putD
          split
          · rw [List.length_map]; omega
          · rw [List.length_append]; exact Nat.le_refl _
        exact ⟨by omega, ih _ P hg' ht' hk' hy' hv' (by omega) q⟩
      | false =>
        rw [List.filter_cons_of_neg (by rw [hb]; exact Bool.false_ne_true)] at q
        exact ih acc P hg' ht' hk' hy' hv' (by omega) q
  exact go l [] _ hg ht hk hy hv (by show 0 + l.length < _; omega) q
theorem has_putD (acc : List (Key × DV)) (k k' : Key) (d : DV) : (valD (putD acc k d) k').isSome = true ↔ k = k' ∨ (valD acc k').isSome = true := by
  have hv : ∀ (l : List (Key × DV)) (k : Key), (valD l k).isSome = true ↔ k ∈ l.map (·.1) := by
    intro l k
    unfold valD
    rw [Option.isSome_map, List.find?_isSome]
    constructor
    · rintro ⟨x, hx, e⟩
      rw [← of_decide_eq_true e]
      exact List.mem_map_of_mem hx
    · intro h
      obtain ⟨x, hx, e⟩ := List.mem_map.mp h
      exact ⟨x, hx, decide_eq_true e⟩
  rw [hv, hv]
  unfold putD
  split
  · rename_i c
    rw [List.map_map]
    have e : acc.map ((fun x => x.1) ∘ fun kv => if kv.1 = k then (kv.1, d) else kv) = acc.map (·.1) := List.map_congr_left fun e _ => by
      show (if e.1 = k then (e.1, d) else e).1 = e.1
      split <;> rfl
    rw [e]
    refine ⟨.inr, fun z => z.elim (fun z => ?_) id⟩
    obtain ⟨x, hx, ex⟩ := List.any_eq_true.mp c
    rw [← z, ← of_decide_eq_true ex]
    exact List.mem_map_of_mem hx
  · rw [List.map_append, List.mem_append]
    constructor
    · rintro (h | h)
      · exact .inr h
      · exact .inl (List.mem_singleton.mp h).symm
    · rintro (h | h)
      · exact .inr (List.mem_singleton.mpr h.symm)
      · exact .inl h
theorem has_putsD {α : Type} (kf : α → Key) (vf : α → DV) (k : Key) : ∀ (l : List α) (acc : List (Key × DV)), (valD (l.foldl (fun acc x => putD acc (kf x) (vf x)) acc) k).isSome = true ↔ (valD acc k).isSome = true ∨ k ∈ l.map kf
  | [], acc => by simp
  | x :: l, acc => by
    rw [List.foldl_cons, has_putsD kf vf k l, has_putD, List.map_cons, List.mem_cons]
    constructor
    · rintro ((h | h) | h)
      · exact .inr (.inl h.symm)
      · exact .inl h
      · exact .inr (.inr h)
    · rintro (h | h | h)
      · exact .inl (.inr h)
      · exact .inl (.inl h.symm)
      · exact .inr h
end
theorem iw_k : inF (.str "kind") [.str "word", .str "other"] = false := by decide +kernel
theorem iw_m : inF (.str "most") [.str "word", .str "other"] = false := by decide +kernel
theorem iw_p (s : Bool) : inF (.str (pairS s)) [.str "word", .str "other"] = false := by cases s <;> decide +kernel
theorem iw_w (s : Bool) : inF (.str (wordS s)) [.str "word", .str "other"] = true := by cases s <;> decide +kernel
def tkOf (as : List Atm) : List (Key × DV) := (as.filter fun a : Atm => a.wd.isSome).foldl (fun acc a => putD acc (.inr (a.wd.getD Str.empty)) (.bool true)) []
theorem tk_has {as : List Atm} {w : Str} : (valD (tkOf as) (.inr w)).isSome = decide (w ∈ taken as) := by
  have h := has_putsD (fun a : Atm => (Sum.inr (a.wd.getD Str.empty) : Key)) (fun _ => .bool true) (.inr w) (as.filter fun a : Atm => a.wd.isSome) []
  have e : (Sum.inr w : Key) ∈ (as.filter fun a : Atm => a.wd.isSome).map (fun a : Atm => (Sum.inr (a.wd.getD Str.empty) : Key)) ↔ w ∈ taken as := by
    unfold taken
    constructor
    · intro z
      obtain ⟨a, ha, ea⟩ := List.mem_map.mp z
      obtain ⟨h1, h2⟩ := List.mem_filter.mp ha
      obtain ⟨w', hw⟩ := Option.isSome_iff_exists.mp h2
      rw [hw] at ea
      have ea : w' = w := Sum.inr.inj ea
      rw [← ea]
      exact List.mem_filterMap.mpr ⟨a, h1, hw⟩
    · intro z
      obtain ⟨a, ha, hw⟩ := List.mem_filterMap.mp z
      refine List.mem_map.mpr ⟨a, List.mem_filter.mpr ⟨ha, by rw [hw]; rfl⟩, ?_⟩
      rw [hw]
      rfl
  by_cases c : w ∈ taken as
  · rw [decide_eq_true c]
    exact h.mpr (.inr (e.mpr c))
  · rw [decide_eq_false c]
    cases z : (valD (tkOf as) (.inr w)).isSome with
    | false => rfl
    | true =>
      rcases h.mp z with h | h
      · cases h
      · exact absurd (e.mp h) c
end Am

set_option Elab.async false
set_option linter.all false
set_option maxRecDepth 100000
set_option maxHeartbeats 1000000
/-! Am9: words_solved. -/
namespace Am
open PySem L2 Dz

def wordsD (hs : NestedKey → Int) (N : Names) : Option Td → DV
  | some t => dnD hs (tdE N t)
  | none => .none
/-- the atoms about words name words alone -/
def WordsIn (words : List Nat) (as : List Atm) : Prop := (∀ s u v, Atm.pair s u v ∈ as → u ∈ words ∧ v ∈ words) ∧ ∀ s u w, Atm.word s u w ∈ as → u ∈ words
def wfWords (hs : NestedKey → Int) : WF := fun ds μ Q => ∃ (N : Names) (words : List Nat) (as : List Atm), ds = [.lst (words.map N.v), asD N as] ∧ words.length ≤ 1000 ∧ as.length ≤ 1000 ∧ WordsIn words as ∧ Q (wordsD hs N (wordsSolved words as)) μ
theorem told_len {h : Hd} : ∀ {as : List Atm} {t t' : Td}, wordsTold h as t = some t' → t'.length ≤ t.length + as.length
  | [], t, t', e => by
    cases e
    exact Nat.le_refl _
  | a :: as, t, t', e => by
    rw [List.length_cons]
    cases a with
    | word s u w => cases s with
      | false =>
        have e : (match lk t (gn h u) with | some w' => if w' = w then wordsTold h as t else none | none => wordsTold h as (pt t (gn h u) w)) = some t' := e
        cases c : lk t (gn h u) with
        | some w' =>
          rw [c] at e
          have e : (if w' = w then wordsTold h as t else none) = some t' := e
          by_cases z : w' = w
          · rw [if_pos z] at e
            have := told_len e
            omega
          · rw [if_neg z] at e; cases e
        | none =>
          rw [c] at e
          have h1 := told_len (h := h) (as := as) (t := pt t (gn h u) w) (t' := t') e
          have h2 := pt_len t (gn h u) w
          omega
      | true =>
        have := told_len (h := h) (as := as) (t := t) (t' := t') e
        omega
    | _ =>
      have := told_len (h := h) (as := as) (t := t) (t' := t') e
      omega
theorem taken_len (as : List Atm) : (taken as).length ≤ as.length := List.length_filterMap_le _ _
theorem p_words_solved {hs : NestedKey → Int} (ds : List DV) (μ : Mh) (Q : DV → Mh → Prop) (hl : ds.length = 2) (h : wfWords hs ds μ Q) : w_words_solved hs (wfClasses hs) (wfTold hs) (wfUnl hs) wfWord { nx := fun _ μ' => Q .none μ', rt := Q } (ds.map some ++ List.replicate 6 none) μ := by
  obtain ⟨N, words, as, rfl, h1, h2, ⟨hin1, hin2⟩, q⟩ := h
  unfold w_words_solved
  generalize eh : classesOf words as = h
  have hkeys : h.map (·.1) = (head0 words).map (·.1) := by
    rw [← eh]
    exact classes_keys (as := as) fun w hw => head0_has hw
  have hhas : ∀ u ∈ words, u ∈ h.map (·.1) := fun u hu => by rw [hkeys]; exact head0_has hu
  show wSeq _ _ _ _ _
  refine seq_asg (y := dnD hs (hdE N h)) (pe_call (pa_cons (pe_var rfl) (pa_cons (pe_var rfl) pa_nil)) rfl fun P q => ⟨N, words, as, rfl, h1, h2, hin1 false, by rw [eh]; exact q⟩) ?_
  have retN : ∀ (ρ : Rho) (μ' : Mh), NewN μ μ' → Q .none μ → wRet (wC .none) { nx := fun ρ' μ' => NewN μ μ' ∧ Q .none μ, rt := fun d μ' => NewN μ μ' ∧ Q d μ } ρ μ' := fun ρ μ' h1 h2 => ⟨h1, h2⟩
  refine seq_ (pa_cons (pe_var (y := dnD hs (hdE N h)) rfl) (pa_cons (pe_var (y := asD N as) rfl) pa_nil) _ ⟨rfl, N, h, as, rfl, h2, fun u w hm => hhas u (hin2 false u w hm), ?_⟩)
  have eq0 : wordsSolved words as = match wordsTold h as [] with
      | none => none
      | some t => if areUnlike h t as then some (words.foldl (fun acc u => pt acc u ((lk (words.foldl (name1 h (taken as)) (t, 0)).1 (gn h u)).getD Str.empty)) []) else none := by
    rw [← eh]
    rfl
  rw [eq0] at q
  cases et : wordsTold h as [] with
  | none =>
    rw [et] at q
    intro p o hp ho
    exact seq_if (b := true || false) (pt_or (b := true) (c := false) (pt_test (pe_bin (x := .none) (y := .none) (pe_var rfl) pe_c fun P q => q)) fun h => by cases h) (fun _ => retN _ _ (NewN.refl.upd hp ho) q) fun h => by cases h
  | some t =>
    rw [et] at q
    intro p hp
    have htl : t.length ≤ 1000 := by
      have := told_len et
      have e : ([] : Td).length = 0 := rfl
      omega
    have q : Q (wordsD hs N (if areUnlike h t as then some (words.foldl (fun acc u => pt acc u ((lk (words.foldl (name1 h (taken as)) (t, 0)).1 (gn h u)).getD Str.empty)) []) else none)) μ := q
    refine seq_if (b := false || !(areUnlike h t as)) (pt_or (b := false) (c := !(areUnlike h t as)) (pt_test (pe_bin (x := .obj p) (y := .none) (pe_var rfl) pe_c fun P q => q)) fun _ => pt_not (pt_test (pe_call (pa_cons (pe_var rfl) (pa_cons (pe_var rfl) (pa_cons (pe_var rfl) pa_nil))) rfl fun P q =>
      ⟨N, h, .obj p, t, as, rfl, isD.obj updM_same, (fun u w hm => hhas u (hin2 true u w hm)), (fun u v hm => ⟨hhas u (hin1 true u v hm).1, hhas v (hin1 true u v hm).2⟩), q⟩))) (fun c => ?_) fun c => ?_
    · have e : areUnlike h t as = false := by
        cases z : areUnlike h t as with
        | false => rfl
        | true => rw [z] at c; cases c
      rw [e] at q
      exact retN _ _ (NewN.refl.upd hp (by intro z; cases z)) q
    · have e : areUnlike h t as = true := by
        cases z : areUnlike h t as with
        | true => rfl
        | false => rw [z] at c; cases c
      rw [e, if_pos rfl] at q
      refine seq_asg (y := .dct (tkOf as)) ?_ ?_
      · refine pe_dcK (Atm.d N) as (fun a : Atm => a.wd.isSome) (fun a : Atm => .inr (a.wd.getD Str.empty)) (fun a : Atm => .str (a.wd.getD Str.empty)) (fun _ => .bool true)
          (fun a => [some (.lst (words.map N.v)), some (asD N as), some (dnD hs (hdE N h)), some (.obj p), none, some (a.d N), none, none]) (pi_tup (pe_var rfl)) (sl' (by omega)) (fun x _ P q => q) (fun x _ => ?_) (fun x _ hx => ?_) (fun x _ _ => rfl) fun x _ _ => pe_c
        · have k : ∀ c : Bool, inF (.str x.word0) [.str "word", .str "other"] = c → PTv (wTest (wBin wIn (wBin wIx (wVar 5) (wC (.int 0))) (wTup (wCons (wC (.str "word")) (wCons (wC (.str "other")) wNil))))) [some (.lst (words.map N.v)), some (asD N as), some (dnD hs (hdE N h)), some (.obj p), none, some (x.d N), none, none] (updM μ p (.dcN hs (tdE N t))) c := fun c hc =>
            pt_test (pe_inS (pe_a0 (pe_var rfl)) (pe_tup (pa_cons pe_c (pa_cons pe_c pa_nil)) (sl (Nat.le_of_ble_eq_true rfl))) rfl hc)
          cases x with
          | kind u k' => exact k false iw_k
          | most x y n => exact k false iw_m
          | pair s u v => exact k false (iw_p s)
          | word s u w => exact k true (iw_w s)
        · cases x with
          | word s u w => exact pe_ixT (y := .str w) (pe_var (y := Atm.d N (.word s u w)) rfl) pe_c rfl
          | _ => cases hx
      refine seq_asg pe_c ?_
      have tl := taken_len as
      -- the names, one by one
      have fin : ∀ (t' : Td) (x5 x6 x7 : Option DV), (∀ u ∈ words, (lk t' (gn h u)).isSome = true) → Q (dnD hs (tdE N (words.foldl (fun acc u => pt acc u ((lk t' (gn h u)).getD Str.empty)) []))) μ →
          wRet (wFrzN (wDcN hs (sLst (wVar 0)) (wgName 7) wYes (wVar 7) (wBin (wNGetA hs) (wVar 3) (wBin (wNGetA hs) (wVar 2) (wVar 7))) [7])) { nx := fun ρ' μ' => NewN μ μ' ∧ Q .none μ, rt := fun d μ' => NewN μ μ' ∧ Q d μ }
            [some (.lst (words.map N.v)), some (asD N as), some (dnD hs (hdE N h)), some (.obj p), some (.dct (tkOf as)), x5, x6, x7] (updM μ p (.dcN hs (tdE N t'))) := fun t' x5 x6 x7 hall hq => by
        have hm : updM μ p (.dcN hs (tdE N t')) p = some (.dcN hs (tdE N t')) := updM_same
        refine ret_ ?_
        show wDcN hs _ _ _ _ _ _ _ _ _
        refine pi_lst (ds := words.map N.v) (pe_var rfl) _ (comp_dcN N.v N.kk (fun u => .str ((lk t' (gn h u)).getD Str.empty)) (fun u => [some (.lst (words.map N.v)), some (asD N as), some (dnD hs (hdE N h)), some (.obj p), some (.dct (tkOf as)), x5, x6, some (N.v u)]) words [] _
          (fun x _ P q => q) (fun x _ => pe_var rfl) (fun x _ => ⟨_, rfl⟩) (fun x _ => N.okk _) (fun u hu => ?_) (sl' (by show 0 + words.length < _; omega)) fun p2 hp2 => ?_)
        · obtain ⟨w, hw⟩ := Option.isSome_iff_exists.mp (hall u hu)
          rw [hw]
          exact pe_ngetA (hs := hs) (kvs := tdE N t') (k := N.kk (gn h u)) (pe_var rfl) (isD.obj hm) (pe_ngetA (hs := hs) (kvs := hdE N h) (k := N.kk u) (pe_var rfl) isD.data (pe_var rfl) rfl (N.okk _) (lk_hd (hhas u hu))) rfl (N.okk _) (by rw [lk_tdE, hw]; rfl)
        · have e0 : words.foldl (fun acc x => putN acc (N.kk x) (.str ((lk t' (gn h x)).getD Str.empty))) [] = tdE N (words.foldl (fun acc u => pt acc u ((lk t' (gn h u)).getD Str.empty)) []) := fold_enc (f := N.kk) (g := DV.str) N.kk_inj (fun u => u) (fun u => (lk t' (gn h u)).getD Str.empty) words []
          rw [e0]
          show (match updM (updM μ p (.dcN hs (tdE N t'))) p2 _ p2 with | some (.dcN hs kvs) => _ | _ => False)
          rw [updM_same]
          show NewN μ (delM _ p2) ∧ Q _ μ
          rw [delM_upd hp2]
          exact ⟨NewN.refl.upd hp (by intro z; cases z), hq⟩
      have go : ∀ (us : List Nat) (t' : Td) (n : Nat) (x5 x7 : Option DV), (∀ u ∈ us, u ∈ words) → t'.length + us.length ≤ 2000 → n + 1002 * us.length ≤ 2000000 → (∀ u ∈ words, u ∈ us ∨ (lk t' (gn h u)).isSome = true) →
          Q (dnD hs (tdE N (words.foldl (fun acc u => pt acc u ((lk (us.foldl (name1 h (taken as)) (t', n)).1 (gn h u)).getD Str.empty)) []))) μ →
          forW (wgName 7) (wIfS (wTest (wBin (wNotInA hs) (wBin (wNGetA hs) (wVar 2) (wVar 7)) (wVar 3))) (wSeq (wWhile (wTest (wBin wInK (wCall 1 wfWord (wCons (wVar 6) wNil)) (wVar 4))) (wAugI (fun a b => a + b) 6 (wC (.int 1))))
            (wSeq (wNPut hs (wVar 3) (wBin (wNGetA hs) (wVar 2) (wVar 7)) (wCall 1 wfWord (wCons (wVar 6) wNil))) (wAugI (fun a b => a + b) 6 (wC (.int 1))))) wNext)
            { nx := wRet (wFrzN (wDcN hs (sLst (wVar 0)) (wgName 7) wYes (wVar 7) (wBin (wNGetA hs) (wVar 3) (wBin (wNGetA hs) (wVar 2) (wVar 7))) [7])) { nx := fun ρ' μ' => NewN μ μ' ∧ Q .none μ, rt := fun d μ' => NewN μ μ' ∧ Q d μ }, rt := fun d μ' => NewN μ μ' ∧ Q d μ }
            (us.map N.v) [some (.lst (words.map N.v)), some (asD N as), some (dnD hs (hdE N h)), some (.obj p), some (.dct (tkOf as)), x5, some (.int n), x7] (updM μ p (.dcN hs (tdE N t'))) := by
        intro us
        induction us with
        | nil =>
          intro t' n x5 x7 _ _ _ hall hq
          rw [List.map_nil, forW]
          dsimp only
          exact fin t' _ _ _ (fun u hu => (hall u hu).elim (fun z => by cases z) id) hq
        | cons u us ih =>
          intro t' n x5 x7 hus hl1 hl2 hall hq
          rw [List.length_cons] at hl1 hl2
          rw [List.map_cons, forW]
          have hu := hus u List.mem_cons_self
          have hus' := fun v hv => hus v (List.mem_cons_of_mem u hv)
          have hm : updM μ p (.dcN hs (tdE N t')) p = some (.dcN hs (tdE N t')) := updM_same
          show wIfS _ _ _ _ [some (.lst (words.map N.v)), some (asD N as), some (dnD hs (hdE N h)), some (.obj p), some (.dct (tkOf as)), x5, some (.int n), some (N.v u)] _
          have ph : ∀ (m : DV) (μ' : Mh), PEv (wBin (wNGetA hs) (wVar 2) (wVar 7)) [some (.lst (words.map N.v)), some (asD N as), some (dnD hs (hdE N h)), some (.obj p), some (.dct (tkOf as)), x5, some m, some (N.v u)] μ' (kd (N.kk (gn h u))) := fun m μ' =>
            pe_ngetA (hs := hs) (kvs := hdE N h) (k := N.kk u) (pe_var rfl) isD.data (pe_var rfl) rfl (N.okk _) (lk_hd (hhas u hu))
          have e1 : (u :: us).foldl (name1 h (taken as)) (t', n) = us.foldl (name1 h (taken as)) (name1 h (taken as) (t', n) u) := rfl
          rw [e1] at hq
          have kt := pt_test (pe_notinA (hs := hs) (k := N.kk (gn h u)) (ph (.int n) (updM μ p (.dcN hs (tdE N t')))) (pe_var (i := 3) rfl) (isD.obj hm) rfl (N.okk _))
          rw [lk_tdE, Option.isSome_map] at kt
          refine ifs_v kt (fun c => ?_) fun c => ?_
          · have c : lk t' (gn h u) = none := by
              cases z : lk t' (gn h u) with
              | none => rfl
              | some w => rw [z] at c; cases c
            have e2 : name1 h (taken as) (t', n) u = (pt t' (gn h u) (wordOf (nextFree (taken as) ((taken as).length + 1) n)), nextFree (taken as) ((taken as).length + 1) n + 1) := by
              show (match lk t' (gn h u) with | some _ => _ | none => _) = _
              rw [c]
            rw [e2] at hq
            have nf := next_free (taken as) n
            obtain ⟨s1, s2, s3, _⟩ := next_spec (taken as) ((taken as).length + 1) n
            generalize nextFree (taken as) ((taken as).length + 1) n = stop at hq nf s1 s2 s3
            let W : Nat → Rho → Mh → Prop := fun m ρ μ' => ∃ j : Nat, n ≤ j ∧ j ≤ stop ∧ m = stop - j ∧ μ' = updM μ p (.dcN hs (tdE N t')) ∧ ρ = [some (.lst (words.map N.v)), some (asD N as), some (dnD hs (hdE N h)), some (.obj p), some (.dct (tkOf as)), x5, some (.int j), some (N.v u)]
            show wWhile _ _ _ _ _
            refine ⟨W, ⟨stop - n, n, Nat.le_refl _, s1, rfl, rfl, rfl⟩, ?_⟩
            rintro m ρ μ' ⟨j, j1, j2, rfl, rfl, rfl⟩
            have pw : PEv (wCall 1 wfWord (wCons (wVar 6) wNil)) [some (.lst (words.map N.v)), some (asD N as), some (dnD hs (hdE N h)), some (.obj p), some (.dct (tkOf as)), x5, some (.int j), some (N.v u)] (updM μ p (.dcN hs (tdE N t'))) (.str (wordOf j)) :=
              pe_call (pa_cons (pe_var rfl) pa_nil) rfl fun P q => ⟨j, rfl, by omega, q⟩
            refine pt_test (b := decide (wordOf j ∈ taken as)) (pe_bin pw (pe_var (y := .dct (tkOf as)) rfl) fun P q => ?_) _ ?_
            · show P (.bool (valD (tkOf as) (.inr (wordOf j))).isSome) _
              rw [tk_has]
              exact q
            · cases z : decide (wordOf j ∈ taken as) with
              | true =>
                have z := of_decide_eq_true z
                have jn : j ≠ stop := fun e => nf (e ▸ z)
                show ∃ m', m' < stop - j ∧ W m' _ _
                exact ⟨stop - (j + 1), by omega, j + 1, by omega, by omega, rfl, rfl, rfl⟩
              | false =>
                have z := of_decide_eq_false z
                have js : j = stop := by
                  by_cases e : j = stop
                  · exact e
                  · exact absurd (s3 j j1 (by omega)) z
                subst js
                dsimp only
                refine seq_nput (a := p) (k := N.kk (gn h u)) (d := .str (wordOf j)) pw (pe_var rfl) (ph _ _) hm rfl (N.okk _) (by unfold tdE; rw [enc_len]; exact sl' (by omega)) ?_
                rw [updM_upd]
                have e3 : putN (tdE N t') (N.kk (gn h u)) (.str (wordOf j)) = tdE N (pt t' (gn h u) (wordOf j)) := pt_enc N.kk_inj _ _ t'
                rw [e3]
                have pl := pt_len t' (gn h u) (wordOf j)
                refine ih (pt t' (gn h u) (wordOf j)) (j + 1) _ _ hus' (by omega) (by omega) (fun v hv => ?_) hq
                rw [lk_pt]
                by_cases g : gn h u = gn h v
                · rw [if_pos g]; exact .inr rfl
                · rw [if_neg g]
                  rcases hall v hv with y | y
                  · rcases List.mem_cons.mp y with y | y
                    · rw [y] at g; exact absurd rfl g
                    · exact .inl y
                  · exact .inr y
          · have c : (lk t' (gn h u)).isSome = true := by
              cases z : (lk t' (gn h u)).isSome with
              | true => rfl
              | false => rw [z] at c; cases c
            obtain ⟨w, hw⟩ := Option.isSome_iff_exists.mp c
            have e2 : name1 h (taken as) (t', n) u = (t', n) := by
              show (match lk t' (gn h u) with | some _ => _ | none => _) = _
              rw [hw]
            rw [e2] at hq
            refine ih t' n _ _ hus' (by omega) (by omega) (fun v hv => ?_) hq
            rcases hall v hv with y | y
            · rcases List.mem_cons.mp y with y | y
              · rw [y]; exact .inr c
              · exact .inl y
            · exact .inr y
      exact seq_for (xs := words.map N.v) (pi_lst (pe_var rfl)) (go words t 0 _ _ (fun u hu => hu) (by omega) (by omega) (fun u hu => .inl hu) q)
end Am

set_option Elab.async false
set_option linter.all false
set_option maxRecDepth 100000
set_option maxHeartbeats 1000000
/-! Am10: values_solved. -/
namespace Am
open PySem L2 Dz

/-! ### the kinds that are left -/
def Only (l : Fr) (u : Nat) (k : Kd) : Prop := ∃ ks, lk l u = some ks ∧ ∀ x ∈ ks, x = k
theorem only_restrict {l : Fr} {u v : Nat} {k j : Kd} (h : Only l u k) : Only (restrict j l v) u k := by
  obtain ⟨ks, h1, h2⟩ := h
  unfold Only restrict
  rw [lk_pt]
  by_cases e : v = u
  · rw [if_pos e, e, h1]
    exact ⟨_, rfl, fun x hx => h2 x (List.mem_filter.mp hx).1⟩
  · rw [if_neg e]
    exact ⟨ks, h1, h2⟩
theorem only_restricts {k j : Kd} {u : Nat} : ∀ {us : List Nat} {l : Fr}, Only l u k → Only (us.foldl (restrict j) l) u k
  | [], _, h => h
  | v :: us, l, h => only_restricts (us := us) (only_restrict h)
theorem only_new {k : Kd} {u : Nat} : ∀ {us : List Nat} {l : Fr}, (∀ v ∈ us, v ∈ l.map (·.1)) → u ∈ us → Only (us.foldl (restrict k) l) u k
  | [], _, _, h => by cases h
  | v :: us, l, hk, h => by
    have hv := hk v List.mem_cons_self
    rw [List.foldl_cons]
    rcases List.mem_cons.mp h with h | h
    · refine only_restricts ?_
      subst h
      unfold Only restrict
      rw [lk_pt, if_pos rfl]
      exact ⟨_, rfl, fun x hx => of_decide_eq_true (List.mem_filter.mp hx).2⟩
    · exact only_new (fun w hw => by rw [restrict_keys hv]; exact hk w (List.mem_cons_of_mem _ hw)) h
theorem only_left : ∀ {as : List Atm} {l : Fr} {u : Nat} {k : Kd}, Only l u k → Only (kindsLeft l as) u k
  | [], _, _, _, h => h
  | a :: as, l, u, k, h => only_left (as := as) (only_restricts h)
theorem left_only : ∀ {as : List Atm} {l : Fr}, (∀ a ∈ as, ∀ u ∈ a.us, u ∈ l.map (·.1)) → ∀ a ∈ as, ∀ u ∈ a.us, Only (kindsLeft l as) u a.ask
  | [], _, _, a, h, _, _ => by cases h
  | b :: as, l, hk, a, h, u, hu => by
    have e := restricts_keys (k := b.ask) (hk b List.mem_cons_self)
    rcases List.mem_cons.mp h with h | h
    · rw [h] at hu ⊢
      exact only_left (as := as) (only_new (hk b List.mem_cons_self) hu)
    · exact left_only (as := as) (l := b.us.foldl (restrict b.ask) l) (fun c hc v hv => by rw [e]; exact hk c (List.mem_cons_of_mem _ hc) v hv) a h u hu
theorem lk_fold {K A : Type} [DecidableEq K] (vf : K → A) (u : K) : ∀ (us : List K) (acc : List (K × A)), lk (us.foldl (fun acc u => pt acc u (vf u)) acc) u = if u ∈ us then some (vf u) else lk acc u
  | [], acc => by simp
  | v :: us, acc => by
    rw [List.foldl_cons, lk_fold vf u us, lk_pt]
    by_cases h1 : u ∈ us
    · rw [if_pos h1, if_pos (List.mem_cons_of_mem _ h1)]
    · rw [if_neg h1]
      by_cases h2 : v = u
      · rw [if_pos h2, if_pos (by rw [h2]; exact List.mem_cons_self), h2]
      · rw [if_neg h2, if_neg fun z => (List.mem_cons.mp z).elim (fun z => h2 z.symm) h1]
def hdK (l : Fr) (u : Nat) : Kd := ((lk l u).getD []).headD .no
theorem kindsOf_eq (l : Fr) : kindsOf l = (l.map (·.1)).foldl (fun acc u => pt acc u (hdK l u)) [] := by
  rw [List.foldl_map]
  rfl
theorem kinds_lk {l : Fr} {u : Nat} : lk (kindsOf l) u = if u ∈ l.map (·.1) then some (hdK l u) else none := by
  rw [kindsOf_eq, lk_fold]
  rfl
theorem kinds_keys {l : Fr} {u : Nat} : u ∈ (kindsOf l).map (·.1) ↔ u ∈ l.map (·.1) := by
  rw [← lk_isSome, kinds_lk]
  by_cases c : u ∈ l.map (·.1)
  · rw [if_pos c]; exact ⟨fun _ => c, fun _ => rfl⟩
  · rw [if_neg c]; exact ⟨fun z => absurd z Bool.false_ne_true, fun z => absurd z c⟩
theorem ofKind_in {fr : Fr} {as : List Atm} (fit : Fits fr as) (ne : (kindsLeft fr as).any (fun e => e.2.isEmpty) = false) {a : Atm} {u : Nat} (ha : a ∈ as) (hu : u ∈ a.us) : u ∈ ofKind a.ask (kindsOf (kindsLeft fr as)) := by
  obtain ⟨ks, h1, h2⟩ := left_only fit.us a ha u hu
  have hk : u ∈ (kindsLeft fr as).map (·.1) := lk_isSome.mp (by rw [h1]; rfl)
  have hh : hdK (kindsLeft fr as) u = a.ask := by
    unfold hdK
    rw [h1]
    cases ks with
    | nil =>
      exfalso
      unfold lk at h1
      obtain ⟨x, hx, e⟩ := Option.map_eq_some_iff.mp h1
      have := List.any_eq_false.mp ne x (List.mem_of_find?_eq_some hx)
      rw [e] at this
      exact this rfl
    | cons k ks => exact h2 k List.mem_cons_self
  unfold ofKind
  refine List.mem_filter.mpr ⟨kinds_keys.mpr hk, decide_eq_true ?_⟩
  rw [kinds_lk, if_pos hk, hh]

/-! ### as data -/
def kindsK (l : List Kd) : NestedKey := .tup (l.map fun k => .text k.s)
theorem kds_map {α : Type} (f : α → NestedKey) : ∀ l : List α, kds (l.map f) = l.map fun x => kd (f x)
  | [] => rfl
  | x :: l => by
    rw [List.map_cons, List.map_cons, ← kds_map f l]
    rfl
theorem kindsK_d (l : List Kd) : kd (kindsK l) = kindsD l := by
  show DV.tup (kds (l.map fun k => NestedKey.text k.s)) = _
  rw [kds_map]
  rfl
theorem kindsK_ok (l : List Kd) : okK (kindsK l) := by
  refine ⟨?_, ?_⟩
  · show PyData.canLayAll0 (toPys (kds (l.map fun k => NestedKey.text k.s))) = true
    induction l with
    | nil => rfl
    | cons k l ih =>
      rw [List.map_cons, lays_cons, ih, show (toPy (kd (.text k.s))).canLay0 = true from (by cases k <;> decide +kernel)]
      rfl
  · have e : ∀ l : List Kd, NestedKey.depthAll (l.map fun k => NestedKey.text k.s) = 0 := by
      intro l
      induction l with
      | nil => rfl
      | cons k l ih =>
        show max 0 (NestedKey.depthAll (l.map fun k => NestedKey.text k.s)) = 0
        rw [ih]
        rfl
    show NestedKey.depthAll (l.map fun k => NestedKey.text k.s) + 1 ≤ 8
    rw [e]
    decide
theorem kinds_shaped (l : List Kd) : shapedD (kindsD l) = true := by rw [← kindsK_d]; exact (kindsK_ok l).shaped
theorem kinds_empty (l : List Kd) : deepEq (kindsD l) (.tup []) = l.isEmpty := by
  cases l <;> rfl
def Vu.d : Vu → DV
  | .non => .none
  | .num i => .int i
  | .word w => .str w
def vuE (N : Names) (f : List (Nat × Vu)) : List (NestedKey × DV) := enc N.kk Vu.d f
def valsD (hs : NestedKey → Int) (N : Names) : Option (List (Nat × Vu)) → DV
  | some f => dnD hs (vuE N f)
  | none => .none
def knE (N : Names) (ks : List (Nat × Kd)) : List (NestedKey × DV) := enc N.kk (fun k => .str k.s) ks
theorem lk_knE {N : Names} (ks : List (Nat × Kd)) (u : Nat) : lkN (knE N ks) (N.kk u) = (lk ks u).map fun k => .str k.s := lk_enc N.kk_inj u ks
theorem enc_keysD {A : Type} {N : Names} {g : A → DV} (l : List (Nat × A)) : (enc N.kk g l).map (fun e => kd e.1) = (l.map (·.1)).map N.v := by
  unfold enc
  rw [List.map_map, List.map_map]
  rfl
section
variable {ρ : Rho} {μ : Mh} {we : WE} {hs : NestedKey → Int} {kvs : List (NestedKey × DV)}
theorem pi_keys (h : PEv we ρ μ (dnD hs kvs)) : PIv (sKeysN hs we) ρ μ (kvs.map fun e => kd e.1) := fun P q => h _ ⟨kvs, rfl, q⟩
end
theorem val_d (f : Fd) (t : Td) (u : Nat) : ((lk f (some u)).map DV.int).getD (((lk t u).map DV.str).getD .none) = Vu.d (valueOf f t u) := by
  unfold valueOf
  cases lk f (some u) with
  | some n => rfl
  | none => cases lk t u <;> rfl
def wfValues (hs : NestedKey → Int) : WF := fun ds μ Q => ∃ (N : Names) (fr : Fr) (as : List Atm), ds = [frD N fr, asD N as] ∧ Fits fr as ∧ (∀ e ∈ fr, e.2.length ≤ 10) ∧ Q (valsD hs N (valuesSolved fr as)) μ
theorem p_values_solved {hs : NestedKey → Int} (ds : List DV) (μ : Mh) (Q : DV → Mh → Prop) (hl : ds.length = 2) (h : wfValues hs ds μ Q) : w_values_solved hs (wfLeft hs) (wfNums hs) (wfWords hs) { nx := fun _ μ' => Q .none μ', rt := Q } (ds.map some ++ List.replicate 5 none) μ := by
  obtain ⟨N, fr, as, rfl, fit, sm, q⟩ := h
  unfold w_values_solved
  have eq0 : valuesSolved fr as = if (kindsLeft fr as).any (fun e => e.2.isEmpty) then none else
      match numbersSolved (ofKind .nu (kindsOf (kindsLeft fr as))) as, wordsSolved (ofKind .wo (kindsOf (kindsLeft fr as))) as with
      | some f, some t => some ((kindsOf (kindsLeft fr as)).foldl (fun acc e => pt acc e.1 (valueOf f t e.1)) [])
      | _, _ => none := rfl
  rw [eq0] at q
  have of_in := fun ne a u ha hu => ofKind_in (a := a) (u := u) fit ne ha hu
  have lkeys := left_keys (as := as) (l := fr) fit.us
  refine seq_asg (y := dnD hs (encF N (kindsLeft fr as))) (pe_call (pa_cons (pe_var rfl) (pa_cons (pe_var rfl) pa_nil)) rfl fun P q => ⟨N, fr, as, rfl, fit, sm, q⟩) ?_
  generalize kindsLeft fr as = l at q of_in lkeys ⊢
  have hll : l.length ≤ 1000 := by
    have := congrArg List.length lkeys
    rw [List.length_map, List.length_map] at this
    have := fit.len
    omega
  have any_eq : (encF N l).any (fun e => deepEq e.2 (.tup [])) = l.any (fun e => e.2.isEmpty) := by
    unfold encF enc
    rw [List.any_map]
    have e : ((fun e : NestedKey × DV => deepEq e.2 (.tup [])) ∘ fun e : Nat × List Kd => (N.kk e.1, kindsD e.2)) = fun e => e.2.isEmpty := by
      funext e
      exact kinds_empty e.2
    rw [e]
  refine seq_if (b := l.any (fun e => e.2.isEmpty)) (pt_test fun P q => ?_) (fun c => ?_) fun c => ?_
  · refine pe_tup pa_nil (Nat.zero_le _) _ (pe_var (y := dnD hs (encF N l)) rfl _ (nDct_in isD.data ⟨rfl, fun e he => ?_, ?_⟩))
    · obtain ⟨z, hz, rfl⟩ := List.mem_map.mp he
      exact kinds_shaped _
    · rw [any_eq]
      exact q
  · rw [c, if_pos rfl] at q
    exact ret_v pe_c q
  · rw [c, if_neg Bool.false_ne_true] at q
    have of_in := of_in c
    generalize eks : kindsOf l = ks at q of_in
    refine seq_ ?_
    show wDcN hs _ _ _ _ _ _ _ _ _
    have hkl : ∀ u ∈ l.map (·.1), ∃ k r, lk l u = some (k :: r) := fun u hu => by
      obtain ⟨z, hz⟩ := Option.isSome_iff_exists.mp (lk_isSome.mpr hu)
      cases z with
      | nil =>
        exfalso
        unfold lk at hz
        obtain ⟨x, hx, e⟩ := Option.map_eq_some_iff.mp hz
        have := List.any_eq_false.mp c x (List.mem_of_find?_eq_some hx)
        rw [e] at this
        exact this rfl
      | cons k r => exact ⟨k, r, hz⟩
    have pk := pi_keys (ρ := [some (frD N fr), some (asD N as), some (dnD hs (encF N l)), none, none, none, none]) (μ := μ) (hs := hs) (kvs := encF N l) (pe_var (i := 2) rfl)
    rw [show (encF N l).map (fun e => kd e.1) = (l.map (·.1)).map N.v from enc_keysD l] at pk
    refine pk _ (comp_dcN N.v N.kk (fun u => .str (hdK l u).s) (fun u => [some (frD N fr), some (asD N as), some (dnD hs (encF N l)), none, some (N.v u), none, none]) (l.map (·.1)) [] _
      (fun x _ P q => q) (fun x _ => pe_var rfl) (fun x _ => ⟨_, rfl⟩) (fun x _ => N.okk _) (fun u hu => ?_) (sl' (by rw [List.length_map]; show 0 + l.length < _; omega)) fun p hp => ?_)
    · obtain ⟨k, r, hz⟩ := hkl u hu
      refine pe_ixT (pe_ngetA (hs := hs) (kvs := encF N l) (k := N.kk u) (d := kindsD (k :: r)) (pe_var rfl) isD.data (pe_var rfl) rfl (N.okk _) (by rw [lk_encF, hz]; rfl)) pe_c ?_
      unfold hdK
      rw [hz]
      exact Qz.atI_zero
    have e0 : (l.map (·.1)).foldl (fun acc x => putN acc (N.kk x) (.str (hdK l x).s)) [] = knE N ks := by
      rw [← eks, kindsOf_eq]
      exact fold_enc (f := N.kk) (g := fun k : Kd => .str k.s) N.kk_inj (fun u => u) (hdK l) (l.map (·.1)) []
    rw [e0]
    refine frznv_o (p := p) rfl updM_same ?_
    rw [delM_upd hp]
    have hksl : ks.length ≤ 1000 := by
      rw [← eks, kindsOf_eq]
      refine Nat.le_trans (len_fold (fun u : Nat => u) (hdK l) _ _) ?_
      rw [List.length_map]
      show 0 + l.length ≤ 1000
      omega
    have pl : ∀ (k : Kd) (x4 x5 x6 : Option DV), PEv (wLc (sKeysN hs (wVar 3)) (wgName 4) (wTest (wBin wEqL (wBin (wNGetA hs) (wVar 3) (wVar 4)) (wC (.str k.s)))) (wVar 4) [4]) [some (frD N fr), some (asD N as), some (dnD hs (encF N l)), some (dnD hs (knE N ks)), x4, x5, x6] μ (.lst ((ofKind k ks).map N.v)) := fun k x4 x5 x6 => by
      have pk := pi_keys (ρ := [some (frD N fr), some (asD N as), some (dnD hs (encF N l)), some (dnD hs (knE N ks)), x4, x5, x6]) (μ := μ) (hs := hs) (kvs := knE N ks) (pe_var (i := 3) rfl)
      rw [show (knE N ks).map (fun e => kd e.1) = (ks.map (·.1)).map N.v from enc_keysD ks] at pk
      refine pe_lc (ρ := [some (frD N fr), some (asD N as), some (dnD hs (encF N l)), some (dnD hs (knE N ks)), x4, x5, x6]) (g := wgName 4) (vs := [4]) (e := wVar 4) N.v (ks.map (·.1)) (fun u => decide (lk ks u = some k)) N.v (fun u => [some (frD N fr), some (asD N as), some (dnD hs (encF N l)), some (dnD hs (knE N ks)), some (N.v u), x5, x6]) pk (sl (by rw [List.length_map]; omega)) (fun x _ P q => q) (fun u hu => ?_) fun x _ _ => pe_var (i := 4) rfl
      obtain ⟨j, hj⟩ := Option.isSome_iff_exists.mp (lk_isSome.mpr hu)
      refine pt_test (pe_str (s := j.s) (r := k.s) (pe_ngetA (hs := hs) (kvs := knE N ks) (k := N.kk u) (pe_var rfl) isD.data (pe_var rfl) rfl (N.okk _) (by rw [lk_knE, hj]; rfl)) pe_c ?_)
      rw [hj]
      by_cases e : j = k
      · rw [decide_eq_true (congrArg Kd.s e), decide_eq_true (congrArg some e)]
      · rw [decide_eq_false fun z => e (Kd.s_inj z), decide_eq_false fun z => e (Option.some.inj z)]
    have ofl : ∀ k, (ofKind k ks).length ≤ 1000 := fun k => by
      refine Nat.le_trans (List.length_filter_le _ _) ?_
      rw [List.length_map]
      exact hksl
    refine seq_asg (y := numsD hs N (numbersSolved (ofKind .nu ks) as)) (pe_call (pa_cons (pl .nu _ _ _) (pa_cons (pe_var rfl) pa_nil)) rfl fun P q => ⟨N, ofKind .nu ks, as, rfl, ofl _, fit.alen, fun x y n ha => ?_, q⟩) ?_
    · have hx := of_in (.most x y n)
      have one : ∀ o : Option Nat, (∀ u, o = some u → u ∈ Atm.us (.most x y n)) → o = none ∨ ∃ u ∈ ofKind .nu ks, o = some u := fun o ho => by
        cases o with
        | none => exact .inl rfl
        | some u => exact .inr ⟨u, hx u ha (ho u rfl), rfl⟩
      exact ⟨one x fun u e => by rw [e]; exact List.mem_append_left _ (by simp), one y fun u e => by rw [e]; exact List.mem_append_right _ (by simp)⟩
    refine seq_asg (y := wordsD hs N (wordsSolved (ofKind .wo ks) as)) (pe_call (pa_cons (pl .wo _ _ _) (pa_cons (pe_var rfl) pa_nil)) rfl fun P q => ⟨N, ofKind .wo ks, as, rfl, ofl _, fit.alen, ⟨fun s u v ha => ⟨?_, ?_⟩, fun s u w ha => ?_⟩, q⟩) ?_
    · exact of_in (.pair s u v) u ha List.mem_cons_self
    · exact of_in (.pair s u v) v ha (List.mem_cons_of_mem _ List.mem_cons_self)
    · exact of_in (.word s u w) u ha List.mem_cons_self
    · generalize numbersSolved (ofKind .nu ks) as = of at q ⊢
      generalize wordsSolved (ofKind .wo ks) as = ot at q ⊢
      cases of with
      | none => exact seq_if (b := true || false) (pt_or (b := true) (c := false) (pt_test (pe_bin (x := .none) (y := .none) (pe_var rfl) pe_c fun P q => q)) fun h => by cases h) (fun _ => ret_v pe_c q) fun h => by cases h
      | some f => cases ot with
        | none => exact seq_if (b := false || true) (pt_or (b := false) (c := true) (pt_test (pe_bin (x := dnD hs (fdE N f)) (y := .none) (pe_var rfl) pe_c fun P q => q)) fun _ => pt_test (pe_bin (x := .none) (y := .none) (pe_var rfl) pe_c fun P q => q)) (fun _ => ret_v pe_c q) fun h => by cases h
        | some t =>
          refine seq_if (b := false || false) (pt_or (b := false) (c := false) (pt_test (pe_bin (x := dnD hs (fdE N f)) (y := .none) (pe_var rfl) pe_c fun P q => q)) fun _ => pt_test (pe_bin (x := dnD hs (tdE N t)) (y := .none) (pe_var rfl) pe_c fun P q => q)) (fun h => by cases h) fun _ => ?_
          have q : Q (dnD hs (vuE N (ks.foldl (fun acc e => pt acc e.1 (valueOf f t e.1)) []))) μ := q
          refine ret_ ?_
          show wDcN hs _ _ _ _ _ _ _ _ _
          have pk := pi_keys (ρ := [some (frD N fr), some (asD N as), some (dnD hs (encF N l)), some (dnD hs (knE N ks)), none, some (dnD hs (fdE N f)), some (dnD hs (tdE N t))]) (μ := μ) (hs := hs) (kvs := knE N ks) (pe_var (i := 3) rfl)
          rw [show (knE N ks).map (fun e => kd e.1) = (ks.map (·.1)).map N.v from enc_keysD ks] at pk
          refine pk _ (comp_dcN N.v N.kk (fun u => Vu.d (valueOf f t u)) (fun u => [some (frD N fr), some (asD N as), some (dnD hs (encF N l)), some (dnD hs (knE N ks)), some (N.v u), some (dnD hs (fdE N f)), some (dnD hs (tdE N t))]) (ks.map (·.1)) [] _
            (fun x _ P q => q) (fun x _ => pe_var rfl) (fun x _ => ⟨_, rfl⟩) (fun x _ => N.okk _) (fun u hu => ?_) (sl' (by rw [List.length_map]; show 0 + ks.length < _; omega)) fun p2 hp2 => ?_)
          · have k1 := pe_nget1 (ρ := [some (frD N fr), some (asD N as), some (dnD hs (encF N l)), some (dnD hs (knE N ks)), some (N.v u), some (dnD hs (fdE N f)), some (dnD hs (tdE N t))]) (μ := μ) (hs := hs) (kvs := tdE N t) (k := N.kk u) (pe_var (i := 6) rfl) isD.data (pe_var (i := 4) rfl) rfl (N.okk _)
            have k2 := pe_nget2 (hs := hs) (kvs := fdE N f) (k := N.kk u) (pe_var (i := 5) rfl) isD.data (pe_var (i := 4) rfl) rfl (N.okk _) k1
            rw [lk_tdE, show lkN (fdE N f) (N.kk u) = _ from lk_fdE f (some u), val_d] at k2
            exact k2
          · have e1 : (ks.map (·.1)).foldl (fun acc x => putN acc (N.kk x) (Vu.d (valueOf f t x))) [] = vuE N (ks.foldl (fun acc e => pt acc e.1 (valueOf f t e.1)) []) := by
              have h := fold_enc (f := N.kk) (g := Vu.d) N.kk_inj (fun u => u) (valueOf f t) (ks.map (·.1)) []
              rw [List.foldl_map (f := fun e : Nat × Kd => e.1) (g := fun acc x => pt acc x (valueOf f t x))] at h
              exact h
            rw [e1]
            show (match updM μ p2 _ p2 with | some (.dcN hs kvs) => _ | _ => False)
            rw [updM_same]
            show Q _ (delM _ p2)
            rw [delM_upd hp2]
            exact q
end Am

set_option Elab.async false
set_option linter.all false
set_option maxRecDepth 100000
set_option maxHeartbeats 1000000
/-! Am11: solution, is_contradiction, contradiction, other_kinds, negations, settled. -/
namespace Am
open PySem L2 Dz

theorem b1_ {we : WE} {wb : WB} {ρ : Rho} {μ : Mh} {P : DV → Mh → Prop} (h : we ρ μ fun x μ1 => wb [x] μ1 P) : wB wb (wCons we wNil) ρ μ P := h
theorem vals_has {fr : Fr} {as : List Atm} {f : List (Nat × Vu)} (fit : Fits fr as) (h : valuesSolved fr as = some f) : ∀ u ∈ fr.map (·.1), (lk f u).isSome = true := by
  intro u hu
  have eq0 : valuesSolved fr as = if (kindsLeft fr as).any (fun e => e.2.isEmpty) then none else
      match numbersSolved (ofKind .nu (kindsOf (kindsLeft fr as))) as, wordsSolved (ofKind .wo (kindsOf (kindsLeft fr as))) as with
      | some f, some t => some ((kindsOf (kindsLeft fr as)).foldl (fun acc e => pt acc e.1 (valueOf f t e.1)) [])
      | _, _ => none := rfl
  rw [eq0] at h
  have lkeys := left_keys (as := as) (l := fr) fit.us
  split at h
  · cases h
  · split at h
    · rename_i f' t _ _
      have h := Option.some.inj h
      rw [← h]
      refine (has_fold (fun e : Nat × Kd => e.1) (fun e => valueOf f' t e.1) u _ []).mpr (.inr ?_)
      exact kinds_keys.mpr (by rw [lkeys]; exact hu)
    · cases h
def valD' (N : Names) (l : List (Nat × Vu)) : DV := .tup (l.map fun e => .tup [N.v e.1, e.2.d])
def solD (N : Names) : Option (List (Nat × Vu)) → DV
  | some l => valD' N l
  | none => .none
def wfSol (hs : NestedKey → Int) : WF := fun ds μ Q => ∃ (N : Names) (fr : Fr) (as : List Atm), ds = [frD N fr, asD N as] ∧ Fits fr as ∧ (∀ e ∈ fr, e.2.length ≤ 10) ∧ Q (solD N (solution fr as)) μ
theorem p_solution {hs : NestedKey → Int} (ds : List DV) (μ : Mh) (Q : DV → Mh → Prop) (hl : ds.length = 2) (h : wfSol hs ds μ Q) : w_solution hs (wfValues hs) { nx := fun _ μ' => Q .none μ', rt := Q } (ds.map some ++ List.replicate 3 none) μ := by
  obtain ⟨N, fr, as, rfl, fit, sm, q⟩ := h
  unfold w_solution
  refine seq_asg (y := valsD hs N (valuesSolved fr as)) (pe_call (pa_cons (pe_var rfl) (pa_cons (pe_var rfl) pa_nil)) rfl fun P q => ⟨N, fr, as, rfl, fit, sm, q⟩) ?_
  unfold solution at q
  have hhas := fun f => vals_has (f := f) fit
  generalize valuesSolved fr as = o at q hhas ⊢
  cases o with
  | none => exact ret_v (pe_if (b := true) (pt_test (pe_bin (x := .none) (y := .none) (pe_var rfl) pe_c fun P q => q)) (fun _ => pe_c) fun h => by cases h) q
  | some f =>
    have hh := hhas f rfl
    refine ret_v (y := valD' N (fr.map fun e : Nat × List Kd => (e.1, (lk f e.1).getD .non))) (pe_if (b := false) (pt_test (pe_bin (x := dnD hs (vuE N f)) (y := .none) (pe_var rfl) pe_c fun P q => q)) (fun h => by cases h) fun _ => ?_) q
    have k := pe_lc (ρ := [some (frD N fr), some (asD N as), some (dnD hs (vuE N f)), none, none]) (μ := μ) (g := wgTup 2 (wgCons (wgName 3) (wgCons (wgName 4) wgNil))) (ws := sTup (wVar 0)) (t := wYes) (e := wTup (wCons (wVar 3) (wCons (wBin (wNGetA hs) (wVar 2) (wVar 3)) wNil))) (vs := [3, 4])
      (fun e : Nat × List Kd => .tup [N.v e.1, kindsD e.2]) fr (fun _ => true) (fun e => .tup [N.v e.1, Vu.d ((lk f e.1).getD .non)]) (fun e => [some (frD N fr), some (asD N as), some (dnD hs (vuE N f)), some (N.v e.1), some (kindsD e.2)])
      (pi_tup (pe_var rfl)) (sl (by have := fit.len; omega)) (fun x _ P q => ⟨rfl, rfl, q⟩) (fun x _ => pt_yes) fun e he _ => ?_
    · rw [List.filter_eq_self.mpr fun _ _ => rfl] at k
      refine pe_b (pa_cons k pa_nil) fun P q => ?_
      have e : valD' N (fr.map fun e => (e.1, (lk f e.1).getD .non)) = .tup (fr.map fun e => .tup [N.v e.1, Vu.d ((lk f e.1).getD .non)]) := by
        unfold valD'
        rw [List.map_map]
        rfl
      rw [e] at q
      exact q
    · obtain ⟨v, hv⟩ := Option.isSome_iff_exists.mp (hh e.1 (List.mem_map_of_mem he))
      rw [hv]
      exact pe_tup (pa_cons (pe_var rfl) (pa_cons (pe_ngetA (hs := hs) (kvs := vuE N f) (k := N.kk e.1) (pe_var rfl) isD.data (pe_var rfl) rfl (N.okk _) (by rw [show lkN (vuE N f) (N.kk e.1) = _ from lk_enc N.kk_inj e.1 f, hv]; rfl)) pa_nil)) (sl (Nat.le_of_ble_eq_true rfl))
def wfIsC : WF := fun ds μ Q => ∃ (N : Names) (fr : Fr) (as : List Atm), ds = [frD N fr, asD N as] ∧ Fits fr as ∧ (∀ e ∈ fr, e.2.length ≤ 10) ∧ Q (.bool (isContr fr as)) μ
theorem p_is_contradiction {hs : NestedKey → Int} (ds : List DV) (μ : Mh) (Q : DV → Mh → Prop) (hl : ds.length = 2) (h : wfIsC ds μ Q) : w_is_contradiction (wfValues hs) { nx := fun _ μ' => Q .none μ', rt := Q } (ds.map some ++ List.replicate 0 none) μ := by
  obtain ⟨N, fr, as, rfl, fit, sm, q⟩ := h
  unfold w_is_contradiction
  refine ret_v (y := .bool (isContr fr as)) (pe_bin (x := valsD hs N (valuesSolved fr as)) (y := .none) (pe_call (pa_cons (pe_var rfl) (pa_cons (pe_var rfl) pa_nil)) rfl fun P q => ⟨N, fr, as, rfl, fit, sm, q⟩) pe_c fun P q => ?_) q
  unfold isContr at q
  cases e : valuesSolved fr as with
  | none => rw [e] at q; exact q
  | some f => rw [e] at q; exact q

/-! ### contradiction -/
theorem fits_sub {fr : Fr} {as bs : List Atm} (fit : Fits fr as) (h : ∀ b ∈ bs, b ∈ as) (hl : bs.length ≤ 1000) : Fits fr bs := ⟨fit.nd, fit.len, hl, fun a ha u hu => fit.us a (h a ha) u hu⟩
theorem once_keys : ∀ (as : List Atm) (acc : List (Atm × Bool)), (as.foldl (fun acc a => pt acc a true) acc).map (·.1) = as.foldl (fun acc a => if a ∈ acc then acc else acc ++ [a]) (acc.map (·.1))
  | [], acc => rfl
  | a :: as, acc => by
    rw [List.foldl_cons, List.foldl_cons, once_keys as]
    by_cases c : a ∈ acc.map (·.1)
    · rw [if_pos c, pt_keys _ (lk_isSome.mpr c)]
    · rw [if_neg c]
      unfold pt
      rw [if_neg fun z => c (lk_isSome.mp z), List.map_append]
      rfl
theorem once_mem {as : List Atm} : ∀ a ∈ once as, a ∈ as := by
  have go : ∀ (bs acc : List Atm), (∀ a ∈ bs, a ∈ as) → (∀ a ∈ acc, a ∈ as) → ∀ a ∈ bs.foldl (fun acc a => if a ∈ acc then acc else acc ++ [a]) acc, a ∈ as := by
    intro bs
    induction bs with
    | nil => intro acc _ h; exact h
    | cons b bs ih =>
      intro acc h1 h2
      rw [List.foldl_cons]
      refine ih _ (fun a ha => h1 a (List.mem_cons_of_mem _ ha)) ?_
      split
      · exact h2
      · intro a ha
        rcases List.mem_append.mp ha with ha | ha
        · exact h2 a ha
        · rw [List.mem_singleton] at ha
          rw [ha]
          exact h1 b List.mem_cons_self
  exact go as [] (fun a ha => ha) fun a ha => by cases ha
theorem once_len {as : List Atm} : (once as).length ≤ as.length := by
  have e := once_keys as []
  have h := congrArg List.length e
  rw [List.length_map] at h
  have h2 := len_fold (A := Bool) (fun a : Atm => a) (fun _ => true) as []
  have h : (as.foldl (fun acc a => pt acc a true) ([] : List (Atm × Bool))).length = (once as).length := h
  have h2 : (as.foldl (fun acc a => pt acc a true) ([] : List (Atm × Bool))).length ≤ 0 + as.length := h2
  omega
def contD (N : Names) : Option (List Atm) → DV
  | some l => asD N l
  | none => .none
def wfCont : WF := fun ds μ Q => ∃ (N : Names) (fr : Fr) (as : List Atm), ds = [frD N fr, asD N as] ∧ Fits fr as ∧ (∀ e ∈ fr, e.2.length ≤ 10) ∧ (∀ a ∈ as, a.ok) ∧ Q (contD N (contradiction fr as)) μ
section
variable {ρ : Rho} {μ : Mh} {wa wb : WE} {N : Names}
theorem pe_neA {a b : Atm} (oa : a.ok) (ob : b.ok) (ha : PEv wa ρ μ (a.d N)) (hb : PEv wb ρ μ (b.d N)) : PEv (wBin wNeL wa wb) ρ μ (.bool (!decide (a = b))) := by
  have h := pe_neK (j := a.k N) (k := b.k N) rfl rfl (Atm.okk oa) (Atm.okk ob) ha hb
  have e : decide (a.k N = b.k N) = decide (a = b) := by
    by_cases c : a = b
    · rw [decide_eq_true c, decide_eq_true (congrArg (Atm.k N) c)]
    · rw [decide_eq_false c, decide_eq_false fun z => c (Atm.k_inj z)]
  rw [e] at h
  exact h
end
theorem p_contradiction {hs : NestedKey → Int} (ds : List DV) (μ : Mh) (Q : DV → Mh → Prop) (hl : ds.length = 2) (h : wfCont ds μ Q) : w_contradiction hs wfIsC { nx := fun _ μ' => Q .none μ', rt := Q } (ds.map some ++ List.replicate 4 none) μ := by
  obtain ⟨N, fr, as, rfl, fit, sm, ok, q⟩ := h
  unfold w_contradiction
  show wSeq _ _ _ _ _
  unfold contradiction at q
  refine seq_if (pt_not (pt_test (pe_call (z := .bool (isContr fr as)) (pa_cons (pe_var rfl) (pa_cons (pe_var rfl) pa_nil)) rfl fun P q => ⟨N, fr, as, rfl, fit, sm, q⟩))) (fun c => ?_) fun c => ?_
  · have e : isContr fr as = false := by
      cases z : isContr fr as with
      | false => rfl
      | true => rw [z] at c; cases c
    rw [e, if_neg Bool.false_ne_true] at q
    exact ⟨NewN.refl, q⟩
  · have e : isContr fr as = true := by
      cases z : isContr fr as with
      | true => rfl
      | false => rw [z] at c; cases c
    rw [e, if_pos rfl] at q
    refine seq_ (b1_ ?_)
    have al := fit.alen
    refine pi_tup (ds := as.map (Atm.d N)) (pe_var rfl) _ (comp_dcN (Atm.d N) (Atm.k N) (fun _ => .bool true) (fun a => [some (frD N fr), some (asD N as), none, some (a.d N), none, none]) as [] _
      (fun x _ P q => q) (fun x _ => pe_var rfl) (fun x _ => ⟨_, rfl⟩) (fun x hx => Atm.okk (ok x hx)) (fun x _ => pe_c) (sl' (by show 0 + as.length < _; omega)) fun p hp => ?_)
    have e0 : as.foldl (fun acc x => putN acc (Atm.k N x) (.bool true)) [] = enc (Atm.k N) DV.bool (as.foldl (fun acc a => pt acc a true) []) := fold_enc (f := Atm.k N) (g := DV.bool) (fun a b h => Atm.k_inj h) (fun a => a) (fun _ => true) as []
    rw [e0]
    refine nDct_in (isD.obj updM_same) ?_
    have e1 : (enc (Atm.k N) DV.bool (as.foldl (fun acc a => pt acc a true) [])).map (fun e => kd e.1) = (once as).map (Atm.d N) := by
      have h := once_keys as []
      show _ = (as.foldl _ (([] : List (Atm × Bool)).map (·.1))).map (Atm.d N)
      rw [← h]
      unfold enc
      rw [List.map_map, List.map_map]
      rfl
    rw [e1]
    generalize hμ1 : updM μ p (.dcN hs (enc (Atm.k N) DV.bool (as.foldl (fun acc a => pt acc a true) []))) = μ1
    have hn : NewN μ μ1 := by
      rw [← hμ1]
      exact NewN.refl.upd hp (by intro z; cases z)
    have ol := once_len (as := as)
    let R : List Atm → Rho → Mh → Prop := fun l ρ μ' => (∃ x3 x4 x5, ρ = [some (frD N fr), some (asD N as), some (.lst (l.map (Atm.d N))), x3, x4, x5]) ∧ μ' = μ1 ∧ (∀ a ∈ l, a ∈ as) ∧ l.length ≤ 1000
    refine seq_for (xs := (once as).map (Atm.d N)) (pi_lst (pe_b (pa_cons (x := .lst ((once as).map (Atm.d N))) (pe_var rfl) pa_nil) fun P q => q)) (for_fold (Atm.d N) (least fr) R (once as) (once as) _ _ (fun a ha l ρ μ' F hR _ _ hnx _ => ?_) ⟨⟨none, none, none, rfl⟩, rfl, once_mem, by omega⟩ fun ρ' μ' hR => ?_)
    · obtain ⟨⟨x3, x4, x5, rfl⟩, rfl, hin, hlen⟩ := hR
      have k := pe_lc (ρ := [some (frD N fr), some (asD N as), some (.lst (l.map (Atm.d N))), some (a.d N), x4, x5]) (μ := μ') (g := wgName 5) (ws := sLst (wVar 2)) (t := wTest (wBin wNeL (wVar 5) (wVar 3))) (e := wVar 5) (vs := [5])
        (Atm.d N) l (fun one => !decide (one = a)) (Atm.d N) (fun b => [some (frD N fr), some (asD N as), some (.lst (l.map (Atm.d N))), some (a.d N), x4, some (b.d N)]) (pi_lst (pe_var rfl)) (sl (by omega)) (fun x _ P q => q)
        (fun x hx => pt_test (pe_neA (ok x (hin x hx)) (ok a (once_mem a ha)) (pe_var (i := 5) rfl) (pe_var (i := 3) rfl))) fun x _ _ => pe_var (i := 5) rfl
      refine seq_asg k ?_
      have hfl : (l.filter fun one => !decide (one = a)).length ≤ 1000 := Nat.le_trans (List.length_filter_le _ _) hlen
      have hfi : ∀ b ∈ l.filter (fun one => !decide (one = a)), b ∈ as := fun b hb => hin b (List.mem_filter.mp hb).1
      refine ifs_v (b := isContr fr (l.filter fun one => !decide (one = a))) (pt_test (pe_call (pa_cons (pe_var rfl) (pa_cons (pe_b (z := asD N (l.filter fun one => !decide (one = a))) (pa_cons (pe_var rfl) pa_nil) fun P q => q) pa_nil)) rfl fun P q => ⟨N, fr, _, rfl, fits_sub fit hfi hfl, sm, q⟩)) (fun c => ?_) fun c => ?_
      · have el : least fr l a = l.filter fun one => !decide (one = a) := by unfold least; rw [if_pos c]
        refine asg_last (pe_var (i := 4) rfl) (hnx _ _ ?_)
        rw [el]
        exact ⟨⟨_, _, _, rfl⟩, rfl, hfi, hfl⟩
      · have el : least fr l a = l := by unfold least; rw [c]; exact if_neg Bool.false_ne_true
        refine hnx _ _ ?_
        rw [el]
        exact ⟨⟨_, _, _, rfl⟩, rfl, hin, hlen⟩
    · obtain ⟨⟨x3, x4, x5, rfl⟩, rfl, hin, hlen⟩ := hR
      dsimp only
      exact ret_v (y := asD N ((once as).foldl (least fr) (once as))) (pe_b (pa_cons (pe_var rfl) pa_nil) fun P q => q) ⟨hn, q⟩

/-! ### other_kinds, negations, settled -/
def wfOther : WF := fun ds μ Q => ∃ (N : Names) (u : Nat) (k : Kd), ds = [N.v u, .str k.s] ∧ Q (.lst ((otherKinds u k).map (Atm.d N))) μ
theorem p_other_kinds (ds : List DV) (μ : Mh) (Q : DV → Mh → Prop) (hl : ds.length = 2) (h : wfOther ds μ Q) : w_other_kinds { nx := fun _ μ' => Q .none μ', rt := Q } (ds.map some ++ List.replicate 1 none) μ := by
  obtain ⟨N, u, k, rfl, q⟩ := h
  unfold w_other_kinds
  refine ret_v (y := .lst ((otherKinds u k).map (Atm.d N))) (pe_if (b := false) (pt_test (pe_eqU (N := N) (a := some u) (b := none) (pe_var rfl) pe_c)) (fun h => by cases h) fun _ => ?_) q
  have kk := pe_lc (ρ := [some (N.v u), some (.str k.s), none]) (μ := μ) (g := wgName 2) (ws := sTup (wC (.tup [(.str "nothing"), (.str "number"), (.str "word")]))) (t := wTest (wBin wNeL (wVar 2) (wVar 1))) (e := wTup (wCons (wC (.str "kind")) (wCons (wVar 0) (wCons (wVar 2) wNil)))) (vs := [2])
    (fun j : Kd => .str j.s) [Kd.no, .nu, .wo] (fun j => !decide (j = k)) (fun j => Atm.d N (.kind u j)) (fun j => [some (N.v u), some (.str k.s), some (.str j.s)]) (pi_tup (pe_c (y := .tup [(.str "nothing"), (.str "number"), (.str "word")]))) (sl (Nat.le_of_ble_eq_true rfl)) (fun x _ P q => q)
    (fun j _ => pt_test (pe_strN (pe_var rfl) (pe_var rfl) (by
      by_cases e : j = k
      · rw [decide_eq_true e, decide_eq_true (congrArg Kd.s e)]
      · rw [decide_eq_false e, decide_eq_false fun z => e (Kd.s_inj z)]))) fun j _ _ => pe_tup (pa_cons pe_c (pa_cons (pe_var rfl) (pa_cons (pe_var rfl) pa_nil))) (sl (Nat.le_of_ble_eq_true rfl))
  have e : ([Kd.no, .nu, .wo].filter fun j => !decide (j = k)).map (fun j => Atm.d N (.kind u j)) = (otherKinds u k).map (Atm.d N) := by
    unfold otherKinds
    rw [List.map_map]
    rfl
  rw [e] at kk
  exact kk
section
variable {ρ : Rho} {μ : Mh}
/-- [e for x in ws for y in ws1], nothing made -/
theorem pe_lc2 {α β : Type} {g g1 : WG} {ws ws1 : WI} {e : WE} {vs vs1 : List Nat} (d : α → DV) (l : List α) (d1 : β → DV) (l1 : α → List β) (ff : α → β → DV) (r : α → Rho) (r1 : α → β → Rho) (hw : PIv ws ρ μ (l.map d)) (hl : (l.flatMap fun x => (l1 x).map (ff x)).length ≤ sizeLine)
    (hg : ∀ x ∈ l, ∀ P : Rho → Prop, P (r x) → g (d x) (wipeD ρ vs) P) (hw1 : ∀ x ∈ l, PIv ws1 (r x) μ ((l1 x).map d1)) (hg1 : ∀ x ∈ l, ∀ y ∈ l1 x, ∀ P : Rho → Prop, P (r1 x y) → g1 (d1 y) (wipeD (r x) vs1) P) (he : ∀ x ∈ l, ∀ y ∈ l1 x, PEv e (r1 x y) μ (ff x y)) :
    PEv (wLc2 ws g wYes ws1 g1 wYes e vs vs1) ρ μ (.lst (l.flatMap fun x => (l1 x).map (ff x))) := fun P q => by
  refine hw _ ?_
  have inner : ∀ (x : α) (ys : List β) (acc : List DV) (P : List DV → Mh → Prop), (∀ y ∈ ys, ∀ P : Rho → Prop, P (r1 x y) → g1 (d1 y) (wipeD (r x) vs1) P) → (∀ y ∈ ys, PEv e (r1 x y) μ (ff x y)) → acc.length + ys.length ≤ sizeLine → P (acc ++ ys.map (ff x)) μ → compW g1 wYes e (wipeD (r x) vs1) (ys.map d1) acc μ P := by
    intro x ys
    induction ys with
    | nil =>
      intro acc P _ _ _ q
      have q' : P (acc ++ []) μ := q
      rw [List.append_nil] at q'
      exact q'
    | cons y ys ih =>
      intro acc P h1 h2 h3 q
      rw [List.length_cons] at h3
      refine h1 y List.mem_cons_self _ (h2 y List.mem_cons_self _ ⟨by omega, ?_⟩)
      refine ih (acc ++ [ff x y]) P (fun z hz => h1 z (List.mem_cons_of_mem _ hz)) (fun z hz => h2 z (List.mem_cons_of_mem _ hz)) (by rw [List.length_append]; simp; omega) ?_
      rw [List.append_assoc]
      exact q
  have go : ∀ (l : List α) (acc : List DV) (P : List DV → Mh → Prop), (∀ x ∈ l, ∀ P : Rho → Prop, P (r x) → g (d x) (wipeD ρ vs) P) → (∀ x ∈ l, PIv ws1 (r x) μ ((l1 x).map d1)) → (∀ x ∈ l, ∀ y ∈ l1 x, ∀ P : Rho → Prop, P (r1 x y) → g1 (d1 y) (wipeD (r x) vs1) P) → (∀ x ∈ l, ∀ y ∈ l1 x, PEv e (r1 x y) μ (ff x y)) →
      acc.length + (l.flatMap fun x => (l1 x).map (ff x)).length ≤ sizeLine → P (acc ++ l.flatMap fun x => (l1 x).map (ff x)) μ → compW2 g wYes ws1 g1 wYes e vs1 (wipeD ρ vs) (l.map d) acc μ P := by
    intro l
    induction l with
    | nil =>
      intro acc P _ _ _ _ _ q
      have q' : P (acc ++ []) μ := q
      rw [List.append_nil] at q'
      exact q'
    | cons x l ih =>
      intro acc P h1 h2 h3 h4 h5 q
      rw [List.flatMap_cons, List.length_append, List.length_map] at h5
      rw [List.flatMap_cons] at q
      refine h1 x List.mem_cons_self _ (h2 x List.mem_cons_self _ (inner x (l1 x) acc _ (h3 x List.mem_cons_self) (h4 x List.mem_cons_self) (by omega) ?_))
      refine ih _ P (fun z hz => h1 z (List.mem_cons_of_mem _ hz)) (fun z hz => h2 z (List.mem_cons_of_mem _ hz)) (fun z hz => h3 z (List.mem_cons_of_mem _ hz)) (fun z hz => h4 z (List.mem_cons_of_mem _ hz)) (by rw [List.length_append, List.length_map]; omega) ?_
      rw [List.append_assoc]
      exact q
  exact go l [] _ hg hw1 hg1 he (by simpa using hl) (by rw [List.nil_append]; exact q)
end
def wfNeg : WF := fun ds μ Q => ∃ (N : Names) (a : Atm), ds = [a.d N] ∧ Q (.lst ((negations a).map (Atm.d N))) μ
theorem other_len (u : Nat) (k : Kd) : (otherKinds u k).length ≤ 3 := by
  unfold otherKinds
  rw [List.length_map]
  exact List.length_filter_le _ _
theorem flat_len (us : List Nat) (k : Kd) : (us.flatMap fun u => otherKinds u k).length ≤ 3 * us.length := by
  induction us with
  | nil => exact Nat.le_refl _
  | cons u us ih =>
    rw [List.flatMap_cons, List.length_append, List.length_cons]
    have := other_len u k
    omega
theorem us_len (a : Atm) : a.us.length ≤ 2 := by
  cases a with
  | most x y n => cases x <;> cases y <;> exact Nat.le_of_ble_eq_true rfl
  | _ => exact Nat.le_of_ble_eq_true rfl
theorem neg_rest {a : Atm} (h : ∀ u k, a ≠ .kind u k) : ∃ b, negations a = a.us.flatMap (fun u => otherKinds u a.ask) ++ [b] := by
  cases a with
  | kind u k => exact absurd rfl (h u k)
  | most x y n => exact ⟨_, rfl⟩
  | pair s u v => exact ⟨_, rfl⟩
  | word s u w => exact ⟨.word (!s) u w, by
      show otherKinds u .wo ++ _ = [u].flatMap (fun u => otherKinds u .wo) ++ _
      rw [List.flatMap_cons, List.flatMap_nil, List.append_nil]⟩
theorem p_negations (ds : List DV) (μ : Mh) (Q : DV → Mh → Prop) (hl : ds.length = 1) (h : wfNeg ds μ Q) : w_negations wfOther wfUnk wfKa { nx := fun _ μ' => Q .none μ', rt := Q } (ds.map some ++ List.replicate 3 none) μ := by
  obtain ⟨N, a, rfl, q⟩ := h
  unfold w_negations
  have p0 : ∀ x1 x2 x3 : Option DV, PEv (wVar 0) [some (a.d N), x1, x2, x3] μ (a.d N) := fun x1 x2 x3 => pe_var rfl
  have kf : PEv (wLc2 (sLst (wCall 1 wfUnk (wCons (wVar 0) wNil))) (wgName 2) wYes (sLst (wCall 2 wfOther (wCons (wVar 2) (wCons (wCall 1 wfKa (wCons (wVar 0) wNil)) wNil)))) (wgName 3) wYes (wVar 3) [2, 3] [3]) [some (a.d N), none, none, none] μ (.lst ((a.us.flatMap fun u => otherKinds u a.ask).map (Atm.d N))) := by
    have k := pe_lc2 (ρ := [some (a.d N), none, none, none]) (μ := μ) (g := wgName 2) (g1 := wgName 3) (ws := sLst (wCall 1 wfUnk (wCons (wVar 0) wNil))) (ws1 := sLst (wCall 2 wfOther (wCons (wVar 2) (wCons (wCall 1 wfKa (wCons (wVar 0) wNil)) wNil)))) (e := wVar 3) (vs := [2, 3]) (vs1 := [3])
      N.v a.us (Atm.d N) (fun u => otherKinds u a.ask) (fun _ b => b.d N) (fun u => [some (a.d N), none, some (N.v u), none]) (fun u b => [some (a.d N), none, some (N.v u), some (b.d N)])
      (pi_lst (pe_call (pa_cons (pe_var rfl) pa_nil) rfl fun P q => ⟨N, a, rfl, q⟩)) (by
        rw [← List.map_flatMap, List.length_map]
        have h1 := flat_len a.us a.ask
        have h2 := us_len a
        exact sl (by omega)) (fun x _ P q => q) (fun u _ => pi_lst (pe_call (pa_cons (pe_var rfl) (pa_cons (pe_call (z := .str a.ask.s) (pa_cons (pe_var rfl) pa_nil) rfl fun P q => ⟨N, a, rfl, q⟩) pa_nil)) rfl fun P q => ⟨N, u, a.ask, rfl, q⟩)) (fun x _ y _ P q => q) fun x _ y _ => pe_var rfl
    rw [← List.map_flatMap] at k
    exact k
  have fl : ((a.us.flatMap fun u => otherKinds u a.ask).map (Atm.d N)).length ≤ 6 := by
    rw [List.length_map]
    have h1 := flat_len a.us a.ask
    have h2 := us_len a
    omega
  have k1 : ∀ c : Bool, decide (a.word0 = "kind") = c → PTv (wTest (wBin wEqL (wBin wIx (wVar 0) (wC (.int 0))) (wC (.str "kind")))) [some (a.d N), none, none, none] μ c := fun c hc => pt_test (pe_str (pe_a0 (p0 _ _ _)) pe_c hc)
  have k2 : ∀ (x1 : Option DV) (c : Bool), decide (a.word0 = "most") = c → PTv (wTest (wBin wEqL (wBin wIx (wVar 0) (wC (.int 0))) (wC (.str "most")))) [some (a.d N), x1, none, none] μ c := fun x1 c hc => pt_test (pe_str (pe_a0 (p0 _ _ _)) pe_c hc)
  have fin : ∀ (b : Atm) (wb : WE), negations a = a.us.flatMap (fun u => otherKinds u a.ask) ++ [b] → PEv wb [some (a.d N), some (.lst ((a.us.flatMap fun u => otherKinds u a.ask).map (Atm.d N))), none, none] μ (b.d N) →
      PEv (wLst (wStar (wVar 1) (wCons wb wNil))) [some (a.d N), some (.lst ((a.us.flatMap fun u => otherKinds u a.ask).map (Atm.d N))), none, none] μ (.lst ((negations a).map (Atm.d N))) := fun b wb en hb => by
    rw [en, List.map_append]
    exact pe_lst (pa_starL (pe_var rfl) (pa_cons hb pa_nil)) (by rw [List.length_append]; exact sl (Nat.le_trans (Nat.add_le_add_right fl _) (Nat.le_of_ble_eq_true rfl)))
  have flip : ∀ (f : List (Str × DV)) (z : Str) (w : Str), lookD f z = some (.str w) → PEv (wBin wIx (wVar 0) (wC (.int 0))) [some (a.d N), some (.lst ((a.us.flatMap fun u => otherKinds u a.ask).map (Atm.d N))), none, none] μ (.str z) →
      PEv (wIxK f (wBin wIx (wVar 0) (wC (.int 0)))) [some (a.d N), some (.lst ((a.us.flatMap fun u => otherKinds u a.ask).map (Atm.d N))), none, none] μ (.str w) := fun f z w hz hp P q => hp _ (by
    show atW (lookD f z) _
    rw [hz]
    exact q)
  have pz := pe_a0 (p0 (some (.lst ((a.us.flatMap fun u => otherKinds u a.ask).map (Atm.d N)))) none none)
  cases a with
  | kind u k => exact seq_if (k1 true c_kk) (fun _ => ret_v (pe_call (z := .lst ((otherKinds u k).map (Atm.d N))) (pa_cons (x := N.v u) (pe_ixT (p0 _ _ _) pe_c rfl) (pa_cons (x := .str k.s) (pe_ixT (p0 _ _ _) pe_c rfl) pa_nil)) rfl fun P q => ⟨N, u, k, rfl, q⟩) q) fun h => by cases h
  | most x y n =>
    refine seq_if (k1 false c_mk) (fun h => by cases h) fun _ => seq_asg kf (seq_if (k2 _ true c_mm) (fun _ => ret_v (fin (.most y x (-n - 1)) _ rfl ?_) q) fun h => by cases h)
    exact pe_tup (pa_cons pe_c (pa_cons (pe_ixT (p0 _ _ _) pe_c rfl) (pa_cons (pe_ixT (p0 _ _ _) pe_c rfl) (pa_cons (pe_bin (x := .int (-n)) (y := .int 1) (fun P q => pe_ixT (y := .int n) (p0 _ _ _) pe_c rfl _ q) pe_c fun P q => q) pa_nil)))) (sl (Nat.le_of_ble_eq_true rfl))
  | pair s u v =>
    refine seq_if (k1 false (c_pk s)) (fun h => by cases h) fun _ => seq_asg kf (seq_if (k2 _ false (c_pm s)) (fun h => by cases h) fun _ => ret_v (fin (.pair (!s) u v) _ rfl ?_) q)
    exact pe_tup (pa_cons (flip _ (pairS s) (pairS (!s)) (by cases s <;> rfl) pz) (pa_cons (pe_ixT (p0 _ _ _) pe_c rfl) (pa_cons (pe_ixT (p0 _ _ _) pe_c rfl) pa_nil))) (sl (Nat.le_of_ble_eq_true rfl))
  | word s u w =>
    refine seq_if (k1 false (c_wk s)) (fun h => by cases h) fun _ => seq_asg kf (seq_if (k2 _ false (c_wm s)) (fun h => by cases h) fun _ => ret_v (fin (.word (!s) u w) _ ?_ ?_) q)
    · show otherKinds u .wo ++ _ = [u].flatMap (fun u => otherKinds u .wo) ++ _
      rw [List.flatMap_cons, List.flatMap_nil, List.append_nil]
    exact pe_tup (pa_cons (flip _ (wordS s) (wordS (!s)) (by cases s <;> rfl) pz) (pa_cons (pe_ixT (p0 _ _ _) pe_c rfl) (pa_cons (pe_ixT (p0 _ _ _) pe_c rfl) pa_nil))) (sl (Nat.le_of_ble_eq_true rfl))
def setD : Option Bool → DV
  | some b => .bool b
  | none => .none
def wfSettled : WF := fun ds μ Q => ∃ (N : Names) (fr : Fr) (as : List Atm) (t : Atm), ds = [frD N fr, asD N as, t.d N] ∧ Fits fr (as ++ [t]) ∧ (∀ e ∈ fr, e.2.length ≤ 10) ∧ Q (setD (settled fr as t)) μ
theorem neg_us {t o : Atm} (h : o ∈ negations t) : ∀ u ∈ o.us, u ∈ t.us := by
  have ot : ∀ u k, o ∈ otherKinds u k → o.us = [u] := fun u k hm => by
    unfold otherKinds at hm
    obtain ⟨z, _, rfl⟩ := List.mem_map.mp hm
    rfl
  have fl : ∀ (us : List Nat) (k : Kd), o ∈ us.flatMap (fun u => otherKinds u k) → ∀ u ∈ o.us, u ∈ us := fun us k hm u hu => by
    obtain ⟨v, hv, hm⟩ := List.mem_flatMap.mp hm
    rw [ot v k hm] at hu
    rw [List.mem_singleton.mp hu]
    exact hv
  cases t with
  | kind u k =>
    rw [ot u k h]
    exact fun v hv => hv
  | most x y n =>
    rcases List.mem_append.mp (show o ∈ (Atm.us (.most x y n)).flatMap (fun u => otherKinds u .nu) ++ [.most y x (-n - 1)] from h) with h | h
    · exact fl _ _ h
    · rw [List.mem_singleton.mp h]
      intro u hu
      rcases List.mem_append.mp hu with hu | hu
      · exact List.mem_append_right _ hu
      · exact List.mem_append_left _ hu
  | pair s u v =>
    rcases List.mem_append.mp (show o ∈ (Atm.us (.pair s u v)).flatMap (fun u => otherKinds u .wo) ++ [.pair (!s) u v] from h) with h | h
    · exact fl _ _ h
    · rw [List.mem_singleton.mp h]
      exact fun u hu => hu
  | word s u w =>
    rcases List.mem_append.mp (show o ∈ otherKinds u .wo ++ [.word (!s) u w] from h) with h | h
    · rw [ot u .wo h]
      exact fun v hv => hv
    · rw [List.mem_singleton.mp h]
      exact fun u hu => hu
theorem neg_len (t : Atm) : (negations t).length ≤ 7 := by
  have h1 := fun k => flat_len t.us k
  have h2 := us_len t
  cases t with
  | kind u k => exact Nat.le_trans (other_len u k) (by decide)
  | most x y n =>
    show (_ ++ [_]).length ≤ 7
    rw [List.length_append]
    have := h1 .nu
    show _ + 1 ≤ 7
    omega
  | pair s u v =>
    show (_ ++ [_]).length ≤ 7
    rw [List.length_append]
    have := h1 .wo
    show _ + 1 ≤ 7
    omega
  | word s u w =>
    show (otherKinds u .wo ++ [_]).length ≤ 7
    rw [List.length_append]
    have := other_len u .wo
    show _ + 1 ≤ 7
    omega
theorem p_settled (ds : List DV) (μ : Mh) (Q : DV → Mh → Prop) (hl : ds.length = 3) (h : wfSettled ds μ Q) : w_settled wfIsC wfNeg { nx := fun _ μ' => Q .none μ', rt := Q } (ds.map some ++ List.replicate 1 none) μ := by
  obtain ⟨N, fr, as, t, rfl, fit, sm, q⟩ := h
  unfold w_settled
  have hal : as.length + 1 ≤ 1000 := by
    have := fit.alen
    rw [List.length_append] at this
    exact this
  have fo : ∀ o : Atm, (∀ u ∈ o.us, u ∈ t.us) → Fits fr (as ++ [o]) := fun o ho => ⟨fit.nd, fit.len, by rw [List.length_append]; exact hal, fun a ha u hu => by
    rcases List.mem_append.mp ha with ha | ha
    · exact fit.us a (List.mem_append_left _ ha) u hu
    · rw [List.mem_singleton.mp ha] at hu
      exact fit.us t (List.mem_append_right _ List.mem_cons_self) u (ho u hu)⟩
  have call : ∀ (ρ : Rho) (i : Nat) (o : Atm), ρ[0]? = some (some (frD N fr)) → ρ[1]? = some (some (asD N as)) → ρ[i]? = some (some (o.d N)) → (∀ u ∈ o.us, u ∈ t.us) → PEv (wCall 2 wfIsC (wCons (wVar 0) (wCons (wTup (wStar (wVar 1) (wCons (wVar i) wNil))) wNil))) ρ μ (.bool (isContr fr (as ++ [o]))) := fun ρ i o r0 r1 ri ho => by
    refine pe_call (pa_cons (pe_var r0) (pa_cons (pe_tup (pa_starT (ds := as.map (Atm.d N)) (pe_var r1) (pa_cons (pe_var ri) pa_nil)) (by rw [List.length_append, List.length_map]; exact sl (by show as.length + 1 ≤ _; omega))) pa_nil)) rfl fun P q => ⟨N, fr, as ++ [o], ?_, fo o ho, sm, q⟩
    unfold asD
    rw [List.map_append]
    rfl
  unfold settled at q
  refine seq_if (pt_test (call [some (frD N fr), some (asD N as), some (t.d N), none] 2 t rfl rfl rfl fun u hu => hu)) (fun c => ?_) fun c => ?_
  · rw [c, if_pos rfl] at q
    exact ret_v pe_c q
  · rw [c, if_neg Bool.false_ne_true] at q
    have k := pe_lc (ρ := [some (frD N fr), some (asD N as), some (t.d N), none]) (μ := μ) (g := wgName 3) (ws := sLst (wCall 1 wfNeg (wCons (wVar 2) wNil))) (t := wYes) (e := wCall 2 wfIsC (wCons (wVar 0) (wCons (wTup (wStar (wVar 1) (wCons (wVar 3) wNil))) wNil))) (vs := [3])
      (Atm.d N) (negations t) (fun _ => true) (fun o => .bool (isContr fr (as ++ [o]))) (fun o => [some (frD N fr), some (asD N as), some (t.d N), some (o.d N)]) (pi_lst (pe_call (pa_cons (pe_var rfl) pa_nil) rfl fun P q => ⟨N, t, rfl, q⟩)) (sl (Nat.le_trans (neg_len t) (by decide))) (fun x _ P q => q) (fun x _ => pt_yes)
      fun o ho _ => call [some (frD N fr), some (asD N as), some (t.d N), some (o.d N)] 3 o rfl rfl rfl (neg_us ho)
    rw [List.filter_eq_self.mpr fun _ _ => rfl] at k
    refine seq_if (b := (negations t).all fun o => isContr fr (as ++ [o])) (pt_test (pe_b (pa_cons k pa_nil) fun P q => ?_)) (fun c => ?_) fun c => ?_
    · refine ⟨(negations t).map fun o => isContr fr (as ++ [o]), by rw [List.map_map]; rfl, ?_⟩
      have e : ((negations t).map fun o => isContr fr (as ++ [o])).all id = (negations t).all fun o => isContr fr (as ++ [o]) := by
        rw [List.all_map]
        rfl
      rw [e]
      exact q
    · rw [c, if_pos rfl] at q
      exact ret_v pe_c q
    · rw [c, if_neg Bool.false_ne_true] at q
      exact ret_v pe_c q
end Am

set_option Elab.async false
set_option linter.all false
set_option maxRecDepth 100000
set_option maxHeartbeats 1000000
/-! Am12: the law's unknowns: names of three forms, sorted. -/
namespace Am
open PySem L2 Dz

def w_law_unknowns (f_law_draw : WF) : WS :=
  (wSeq (wPar 2 3 (wCons (wCall 2 f_law_draw (wCons (wVar 0) (wCons (wC (.int 3)) wNil))) (wCons (wCall 2 f_law_draw (wCons (wVar 0) (wCons (wC (.int 26)) wNil))) wNil)))
    (wSeq (wPar 4 5 (wCons (wLst (wCons (wC (.str "less")) (wCons (wC (.str "most")) (wCons (wC (.str "kind")) (wCons (wC (.str "a")) (wCons (wC (.str "b")) (wCons (wC (.str "other")) (wCons (wC (.str "same")) (wCons (wC (.str "zzzzzzz")) wNil))))))))) (wCons (wC (.str "abcdefghijklmnopqrstuvwxyz")) wNil)))
    (wSeq (wAsg (wLstM wNil) (wgName 6))
    (wSeq (wFor (sRng1 (wVar 1)) (wgName 7) (wSeq (wAsg (wBin wAdd (wBin wIx (wVar 4) (wBin wMod (wBin wAdd (wVar 3) (wVar 7)) (wC (.int 8)))) (wBin wIx (wVar 5) (wBin wMod (wBin wAdd (wVar 3) (wBin wDiv (wVar 7) (wC (.int 8)))) (wC (.int 26))))) (wgName 8))
    (wDrop (wApp (wVar 6) (wBin wIx (wLst (wCons (wTup (wCons (wVar 8) wNil)) (wCons (wTup (wCons (wVar 8) (wCons (wBin wIx (wVar 4) (wBin wMod (wVar 7) (wC (.int 3)))) wNil))) (wCons (wTup (wCons (wBin wIx (wVar 4) (wBin wMod (wVar 7) (wC (.int 2)))) (wCons (wBin wSub (wBin wAdd (wVar 3) (wBin wDiv (wVar 7) (wC (.int 2)))) (wC (.int 9))) (wCons (wC (.str "price")) wNil)))) wNil)))) (wVar 2))))))
    (wRet (wB wSorted (wCons (wVar 6) wNil)))))))

/-! ### the order of data -/
theorem lexOne (p : Int ⊕ List Nat) : PyProof.Rows.lexLt PyProof.Rows.itemOrd [] [p] = true := rfl
theorem leD_antisymm {a b : DV} (al : PySem.W.alike (toPy a) (toPy b) = true) (h1 : leD a b = true) (h2 : leD b a = true) : deepEq a b = true := by
  cases e : deepEq a b with
  | true => rfl
  | false =>
    exfalso
    have e : PyData.eqv (toPy a) (toPy b) = false := e
    have t := (PySem.W.toks_eqv (toPy a) (toPy b) al).2 e
    have k1 : PyProof.Rows.lexLt PyProof.Rows.itemOrd (PySem.W.keyToks (toPy b)) (PySem.W.keyToks (toPy a)) = false := by
      unfold leD at h1
      rw [Bool.not_eq_true'] at h1
      exact h1
    have k2 : PyProof.Rows.lexLt PyProof.Rows.itemOrd (PySem.W.keyToks (toPy a)) (PySem.W.keyToks (toPy b)) = false := by
      unfold leD at h2
      rw [Bool.not_eq_true'] at h2
      exact h2
    have eq := PyProof.Rows.lex_total (O := PyProof.Rows.itemOrd) _ _ k2 k1
    have z := t [] [Sum.inl 0]
    rw [k2, ← eq, PySem.W.lex_pre] at z
    cases z
/-- the first ones decide -/
theorem leD_pair {x y x' y' : DV} (al : PySem.W.alike (toPy x') (toPy x) = true) (al2 : PySem.W.alike (toPy y') (toPy y) = true) (ne : deepEq x' x = false) : leD (.tup [x, y]) (.tup [x', y']) = leD x x' := by
  unfold leD
  show (!PySem.W.dataLt (.tuple [toPy x', toPy y']) (.tuple [toPy x, toPy y])) = _
  rw [PySem.W.dataLt_pair al al2, show PyData.eqv (toPy x') (toPy x) = false from ne]
  rfl
theorem perm_map_inv {α β : Type} {f : α → β} : ∀ {xs ys : List β}, xs.Perm ys → ∀ l : List α, xs = l.map f → ∃ l', l.Perm l' ∧ ys = l'.map f := by
  intro xs ys p
  induction p with
  | nil =>
    intro l h
    cases l with
    | nil => exact ⟨[], .nil, rfl⟩
    | cons _ _ => cases h
  | cons x p ih =>
    intro l h
    cases l with
    | nil => cases h
    | cons a l =>
      injection h with h1 h2
      obtain ⟨l', p', e⟩ := ih l h2
      exact ⟨a :: l', .cons a p', by rw [List.map_cons, e, h1]⟩
  | swap x y xs =>
    intro l h
    cases l with
    | nil => cases h
    | cons a l => cases l with
      | nil => cases h
      | cons b l =>
        injection h with h1 h2
        injection h2 with h2 h3
        exact ⟨b :: a :: l, .swap b a l, by rw [List.map_cons, List.map_cons, h1, h2, h3]⟩
  | trans p1 p2 ih1 ih2 =>
    intro l h
    obtain ⟨l1, q1, e1⟩ := ih1 l h
    obtain ⟨l2, q2, e2⟩ := ih2 l1 e1
    exact ⟨l2, q1.trans q2, e2⟩

/-! ### names of three forms -/
def wdL : List Str := ["less", "most", "kind", "a", "b", "other", "same", "zzzzzzz"]
def wdAt (n : Nat) : Str := wdL.getD n Str.empty
def nm (first k : Nat) : Str := wdAt ((first + k) % 8) ++ letter ((first + k / 8) % 26)
def nameL (way first k : Nat) : List NestedKey := match way with
  | 0 => [.text (nm first k)]
  | 1 => [.text (nm first k), .text (wdAt (k % 3))]
  | _ => [.text (wdAt (k % 2)), .num (((first + k / 2 : Nat) : Int) - 9), .text "price"]
theorem wd_inj : ∀ a b : Fin 8, wdAt a.val = wdAt b.val → a = b := by decide +kernel
theorem wd_ok : ∀ a : Fin 8, PyData.strOk (wdAt a.val) = true := by decide +kernel
theorem wd_small : ∀ a : Fin 8, (wdAt a.val).length ≤ 10 := by decide +kernel
theorem lt_ok : ∀ a : Fin 26, PyData.strOk (letter a.val) = true := by decide +kernel
theorem app_inj {a b : Str} {c d : Nat} (h : a ++ letter c = b ++ letter d) : a = b ∧ ltr c = ltr d := by
  have e : (a ++ letter c).cps.toList = (b ++ letter d).cps.toList := by rw [h]
  have e : (a.cps ++ #[ltr c]).toList = (b.cps ++ #[ltr d]).toList := e
  rw [Array.toList_append, Array.toList_append] at e
  have e : a.cps.toList ++ [ltr c] = b.cps.toList ++ [ltr d] := e
  obtain ⟨e1, e2⟩ := List.append_inj' e rfl
  refine ⟨?_, by injection e2⟩
  cases a with
  | mk x => cases b with
    | mk y => exact congrArg Str.mk (Array.toList_inj.mp e1)
theorem nm_inj {first j k : Nat} (hj : j < 200) (hk : k < 200) (h : nm first j = nm first k) : j = k := by
  obtain ⟨h1, h2⟩ := app_inj h
  have e1 := wd_inj ⟨(first + j) % 8, Nat.mod_lt _ (by decide)⟩ ⟨(first + k) % 8, Nat.mod_lt _ (by decide)⟩ h1
  have e2 := ltr_inj ⟨(first + j / 8) % 26, Nat.mod_lt _ (by decide)⟩ ⟨(first + k / 8) % 26, Nat.mod_lt _ (by decide)⟩ h2
  rw [Fin.mk.injEq] at e1 e2
  omega
theorem name_inj {way first j k : Nat} (hj : j < 200) (hk : k < 200) (h : nameL way first j = nameL way first k) : j = k := by
  unfold nameL at h
  split at h
  · exact nm_inj hj hk (by simpa using h)
  · exact nm_inj hj hk (by injection h with h1 h2; injection h1)
  · injection h with h1 h2
    injection h1 with h1
    injection h2 with h2 h3
    injection h2 with h2
    have e1 := wd_inj ⟨j % 2, by omega⟩ ⟨k % 2, by omega⟩ h1
    rw [Fin.mk.injEq] at e1
    omega
theorem ok_app {a b : Str} (h1 : PyData.strOk a = true) (h2 : PyData.strOk b = true) : PyData.strOk (a ++ b) = true := by
  unfold PyData.strOk at *
  show (a.cps ++ b.cps).all _ = true
  rw [Array.all_append, h1, h2]
  rfl
theorem nm_ok (first k : Nat) : PyData.strOk (nm first k) = true := ok_app (wd_ok ⟨(first + k) % 8, Nat.mod_lt _ (by decide)⟩) (lt_ok ⟨(first + k / 8) % 26, Nat.mod_lt _ (by decide)⟩)
theorem name_ok (way first k : Nat) : (toPy (kd (.tup (nameL way first k)))).canLay0 = true ∧ (NestedKey.tup (nameL way first k)).depth ≤ 6 := by
  have lit : ∀ s : Str, PyData.strOk s = true → (toPy (kd (.text s))).canLay0 = true := fun s hs => hs
  unfold nameL
  split
  · refine ⟨?_, by show max 0 0 + 1 ≤ 6; decide⟩
    show PyData.canLayAll0 (toPys (kds [_])) = true
    rw [lays_cons, lit _ (nm_ok _ _)]
    rfl
  · refine ⟨?_, by show max 0 (max 0 0) + 1 ≤ 6; decide⟩
    show PyData.canLayAll0 (toPys (kds [_, _])) = true
    rw [lays_cons, lays_cons, lit _ (nm_ok _ _), lit _ (wd_ok ⟨k % 3, by omega⟩)]
    rfl
  · refine ⟨?_, by show max 0 (max 0 (max 0 0)) + 1 ≤ 6; decide⟩
    show PyData.canLayAll0 (toPys (kds [_, _, _])) = true
    rw [lays_cons, lays_cons, lays_cons, lit _ (wd_ok ⟨k % 2, by omega⟩), lit _ (by decide +kernel)]
    rfl
theorem name_ne (way first k : Nat) : nameL way first k ≠ [] := by
  unfold nameL
  split <;> exact List.cons_ne_nil _ _
theorem name_len (way first k : Nat) : (nameL way first k).length ≤ 3 := by
  unfold nameL
  split <;> exact Nat.le_of_ble_eq_true rfl
theorem name_alike (way first j k : Nat) : PySem.W.alike (toPy (kd (.tup (nameL way first j)))) (toPy (kd (.tup (nameL way first k)))) = true := by
  unfold nameL
  split <;> rfl
/-- the names at the places that l tells -/
def namesAt (way first : Nat) (l : List Nat) (nd : l.Nodup) (hl : ∀ k ∈ l, k < 200) : Names where
  ks := fun i => match l[i]? with
    | some k => nameL way first k
    | none => [.num i, .num i, .num i, .num i]
  inj := fun i j h => by
    cases ei : l[i]? with
    | some a => cases ej : l[j]? with
      | some b =>
        rw [ei, ej] at h
        have e := name_inj (hl a (List.mem_of_getElem? ei)) (hl b (List.mem_of_getElem? ej)) h
        subst e
        obtain ⟨h1, h2⟩ := List.getElem?_eq_some_iff.mp ei
        obtain ⟨h3, h4⟩ := List.getElem?_eq_some_iff.mp ej
        exact (List.getElem_inj nd).mp (h2.trans h4.symm)
      | none =>
        rw [ei, ej] at h
        have z := name_len way first a
        rw [show nameL way first a = _ from h] at z
        exact absurd (show (4 : Nat) ≤ 3 from z) (by decide)
    | none => cases ej : l[j]? with
      | some b =>
        rw [ei, ej] at h
        have z := name_len way first b
        rw [← show _ = nameL way first b from h] at z
        exact absurd (show (4 : Nat) ≤ 3 from z) (by decide)
      | none =>
        rw [ei, ej] at h
        injection h with h1 h2
        injection h1 with h1
        exact Int.ofNat.inj h1
  ne := fun i => by
    split
    · exact name_ne _ _ _
    · exact List.cons_ne_nil _ _
  ok := fun i => by
    split
    · exact name_ok _ _ _
    · exact ⟨rfl, by show max 0 (max 0 (max 0 (max 0 0))) + 1 ≤ 6; decide⟩
theorem names_map {way first : Nat} {l : List Nat} {nd : l.Nodup} {hl : ∀ k ∈ l, k < 200} : (List.range l.length).map (namesAt way first l nd hl).v = l.map fun k => kd (.tup (nameL way first k)) := by
  refine List.ext_getElem (by rw [List.length_map, List.length_map, List.length_range]) fun i h1 h2 => ?_
  rw [List.getElem_map, List.getElem_map, List.getElem_range]
  have hi : i < l.length := by rwa [List.length_map] at h2
  show kd (.tup (match l[i]? with | some k => nameL way first k | none => _)) = _
  rw [List.getElem?_eq_getElem hi]
/-- alike names that stand in order -/
structure Rise (N : Names) (many : Nat) : Prop where
  al : ∀ i j, i < many → j < many → PySem.W.alike (toPy (N.v i)) (toPy (N.v j)) = true
  le : ((List.range many).map N.v).Pairwise fun a b => leD a b = true

theorem atI_some {α : Type} {xs : List α} {n : Nat} {x : α} (h : xs[n]? = some x) : atI xs ((n : Nat) : Int) = some x := Qz.atI_of h
theorem wd_at {n : Nat} (h : n < 8) : (wdL.map DV.str)[n]? = some (.str (wdAt n)) := by
  rw [List.getElem?_map]
  have hl : n < wdL.length := h
  unfold wdAt
  rw [List.getD_eq_getElem?_getD, List.getElem?_eq_getElem hl]
  rfl
section
variable {ρ : Rho} {μ : Mh} {wa wb we : WE} {i : Nat} {E : DEnds} {p : Addr} {ds : List DV} {y : DV}
theorem pe_ixL {k : Int} (h : PEv wa ρ μ (.lst ds)) (hi : PEv wb ρ μ (.int k)) (e : atI ds k = some y) : PEv (wBin wIx wa wb) ρ μ y := fun P q => h _ (hi _ (by
  show atW (atI ds k) _
  rw [e]
  exact q))
theorem drop_app (h1 : ρ[i]? = some (some (.obj p))) (h : μ p = some (.lst ds)) (hw : PEv we ρ μ y) (l : ds.length < sizeLine) (k : E.nx ρ (updM μ p (.lst (ds ++ [y])))) : wDrop (wApp (wVar i) we) E ρ μ := by
  unfold wDrop wApp
  refine pe_var h1 _ ⟨?_, hw _ ?_⟩
  · unfold isLstM
    simp only [h]
  · show (match μ p with | some (.lst ds) => _ | _ => False)
    rw [h]
    exact ⟨l, k⟩
end
section
variable {ρ : Rho} {μ : Mh} {wa : WE} {wr : WA} {i j : Nat} {E : DEnds} {rest : WS} {PA : List DV → Mh → Prop}
theorem seq_par_two {wb : WE} (k : wa ρ μ fun x μ1 => wb ρ μ1 fun y μ2 => rest E ((ρ.set i (some x)).set j (some y)) μ2) : wSeq (wPar i j (wCons wa (wCons wb wNil))) rest E ρ μ := k
end
/-- a name that the law makes -/
def nmD (way first k : Nat) : DV := kd (.tup (nameL way first k))
def KpD (a c : Addr) (μ μ' : Mh) : Prop := ∀ b o, b ≠ a → b ≠ c → μ b = some o → μ' b = some o
def wfUnks : WF := fun ds μ Q => ∃ (a c : Addr) (m many : Nat), ds = [.obj a, .int many] ∧ many ≤ 200 ∧ HasDeck "total" μ a c (m + 2) ∧ ∀ (N : Names) μ', HasDeck "total" μ' a c m → KpD a c μ μ' → Rise N many → Q (.lst ((List.range many).map N.v)) μ'
theorem p_law_unknowns (ds : List DV) (μ : Mh) (Q : DV → Mh → Prop) (hl : ds.length = 2) (h : wfUnks ds μ Q) : w_law_unknowns (wfDraw "total") { nx := fun _ μ' => Q .none μ', rt := Q } (ds.map some ++ List.replicate 7 none) μ := by
  obtain ⟨a, c, m, many, rfl, hm, hd, q⟩ := h
  unfold w_law_unknowns
  refine seq_par_two ?_
  refine pa_cons (pe_var rfl) (pa_cons pe_c pa_nil) _ ⟨rfl, a, c, m + 1, 3, rfl, by decide, by decide, hd, fun r1 μ1 r1a r1b hd1 on1 => ?_⟩
  refine pa_cons (pe_var rfl) (pa_cons pe_c pa_nil) _ ⟨rfl, a, c, m, 26, rfl, by decide, by decide, hd1, fun r2 μ2 r2a r2b hd2 on2 => ?_⟩
  obtain ⟨way, rfl⟩ := Int.eq_ofNat_of_zero_le r1a
  obtain ⟨first, rfl⟩ := Int.eq_ofNat_of_zero_le r2a
  have hway : way < 3 := by omega
  show wSeq _ _ _ [some (.obj a), some (.int many), some (.int way), some (.int first), none, none, none, none, none] _
  refine seq_par (x := .lst (wdL.map .str)) (y := .str letters) (pa_cons (pe_lst (ys := wdL.map .str) (pa_cons pe_c (pa_cons pe_c (pa_cons pe_c (pa_cons pe_c (pa_cons pe_c (pa_cons pe_c (pa_cons pe_c (pa_cons pe_c pa_nil)))))))) (sl (Nat.le_of_ble_eq_true rfl))) (pa_cons pe_c pa_nil)) ?_
  refine seq_ ?_
  refine ⟨Nat.zero_le _, fun p hp => ?_⟩
  obtain ⟨⟨oa, ha⟩, oc, hc⟩ := hd2.isSome
  have pa : a ≠ p := fun z => by rw [z, hp] at ha; cases ha
  have pc : c ≠ p := fun z => by rw [z, hp] at hc; cases hc
  have go : ∀ (ks : List Nat) (l : List DV) (x7 x8 : Option DV), l.length + ks.length ≤ 1000 → (∀ k ∈ ks, k < 200) → sortW (l ++ ks.map (nmD way first)) μ2 (fun d _ => Q d (updM μ2 p (.lst (l ++ ks.map (nmD way first))))) →
      forW (wgName 7) (wSeq (wAsg (wBin wAdd (wBin wIx (wVar 4) (wBin wMod (wBin wAdd (wVar 3) (wVar 7)) (wC (.int 8)))) (wBin wIx (wVar 5) (wBin wMod (wBin wAdd (wVar 3) (wBin wDiv (wVar 7) (wC (.int 8)))) (wC (.int 26))))) (wgName 8))
        (wDrop (wApp (wVar 6) (wBin wIx (wLst (wCons (wTup (wCons (wVar 8) wNil)) (wCons (wTup (wCons (wVar 8) (wCons (wBin wIx (wVar 4) (wBin wMod (wVar 7) (wC (.int 3)))) wNil))) (wCons (wTup (wCons (wBin wIx (wVar 4) (wBin wMod (wVar 7) (wC (.int 2)))) (wCons (wBin wSub (wBin wAdd (wVar 3) (wBin wDiv (wVar 7) (wC (.int 2)))) (wC (.int 9))) (wCons (wC (.str "price")) wNil)))) wNil)))) (wVar 2)))))
        { nx := wRet (wB wSorted (wCons (wVar 6) wNil)) { nx := fun _ μ' => Q .none μ', rt := Q }, rt := Q } (ks.map fun k : Nat => .int (0 + (k : Int)))
        [some (.obj a), some (.int many), some (.int way), some (.int first), some (.lst (wdL.map .str)), some (.str letters), some (.obj p), x7, x8] (updM μ2 p (.lst l)) := by
    intro ks
    induction ks with
    | nil =>
      intro l x7 x8 _ _ hs
      rw [List.map_nil, List.append_nil] at hs
      rw [List.map_nil, forW]
      dsimp only
      refine ret_ (b1_ (pe_var (y := .obj p) rfl _ ?_))
      show (match updM μ2 p (.lst l) p with | some (.lst ds) => sortW ds _ _ | _ => False)
      rw [updM_same]
      exact hs
    | cons k ks ih =>
      intro l x7 x8 h1 h2 hs
      rw [List.length_cons] at h1
      rw [List.map_cons, forW]
      have hk := h2 k List.mem_cons_self
      have e0 : (0 + (k : Int)) = ((k : Nat) : Int) := Int.zero_add _
      rw [e0]
      show wSeq _ _ _ [some (.obj a), some (.int many), some (.int way), some (.int first), some (.lst (wdL.map .str)), some (.str letters), some (.obj p), some (.int k), x8] _
      generalize hρ : ([some (.obj a), some (.int many), some (.int way), some (.int first), some (.lst (wdL.map .str)), some (.str letters), some (.obj p), some (.int k), x8] : Rho) = ρ1
      have r2 : ρ1[2]? = some (some (.int way)) := by rw [← hρ]; rfl
      have r3 : ρ1[3]? = some (some (.int first)) := by rw [← hρ]; rfl
      have r4 : ρ1[4]? = some (some (.lst (wdL.map .str))) := by rw [← hρ]; rfl
      have r5 : ρ1[5]? = some (some (.str letters)) := by rw [← hρ]; rfl
      have r7 : ρ1[7]? = some (some (.int k)) := by rw [← hρ]; rfl
      have q1 : PEv (wBin wIx (wVar 4) (wBin wMod (wBin wAdd (wVar 3) (wVar 7)) (wC (.int 8)))) ρ1 (updM μ2 p (.lst l)) (.str (wdAt ((first + k) % 8))) :=
        pe_ixL (pe_var r4) (pe_bin (x := .int ((first : Int) + k)) (y := .int 8) (z := .int (((first + k) % 8 : Nat) : Int)) (pe_bin (pe_var r3) (pe_var r7) fun P q => q) pe_c fun P q => ⟨by decide, by
          have e : ((first : Int) + k) % 8 = (((first + k) % 8 : Nat) : Int) := by omega
          rw [e]
          exact q⟩) (atI_some (wd_at (Nat.mod_lt _ (by decide))))
      have q2 : PEv (wBin wIx (wVar 5) (wBin wMod (wBin wAdd (wVar 3) (wBin wDiv (wVar 7) (wC (.int 8)))) (wC (.int 26)))) ρ1 (updM μ2 p (.lst l)) (.str (letter ((first + k / 8) % 26))) :=
        pe_bin (pe_var r5) (pe_bin (x := .int ((first : Int) + (k / 8 : Nat))) (y := .int 26) (z := .int (((first + k / 8) % 26 : Nat) : Int)) (pe_bin (x := .int first) (y := .int ((k / 8 : Nat) : Int)) (pe_var r3) (pe_bin (x := .int k) (y := .int 8) (pe_var r7) pe_c fun P q => ⟨⟨by decide, by decide⟩, by
          have e : ((k : Int) / 8) = ((k / 8 : Nat) : Int) := by omega
          rw [e]
          exact q⟩) fun P q => q) pe_c fun P q => ⟨by decide, by
          have e : ((first : Int) + (k / 8 : Nat)) % 26 = (((first + k / 8) % 26 : Nat) : Int) := by omega
          rw [e]
          exact q⟩) fun P q => by
          refine ⟨by rw [letters_len]; exact sl (by decide), ?_⟩
          have e := letters_at ⟨(first + k / 8) % 26, Nat.mod_lt _ (by decide)⟩
          rw [e]
          exact q
      have wl := wd_small ⟨(first + k) % 8, Nat.mod_lt _ (by decide)⟩
      refine seq_asg (y := .str (nm first k)) (pe_bin q1 q2 fun P q => ⟨by rw [letter_len]; exact sl (by show (wdAt ((first + k) % 8)).length + 1 ≤ _; have wl : (wdAt ((first + k) % 8)).length ≤ 10 := wl; omega), q⟩) ?_
      rw [← hρ]
      show wDrop _ _ [some (.obj a), some (.int many), some (.int way), some (.int first), some (.lst (wdL.map .str)), some (.str letters), some (.obj p), some (.int k), some (.str (nm first k))] _
      generalize hρ2 : ([some (.obj a), some (.int many), some (.int way), some (.int first), some (.lst (wdL.map .str)), some (.str letters), some (.obj p), some (.int k), some (.str (nm first k))] : Rho) = ρ2
      have s2 : ρ2[2]? = some (some (.int way)) := by rw [← hρ2]; rfl
      have s3 : ρ2[3]? = some (some (.int first)) := by rw [← hρ2]; rfl
      have s4 : ρ2[4]? = some (some (.lst (wdL.map .str))) := by rw [← hρ2]; rfl
      have s6 : ρ2[6]? = some (some (.obj p)) := by rw [← hρ2]; rfl
      have s7 : ρ2[7]? = some (some (.int k)) := by rw [← hρ2]; rfl
      have s8 : ρ2[8]? = some (some (.str (nm first k))) := by rw [← hρ2]; rfl
      have pm : ∀ j : Nat, 0 < j → j ≤ 8 → PEv (wBin wIx (wVar 4) (wBin wMod (wVar 7) (wC (.int j)))) ρ2 (updM μ2 p (.lst l)) (.str (wdAt (k % j))) := fun j j0 j8 =>
        pe_ixL (pe_var s4) (pe_bin (x := .int k) (y := .int j) (z := .int ((k % j : Nat) : Int)) (pe_var s7) pe_c fun P q => ⟨by omega, by
          have e : ((k : Int) % j) = ((k % j : Nat) : Int) := by first | exact (Int.natCast_emod k j).symm | exact (Int.ofNat_emod k j).symm | norm_cast
          rw [e]
          exact q⟩) (atI_some (wd_at (by have := Nat.mod_lt k j0; omega)))
      have t0 : PEv (wTup (wCons (wVar 8) wNil)) ρ2 (updM μ2 p (.lst l)) (nmD 0 first k) := pe_tup (pa_cons (pe_var s8) pa_nil) (sl (Nat.le_of_ble_eq_true rfl))
      have t1 : PEv (wTup (wCons (wVar 8) (wCons (wBin wIx (wVar 4) (wBin wMod (wVar 7) (wC (.int 3)))) wNil))) ρ2 (updM μ2 p (.lst l)) (nmD 1 first k) := pe_tup (pa_cons (pe_var s8) (pa_cons (pm 3 (by decide) (by decide)) pa_nil)) (sl (Nat.le_of_ble_eq_true rfl))
      have t2 : PEv (wTup (wCons (wBin wIx (wVar 4) (wBin wMod (wVar 7) (wC (.int 2)))) (wCons (wBin wSub (wBin wAdd (wVar 3) (wBin wDiv (wVar 7) (wC (.int 2)))) (wC (.int 9))) (wCons (wC (.str "price")) wNil)))) ρ2 (updM μ2 p (.lst l)) (nmD 2 first k) :=
        pe_tup (pa_cons (pm 2 (by decide) (by decide)) (pa_cons (x := .int (((first + k / 2 : Nat) : Int) - 9)) (pe_bin (x := .int ((first + k / 2 : Nat) : Int)) (y := .int 9) (pe_bin (x := .int first) (y := .int ((k / 2 : Nat) : Int)) (pe_var s3) (pe_bin (x := .int k) (y := .int 2) (pe_var s7) pe_c fun P q => ⟨⟨by decide, by decide⟩, by
          have e : ((k : Int) / 2) = ((k / 2 : Nat) : Int) := by omega
          rw [e]
          exact q⟩) fun P q => by
            have e : ((first : Int) + ((k / 2 : Nat) : Int)) = ((first + k / 2 : Nat) : Int) := by omega
            show P (.int ((first : Int) + ((k / 2 : Nat) : Int))) _
            rw [e]
            exact q) pe_c fun P q => q) (pa_cons pe_c pa_nil))) (sl (Nat.le_of_ble_eq_true rfl))
      refine drop_app (y := nmD way first k) s6 updM_same (pe_ixL (k := (way : Nat)) (pe_lst (pa_cons t0 (pa_cons t1 (pa_cons t2 pa_nil))) (sl (Nat.le_of_ble_eq_true rfl))) (pe_var s2) (atI_some ?_)) (sl' (by omega)) ?_
      · match way, hway with
        | 0, _ => rfl
        | 1, _ => rfl
        | 2, _ => rfl
      · rw [updM_upd, ← hρ2]
        refine ih (l ++ [nmD way first k]) _ _ (by rw [List.length_append]; simp; omega) (fun z hz => h2 z (List.mem_cons_of_mem _ hz)) ?_
        rw [List.append_assoc]
        exact hs
  refine seq_for (xs := (List.range many).map fun k : Nat => .int (0 + (k : Int))) (fun P hP => pe_var (y := .int many) rfl _ ⟨by omega, by omega, hP⟩) (go (List.range many) [] _ _ (by rw [List.length_range]; show 0 + many ≤ 1000; omega) (fun k hk => by have := List.mem_range.mp hk; omega) ?_)
  rw [List.nil_append]
  refine ⟨?_, ?_, ?_, fun d hd => ?_, by rw [List.length_map, List.length_range]; exact sl (by omega), fun es pm pw => ?_⟩
  · have : ∀ ks : List Nat, noObjs (ks.map (nmD way first)) = true := by
      intro ks
      induction ks with
      | nil => rfl
      | cons k ks ih =>
        show (noObj (kd (.tup (nameL way first k))) && noObjs (ks.map (nmD way first))) = true
        rw [noObj_kd, ih]
        rfl
    exact this _
  · unfold allAlike
    refine List.all_eq_true.mpr fun x hx => List.all_eq_true.mpr fun y hy => ?_
    obtain ⟨j, _, rfl⟩ := List.mem_map.mp hx
    obtain ⟨k, _, rfl⟩ := List.mem_map.mp hy
    exact name_alike way first j k
  · unfold sortable
    rw [Bool.or_eq_true]
    refine .inl (List.all_eq_true.mpr fun x hx => ?_)
    obtain ⟨j, _, rfl⟩ := List.mem_map.mp hx
    unfold nmD
    cases e : nameL way first j with
    | nil => exact absurd e (name_ne way first j)
    | cons x xs => rfl
  · obtain ⟨j, _, rfl⟩ := List.mem_map.mp hd
    show (toPy (kd (.tup (nameL way first j)))).depth ≤ 60
    rw [depth_kd]
    exact Nat.le_trans (name_ok way first j).2 (by decide)
  · obtain ⟨l, pl, rfl⟩ := perm_map_inv pm.symm (List.range many) rfl
    have nd : l.Nodup := pl.nodup_iff.mp List.nodup_range
    have hl : ∀ k ∈ l, k < 200 := fun k hk => by
      have := List.mem_range.mp (pl.mem_iff.mpr hk)
      omega
    have ll : l.length = many := by rw [← pl.length_eq, List.length_range]
    have e := names_map (way := way) (first := first) (nd := nd) (hl := hl)
    rw [ll] at e
    have e2 : l.map (nmD way first) = (List.range many).map (namesAt way first l nd hl).v := e.symm
    rw [e2] at pw ⊢
    refine q (namesAt way first l nd hl) _ (hd2.keep (updM_ne pa) (updM_ne pc)) (fun b o x y z => ?_) ⟨fun i j hi hj => ?_, pw⟩
    · have hb : b ≠ p := fun w => by rw [w] at z; have := (on2 p (fun w => pa w.symm) (fun w => pc w.symm)).symm.trans hp; rw [on1 p (fun w => pa w.symm) (fun w => pc w.symm)] at this; rw [z] at this; cases this
      rw [updM_ne hb, on2 b x y, on1 b x y]
      exact z
    · have gi : l[i]? = some l[i] := List.getElem?_eq_getElem (by omega)
      have gj : l[j]? = some l[j] := List.getElem?_eq_getElem (by omega)
      show PySem.W.alike (toPy (kd (.tup (match l[i]? with | some k => nameL way first k | none => _)))) (toPy (kd (.tup (match l[j]? with | some k => nameL way first k | none => _)))) = true
      rw [gi, gj]
      exact name_alike way first _ _
end Am

set_option Elab.async false
set_option linter.all false
set_option maxRecDepth 100000
set_option maxHeartbeats 1000000
/-! Am13: frames sorted; what is alike; tests that may make objects. -/
namespace Am
open PySem L2 Dz

def pairF (N : Names) (e : Nat × List Kd) : DV := .tup [N.v e.1, kindsD e.2]
theorem frD_eq (N : Names) (fr : Fr) : frD N fr = .tup (fr.map (pairF N)) := rfl
theorem alike_kinds (k j : List Kd) : PySem.W.alike (toPy (kindsD k)) (toPy (kindsD j)) = true := by
  show PySem.W.alikeAll (toPys (k.map fun x : Kd => DV.str x.s)) (toPys (j.map fun x : Kd => DV.str x.s)) = true
  induction k generalizing j with
  | nil => rfl
  | cons a k ih => cases j with
    | nil => rfl
    | cons b j => exact ih j
/-- sorting the unknowns with their kinds: as their names rise -/
theorem sort_frame {N : Names} {L fr : Fr} {many : Nat} {μ : Mh} {P : DV → Mh → Prop} (r : Rise N many) (hp : L.Perm fr) (hk : fr.map (·.1) = List.range many) (hm : many ≤ 1000) (k : P (.lst (fr.map (pairF N))) μ) : sortW (L.map (pairF N)) μ P := by
  have hlen : fr.length = many := by
    have := congrArg List.length hk
    rwa [List.length_map, List.length_range] at this
  have hlt : ∀ e ∈ fr, e.1 < many := fun e he => by
    have : e.1 ∈ List.range many := by rw [← hk]; exact List.mem_map_of_mem he
    exact List.mem_range.mp this
  have hpl : ∀ e ∈ L, e ∈ fr := fun e he => hp.mem_iff.mp he
  have al : ∀ a ∈ fr, ∀ b ∈ fr, PySem.W.alike (toPy (pairF N a)) (toPy (pairF N b)) = true := fun a ha b hb => by
    show (PySem.W.alike (toPy (N.v a.1)) (toPy (N.v b.1)) && (PySem.W.alike (toPy (kindsD a.2)) (toPy (kindsD b.2)) && PySem.W.alikeAll [] [])) = true
    rw [r.al _ _ (hlt a ha) (hlt b hb), alike_kinds]
    rfl
  have nk : ∀ e : Nat × List Kd, pairF N e = kd (.tup [N.kk e.1, kindsK e.2]) := fun e => by
    show _ = DV.tup [kd (N.kk e.1), kd (kindsK e.2)]
    rw [kindsK_d]
    rfl
  have nd : fr.Pairwise fun a b => a.1 ≠ b.1 := by
    have : (fr.map (·.1)).Nodup := by rw [hk]; exact List.nodup_range
    exact List.pairwise_map.mp this
  have sorted : (fr.map (pairF N)).Pairwise fun a b => leD a b = true := by
    rw [List.pairwise_map]
    have h1 : fr.Pairwise fun a b => leD (N.v a.1) (N.v b.1) = true := by
      have h := r.le
      rw [← hk, List.map_map, List.pairwise_map] at h
      exact h
    refine (List.Pairwise.and h1 nd).imp_of_mem fun {a b} ha hb ⟨h, ne⟩ => ?_
    unfold pairF
    rw [leD_pair (r.al _ _ (hlt b hb) (hlt a ha)) (alike_kinds _ _)]
    · exact h
    · rw [show deepEq (N.v b.1) (N.v a.1) = _ from N.eq (some b.1) (some a.1)]
      exact decide_eq_false fun z => ne (Option.some.inj z).symm
  refine ⟨?_, ?_, ?_, fun d hd => ?_, by rw [List.length_map, hp.length_eq, hlen]; exact sl (by omega), fun es pm pw => ?_⟩
  · clear k sorted nd al hpl hp
    induction L with
    | nil => rfl
    | cons e L ih =>
      rw [List.map_cons]
      show (noObj (pairF N e) && noObjs (L.map (pairF N))) = true
      rw [ih, nk, noObj_kd]
      rfl
  · unfold allAlike
    refine List.all_eq_true.mpr fun x hx => List.all_eq_true.mpr fun y hy => ?_
    obtain ⟨a, ha, rfl⟩ := List.mem_map.mp hx
    obtain ⟨b, hb, rfl⟩ := List.mem_map.mp hy
    exact al a (hpl a ha) b (hpl b hb)
  · unfold sortable
    rw [Bool.or_eq_true]
    refine .inl (List.all_eq_true.mpr fun x hx => ?_)
    obtain ⟨a, ha, rfl⟩ := List.mem_map.mp hx
    rfl
  · obtain ⟨e, he, rfl⟩ := List.mem_map.mp hd
    rw [nk, depth_kd]
    show max (N.kk e.1).depth (max (kindsK e.2).depth 0) + 1 ≤ 60
    have h1 := (N.okk (some e.1)).2
    have h2 := (kindsK_ok e.2).2
    have h1 : (N.kk e.1).depth ≤ 8 := h1
    omega
  · have pm2 : es.Perm (fr.map (pairF N)) := pm.trans (hp.map _)
    have e : es = fr.map (pairF N) := by
      refine pm2.eq_of_pairwise (le := fun a b => leD a b = true) (fun a b ha hb h h' => ?_) pw sorted
      obtain ⟨x, hx, rfl⟩ := List.mem_map.mp (pm2.mem_iff.mp ha)
      obtain ⟨y, hy, rfl⟩ := List.mem_map.mp hb
      have e := leD_antisymm (al x hx y hy) h h'
      rw [nk, nk, deep_kd] at e
      rw [nk, nk, of_decide_eq_true e]
    rw [e]
    exact k

/-! ### keys that are deeper -/
theorem shaped_of {k : NestedKey} (c : (toPy (kd k)).canLay0 = true) (d : k.depth ≤ 60) : shapedD (kd k) = true := by
  unfold shapedD SeqAt.shaped
  rw [noObj_kd, c, depth_kd]
  simp only [Bool.true_and]
  exact decide_eq_true (Nat.le_trans d (by decide))
theorem lays_of {ks : List NestedKey} (h : ∀ k ∈ ks, (toPy (kd k)).canLay0 = true) : PyData.canLayAll0 (toPys (kds ks)) = true := by
  induction ks with
  | nil => rfl
  | cons k ks ih => rw [lays_cons, h k List.mem_cons_self, ih fun j hj => h j (List.mem_cons_of_mem _ hj)]; rfl
theorem depths_of {n : Nat} {ks : List NestedKey} (h : ∀ k ∈ ks, k.depth ≤ n) : NestedKey.depthAll ks ≤ n := by
  induction ks with
  | nil => exact Nat.zero_le _
  | cons k ks ih =>
    show max k.depth (NestedKey.depthAll ks) ≤ n
    have h1 := h k List.mem_cons_self
    have h2 := ih fun j hj => h j (List.mem_cons_of_mem _ hj)
    omega
theorem lstK_shaped {ks : List NestedKey} (h : ∀ k ∈ ks, (toPy (kd k)).canLay0 = true ∧ k.depth ≤ 50) : shapedD (.lst (kds ks)) = true := by
  unfold shapedD SeqAt.shaped
  rw [show noObj (.lst (kds ks)) = noObjs (kds ks) from rfl, noObjs_kd, show (toPy (.lst (kds ks))).canLay0 = PyData.canLayAll0 (toPys (kds ks)) from rfl, lays_of fun k hk => (h k hk).1]
  simp only [Bool.true_and]
  refine decide_eq_true ?_
  show PyData.depthAll (toPys (kds ks)) + 1 ≤ 64
  rw [depths_kd]
  have := depths_of fun k hk => (h k hk).2
  omega
def asK (N : Names) (as : List Atm) : NestedKey := .tup (as.map (Atm.k N))
theorem asK_d (N : Names) (as : List Atm) : kd (asK N as) = asD N as := by
  show DV.tup (kds (as.map (Atm.k N))) = _
  rw [kds_map]
  rfl
theorem asK_ok {N : Names} {as : List Atm} (ok : ∀ a ∈ as, a.ok) : (toPy (kd (asK N as))).canLay0 = true ∧ (asK N as).depth ≤ 9 := by
  refine ⟨lays_of fun k hk => ?_, Nat.succ_le_succ (depths_of fun k hk => ?_)⟩
  · obtain ⟨a, ha, rfl⟩ := List.mem_map.mp hk
    exact (Atm.okk (ok a ha)).1
  · obtain ⟨a, ha, rfl⟩ := List.mem_map.mp hk
    exact (Atm.okk (ok a ha)).2
theorem asD_shaped {N : Names} {as : List Atm} (ok : ∀ a ∈ as, a.ok) : shapedD (asD N as) = true := by
  rw [← asK_d]
  exact shaped_of (asK_ok ok).1 (Nat.le_trans (asK_ok ok).2 (by decide))
theorem deep_self {d : DV} (h : shapedD d = true) : deepEq d d = true := SeqAt.eqv_refl _ (SeqAt.canLay_of_shaped (Bool.and_eq_true_iff.mp h).2)
section
variable {ρ : Rho} {μ : Mh} {wa wb : WE} {ds : List DV} {t u : WT} {b c : Bool} {E : DEnds} {su : WS} {rest : WS}
theorem pe_neT (ha : PEv wa ρ μ (.tup ds)) (hb : PEv wb ρ μ (.tup ds)) (h : shapedD (.tup ds) = true) : PEv (wBin wNeL wa wb) ρ μ (.bool false) := pe_bin ha hb fun P q => ⟨h, h, by
  show P (.bool (!deepEq (.tup ds) (.tup ds))) μ
  rw [deep_self h]
  exact q⟩
theorem pe_neL (ha : PEv wa ρ μ (.lst ds)) (hb : PEv wb ρ μ (.lst ds)) (h : shapedD (.lst ds) = true) : PEv (wBin wNeL wa wb) ρ μ (.bool false) := pe_bin ha hb fun P q => ⟨h, h, by
  show P (.bool (!deepEq (.lst ds) (.lst ds))) μ
  rw [deep_self h]
  exact q⟩
theorem pe_isB {x y : Bool} {neg : Bool} (ha : PEv wa ρ μ (.bool x)) (hb : PEv wb ρ μ (.bool y)) : PEv (wBin (wIsB neg) wa wb) ρ μ (.bool (Bool.xor neg (decide (x = y)))) := pe_bin ha hb fun P q => q
/-- a test that may make objects -/
def PTa (t : WT) (ρ : Rho) (μ : Mh) (b : Bool) : Prop := ∀ P : Bool → Mh → Prop, (∀ μ', P b μ') → t ρ μ P
theorem PTv.a (h : PTv t ρ μ b) : PTa t ρ μ b := fun P q => h P (q μ)
theorem pta_or (h : PTv t ρ μ b) (k : b = false → PTa u ρ μ c) : PTa (wOrT t u) ρ μ (b || c) := fun P q => h _ (by
  cases b with
  | true => exact q μ
  | false => exact k rfl P q)
theorem pta_not (h : PTa t ρ μ b) : PTa (wNotT t) ρ μ (!b) := fun P q => h _ q
theorem ifs_a (h : PTa t ρ μ b) (ka : b = true → ∀ μ', su E ρ μ') (kb : b = false → ∀ μ', E.nx ρ μ') : wIfS t su wNext E ρ μ := h _ fun μ' => by
  cases b with
  | true => exact ka rfl μ'
  | false => exact kb rfl μ'
end
end Am

set_option Elab.async false
set_option linter.all false
set_option maxRecDepth 100000
/-! K46w: what the defs of the text do, over plain data (printed by gen.py). -/
namespace K46
open PySem L2 Dz

def w_unknowns_of : WS :=
  (wSeq (wAsg (wIf (wTest (wBin wIn (wBin wIx (wVar 0) (wC (.int 0))) (wTup (wCons (wC (.str "most")) (wCons (wC (.str "same")) (wCons (wC (.str "unlike")) wNil)))))) (wSl (wVar 0) (wPart (wC (.int 1))) (wPart (wC (.int 3)))) (wSl (wVar 0) (wPart (wC (.int 1))) (wPart (wC (.int 2))))) (wgName 1))
    (wRet (wLc (sTup (wVar 1)) (wgName 2) (wTest (wBin wNeL (wVar 2) (wC (.tup [])))) (wVar 2) [2])))

def w_kind_asked : WS :=
  (wSeq (wIfS (wTest (wBin wEqL (wBin wIx (wVar 0) (wC (.int 0))) (wC (.str "kind")))) (wRet (wBin wIx (wVar 0) (wC (.int 2)))) wNext)
    (wRet (wIf (wTest (wBin wEqL (wBin wIx (wVar 0) (wC (.int 0))) (wC (.str "most")))) (wC (.str "number")) (wC (.str "word")))))

def w_kinds_left (hs : NestedKey → Int) (f_kind_asked : WF) (f_unknowns_of : WF) : WS :=
  (wSeq (wAsg (wB (wDictP hs) (wCons (wVar 0) wNil)) (wgName 2))
    (wSeq (wFor (sTup (wVar 1)) (wgName 3) (wSeq (wAsg (wCall 1 f_kind_asked (wCons (wVar 3) wNil)) (wgName 4))
    (wFor (sLst (wCall 1 f_unknowns_of (wCons (wVar 3) wNil))) (wgName 5) (wNPut hs (wVar 2) (wVar 5) (wB wTuple (wCons (wLc (sTup (wBin (wNGet hs) (wVar 2) (wVar 5))) (wgName 6) (wTest (wBin wEqL (wVar 6) (wVar 4))) (wVar 6) [6]) wNil))))))
    (wRet (wFrzN (wVar 2)))))

def w_edges_of : WS :=
  (wSeq (wAsg (wLcM (sTup (wVar 1)) (wgName 3) (wTest (wBin wEqL (wBin wIx (wVar 3) (wC (.int 0))) (wC (.str "most")))) (wTup (wCons (wBin wIx (wVar 3) (wC (.int 1))) (wCons (wBin wIx (wVar 3) (wC (.int 2))) (wCons (wBin wIx (wVar 3) (wC (.int 3))) wNil)))) [3]) (wgName 2))
    (wSeq (wFor (sLst (wVar 0)) (wgName 4) (wDrop (wExt (wVar 2) (wLst (wCons (wTup (wCons (wVar 4) (wCons (wC (.tup [])) (wCons (wC (.int 1000000000000)) wNil)))) (wCons (wTup (wCons (wC (.tup [])) (wCons (wVar 4) (wCons (wC (.int 1000000000000)) wNil)))) wNil))))))
    (wRet (wFrz (wVar 2)))))

def w_numbers_solved (hs : NestedKey → Int) (f_edges_of : WF) : WS :=
  wPureN (wSeq (wAsg (wCall 2 f_edges_of (wCons (wVar 0) (wCons (wVar 1) wNil))) (wgName 2))
    (wSeq (wAsg (wDcN hs (sLst (wVar 0)) (wgName 4) wYes (wVar 4) (wC (.int 1000000000000)) [4]) (wgName 3))
    (wSeq (wNPut hs (wVar 3) (wC (.tup [])) (wC (.int 0)))
    (wSeq (wFor (sRng1 (wBin wAdd (wB (wLenN hs) (wCons (wVar 3) wNil)) (wC (.int 1)))) (wgName 5) (wSeq (wAsg (wC (.bool false)) (wgName 6))
    (wSeq (wFor (sLst (wVar 2)) (wgTup 3 (wgCons (wgName 7) (wgCons (wgName 8) (wgCons (wgName 9) wgNil)))) (wIfS (wTest (wBin wLtA (wBin wAdd (wBin (wNGet hs) (wVar 3) (wVar 8)) (wVar 9)) (wBin (wNGet hs) (wVar 3) (wVar 7)))) (wSeq (wNPut hs (wVar 3) (wVar 7) (wBin wAdd (wBin (wNGet hs) (wVar 3) (wVar 8)) (wVar 9)))
    (wAsg (wC (.bool true)) (wgName 6))) wNext))
    (wIfS (wNotT (wTest (wVar 6))) (wRet (wFrzN (wVar 3))) wNext))))
    (wRet (wC .none))))))

def w_classes_of (hs : NestedKey → Int) : WS :=
  (wSeq (wAsg (wDcN hs (sLst (wVar 0)) (wgName 3) wYes (wVar 3) (wVar 3) [3]) (wgName 2))
    (wSeq (wFor (sTup (wVar 1)) (wgName 4) (wIfS (wTest (wBin wEqL (wBin wIx (wVar 4) (wC (.int 0))) (wC (.str "same")))) (wSeq (wPar 5 6 (wCons (wBin (wNGet hs) (wVar 2) (wBin wIx (wVar 4) (wC (.int 1)))) (wCons (wBin (wNGet hs) (wVar 2) (wBin wIx (wVar 4) (wC (.int 2)))) wNil)))
    (wFor (sLst (wVar 0)) (wgName 3) (wIfS (wTest (wBin wEqL (wBin (wNGet hs) (wVar 2) (wVar 3)) (wVar 6))) (wNPut hs (wVar 2) (wVar 3) (wVar 5)) wNext))) wNext))
    (wRet (wFrzN (wVar 2)))))

def w_words_told (hs : NestedKey → Int) : WS :=
  (wSeq (wAsg (wDctN0 hs) (wgName 2))
    (wSeq (wFor (sTup (wVar 1)) (wgName 3) (wIfS (wAndT (wTest (wBin wEqL (wBin wIx (wVar 3) (wC (.int 0))) (wC (.str "word")))) (wTest (wBin wNeL (wNSetdef hs (wVar 2) (wBin (wNGetA hs) (wVar 0) (wBin wIx (wVar 3) (wC (.int 1)))) (wBin wIx (wVar 3) (wC (.int 2)))) (wBin wIx (wVar 3) (wC (.int 2)))))) (wRet (wC .none)) wNext))
    (wRet (wVar 2))))

def w_are_unlike (hs : NestedKey → Int) : WS :=
  (wSeq (wFor (sTup (wVar 2)) (wgName 3) (wSeq (wIfS (wAndT (wTest (wBin wEqL (wBin wIx (wVar 3) (wC (.int 0))) (wC (.str "other")))) (wTest (wBin wEqL (wNGet1 hs (wVar 1) (wBin (wNGetA hs) (wVar 0) (wBin wIx (wVar 3) (wC (.int 1))))) (wBin wIx (wVar 3) (wC (.int 2)))))) (wRet (wC (.bool false))) wNext)
    (wIfS (wTest (wBin wEqL (wBin wIx (wVar 3) (wC (.int 0))) (wC (.str "unlike")))) (wSeq (wPar 4 5 (wCons (wBin (wNGetA hs) (wVar 0) (wBin wIx (wVar 3) (wC (.int 1)))) (wCons (wBin (wNGetA hs) (wVar 0) (wBin wIx (wVar 3) (wC (.int 2)))) wNil)))
    (wIfS (wOrT (wTest (wBin wEqL (wVar 4) (wVar 5))) (wAndT (wTest (wBin (wInA hs) (wVar 4) (wVar 1))) (wTest (wBin wEqL (wBin (wNGetA hs) (wVar 1) (wVar 4)) (wNGet1 hs (wVar 1) (wVar 5)))))) (wRet (wC (.bool false))) wNext)) wNext)))
    (wRet (wC (.bool true))))

def w_word_of : WS :=
  (wSeq (wAsg (wC (.str "")) (wgName 1))
    (wSeq (wWhile (wTest (wBin wGe (wVar 0) (wC (.int 0)))) (wSeq (wAsg (wBin wAdd (wBin wIx (wC (.str "abcdefghijklmnopqrstuvwxyz")) (wBin wMod (wVar 0) (wB wLen (wCons (wC (.str "abcdefghijklmnopqrstuvwxyz")) wNil)))) (wVar 1)) (wgName 1))
    (wAsg (wBin wSub (wBin wDiv (wVar 0) (wB wLen (wCons (wC (.str "abcdefghijklmnopqrstuvwxyz")) wNil))) (wC (.int 1))) (wgName 0))))
    (wRet (wVar 1))))

def w_words_solved (hs : NestedKey → Int) (f_classes_of : WF) (f_words_told : WF) (f_are_unlike : WF) (f_word_of : WF) : WS :=
  wPureN (wSeq (wAsg (wCall 2 f_classes_of (wCons (wVar 0) (wCons (wVar 1) wNil))) (wgName 2))
    (wSeq (wAsg (wCall 2 f_words_told (wCons (wVar 2) (wCons (wVar 1) wNil))) (wgName 3))
    (wSeq (wIfS (wOrT (wTest (wBin wIsN (wVar 3) (wC .none))) (wNotT (wTest (wCall 3 f_are_unlike (wCons (wVar 2) (wCons (wVar 3) (wCons (wVar 1) wNil))))))) (wRet (wC .none)) wNext)
    (wSeq (wAsg (wDcK (sTup (wVar 1)) (wgName 5) (wTest (wBin wIn (wBin wIx (wVar 5) (wC (.int 0))) (wTup (wCons (wC (.str "word")) (wCons (wC (.str "other")) wNil))))) (wBin wIx (wVar 5) (wC (.int 2))) (wC (.bool true)) [5]) (wgName 4))
    (wSeq (wAsg (wC (.int 0)) (wgName 6))
    (wSeq (wFor (sLst (wVar 0)) (wgName 7) (wIfS (wTest (wBin (wNotInA hs) (wBin (wNGetA hs) (wVar 2) (wVar 7)) (wVar 3))) (wSeq (wWhile (wTest (wBin wInK (wCall 1 f_word_of (wCons (wVar 6) wNil)) (wVar 4))) (wAugI (fun a b => a + b) 6 (wC (.int 1))))
    (wSeq (wNPut hs (wVar 3) (wBin (wNGetA hs) (wVar 2) (wVar 7)) (wCall 1 f_word_of (wCons (wVar 6) wNil)))
    (wAugI (fun a b => a + b) 6 (wC (.int 1))))) wNext))
    (wRet (wFrzN (wDcN hs (sLst (wVar 0)) (wgName 7) wYes (wVar 7) (wBin (wNGetA hs) (wVar 3) (wBin (wNGetA hs) (wVar 2) (wVar 7))) [7])))))))))

def w_values_solved (hs : NestedKey → Int) (f_kinds_left : WF) (f_numbers_solved : WF) (f_words_solved : WF) : WS :=
  (wSeq (wAsg (wCall 2 f_kinds_left (wCons (wVar 0) (wCons (wVar 1) wNil))) (wgName 2))
    (wSeq (wIfS (wTest (wInVals hs (wTup wNil) (wVar 2))) (wRet (wC .none)) wNext)
    (wSeq (wAsg (wDcN hs (sKeysN hs (wVar 2)) (wgName 4) wYes (wVar 4) (wBin wIx (wBin (wNGetA hs) (wVar 2) (wVar 4)) (wC (.int 0))) [4]) (wgName 3))
    (wFrzNV 3 (wSeq (wAsg (wCall 2 f_numbers_solved (wCons (wLc (sKeysN hs (wVar 3)) (wgName 4) (wTest (wBin wEqL (wBin (wNGetA hs) (wVar 3) (wVar 4)) (wC (.str "number")))) (wVar 4) [4]) (wCons (wVar 1) wNil))) (wgName 5))
    (wSeq (wAsg (wCall 2 f_words_solved (wCons (wLc (sKeysN hs (wVar 3)) (wgName 4) (wTest (wBin wEqL (wBin (wNGetA hs) (wVar 3) (wVar 4)) (wC (.str "word")))) (wVar 4) [4]) (wCons (wVar 1) wNil))) (wgName 6))
    (wSeq (wIfS (wOrT (wTest (wBin wIsN (wVar 5) (wC .none))) (wTest (wBin wIsN (wVar 6) (wC .none)))) (wRet (wC .none)) wNext)
    (wRet (wFrzN (wDcN hs (sKeysN hs (wVar 3)) (wgName 4) wYes (wVar 4) (wNGet2 hs (wVar 5) (wVar 4) (wNGet1 hs (wVar 6) (wVar 4))) [4]))))))))))

def w_solution (hs : NestedKey → Int) (f_values_solved : WF) : WS :=
  (wSeq (wAsg (wCall 2 f_values_solved (wCons (wVar 0) (wCons (wVar 1) wNil))) (wgName 2))
    (wRet (wIf (wTest (wBin wIsN (wVar 2) (wC .none))) (wC .none) (wB wTuple (wCons (wLc (sTup (wVar 0)) (wgTup 2 (wgCons (wgName 3) (wgCons (wgName 4) wgNil))) wYes (wTup (wCons (wVar 3) (wCons (wBin (wNGetA hs) (wVar 2) (wVar 3)) wNil))) [3, 4]) wNil)))))

def w_is_contradiction (f_values_solved : WF) : WS :=
  (wRet (wBin wIsN (wCall 2 f_values_solved (wCons (wVar 0) (wCons (wVar 1) wNil))) (wC .none)))

def w_contradiction (hs : NestedKey → Int) (f_is_contradiction : WF) : WS :=
  wPureN (wSeq (wIfS (wNotT (wTest (wCall 2 f_is_contradiction (wCons (wVar 0) (wCons (wVar 1) wNil))))) (wRet (wC .none)) wNext)
    (wSeq (wAsg (wB (wListN hs) (wCons (wDcN hs (sTup (wVar 1)) (wgName 3) wYes (wVar 3) (wC (.bool true)) [3]) wNil)) (wgName 2))
    (wSeq (wFor (sLst (wB wList (wCons (wVar 2) wNil))) (wgName 3) (wSeq (wAsg (wLc (sLst (wVar 2)) (wgName 5) (wTest (wBin wNeL (wVar 5) (wVar 3))) (wVar 5) [5]) (wgName 4))
    (wIfS (wTest (wCall 2 f_is_contradiction (wCons (wVar 0) (wCons (wB wTuple (wCons (wVar 4) wNil)) wNil)))) (wAsg (wVar 4) (wgName 2)) wNext)))
    (wRet (wB wTuple (wCons (wVar 2) wNil))))))

def w_other_kinds : WS :=
  (wRet (wIf (wTest (wBin wEqL (wVar 0) (wC (.tup [])))) (wLst wNil) (wLc (sTup (wC (.tup [(.str "nothing"), (.str "number"), (.str "word")]))) (wgName 2) (wTest (wBin wNeL (wVar 2) (wVar 1))) (wTup (wCons (wC (.str "kind")) (wCons (wVar 0) (wCons (wVar 2) wNil)))) [2])))

def w_negations (f_other_kinds : WF) (f_unknowns_of : WF) (f_kind_asked : WF) : WS :=
  (wSeq (wIfS (wTest (wBin wEqL (wBin wIx (wVar 0) (wC (.int 0))) (wC (.str "kind")))) (wRet (wCall 2 f_other_kinds (wCons (wBin wIx (wVar 0) (wC (.int 1))) (wCons (wBin wIx (wVar 0) (wC (.int 2))) wNil)))) wNext)
    (wSeq (wAsg (wLc2 (sLst (wCall 1 f_unknowns_of (wCons (wVar 0) wNil))) (wgName 2) wYes (sLst (wCall 2 f_other_kinds (wCons (wVar 2) (wCons (wCall 1 f_kind_asked (wCons (wVar 0) wNil)) wNil)))) (wgName 3) wYes (wVar 3) [2, 3] [3]) (wgName 1))
    (wSeq (wIfS (wTest (wBin wEqL (wBin wIx (wVar 0) (wC (.int 0))) (wC (.str "most")))) (wRet (wLst (wStar (wVar 1) (wCons (wTup (wCons (wC (.str "most")) (wCons (wBin wIx (wVar 0) (wC (.int 2))) (wCons (wBin wIx (wVar 0) (wC (.int 1))) (wCons (wBin wSub (wUn wNeg (wBin wIx (wVar 0) (wC (.int 3)))) (wC (.int 1))) wNil))))) wNil)))) wNext)
    (wRet (wLst (wStar (wVar 1) (wCons (wTup (wCons (wIxK [("same", (.str "unlike")), ("unlike", (.str "same")), ("word", (.str "other")), ("other", (.str "word"))] (wBin wIx (wVar 0) (wC (.int 0)))) (wCons (wBin wIx (wVar 0) (wC (.int 1))) (wCons (wBin wIx (wVar 0) (wC (.int 2))) wNil)))) wNil)))))))

def w_settled (f_is_contradiction : WF) (f_negations : WF) : WS :=
  (wSeq (wIfS (wTest (wCall 2 f_is_contradiction (wCons (wVar 0) (wCons (wTup (wStar (wVar 1) (wCons (wVar 2) wNil))) wNil)))) (wRet (wC (.bool false))) wNext)
    (wSeq (wIfS (wTest (wB wAll (wCons (wLc (sLst (wCall 1 f_negations (wCons (wVar 2) wNil))) (wgName 3) wYes (wCall 2 f_is_contradiction (wCons (wVar 0) (wCons (wTup (wStar (wVar 1) (wCons (wVar 3) wNil))) wNil))) [3]) wNil))) (wRet (wC (.bool true))) wNext)
    (wRet (wC .none))))

def w_law_deck : WS :=
  (wSeq (wPar 1 2 (wCons (wB wList (wCons (wSl (wVar 0) wNoPart (wPart (wC (.int 63)))) wNil)) (wCons (wC (.int 71081)) wNil)))
    (wSeq (wFor (sLst (wVar 1)) (wgName 3) (wAsg (wBin wMod (wBin wAdd (wBin wAdd (wBin wMul (wVar 2) (wC (.int 16807))) (wBin wMod (wVar 3) (wC (.int 2147483629)))) (wC (.int 61))) (wC (.int 2147483587))) (wgName 2)))
    (wRet (wDctM [((.inr "cells"), (wRevM (wVar 1))), ((.inr "total"), (wVar 2)), ((.inr "draws"), (wC (.int 0)))]))))

def w_law_draw : WS :=
  (wSeq (wPar 2 3 (wCons (wBin wAdd (wBin wDGet (wVar 0) (wC (.str "draws"))) (wC (.int 1))) (wCons (wBin wDGet (wVar 0) (wC (.str "total"))) wNil)))
    (wSeq (wDPut (wVar 0) (wC (.str "draws")) (wVar 2))
    (wSeq (wIfS (wTest (wBin wNeL (wBin wDGet (wVar 0) (wC (.str "cells"))) (wLst wNil))) (wSeq (wAsg (wUn wPop (wBin wDGet (wVar 0) (wC (.str "cells")))) (wgName 3))
    (wSeq (wIfS (wTest (wBin wGe (wVar 3) (wBin wPow (wC (.int 10)) (wC (.int 18))))) (wSeq (wDrop (wApp (wBin wDGet (wVar 0) (wC (.str "cells"))) (wBin wDiv (wVar 3) (wVar 1))))
    (wRet (wBin wMod (wVar 3) (wVar 1)))) wNext)
    (wAsg (wBin wAdd (wVar 3) (wBin wDGet (wVar 0) (wC (.str "total")))) (wgName 3)))) wNext)
    (wSeq (wAsg (wBin wMod (wBin wMul (wBin wAdd (wBin wAdd (wBin wMod (wVar 3) (wC (.int 2147483629))) (wBin wMul (wBin wMul (wC (.int 60317)) (wVar 2)) (wVar 2))) (wC (.int 47))) (wC (.int 48271))) (wC (.int 2147483647))) (wgName 4))
    (wSeq (wAsg (wBin wMod (wBin wAdd (wBin wAdd (wBin wMul (wVar 4) (wVar 4)) (wBin wMul (wC (.int 69827)) (wVar 2))) (wC (.int 31))) (wC (.int 2147483587))) (wgName 4))
    (wRet (wBin wMod (wBin wDiv (wBin wMod (wBin wMul (wVar 4) (wC (.int 39373))) (wC (.int 2147483563))) (wC (.int 64))) (wVar 1))))))))

def w_law_unknowns (f_law_draw : WF) : WS :=
  (wSeq (wPar 2 3 (wCons (wCall 2 f_law_draw (wCons (wVar 0) (wCons (wC (.int 3)) wNil))) (wCons (wCall 2 f_law_draw (wCons (wVar 0) (wCons (wC (.int 26)) wNil))) wNil)))
    (wSeq (wPar 4 5 (wCons (wLst (wCons (wC (.str "less")) (wCons (wC (.str "most")) (wCons (wC (.str "kind")) (wCons (wC (.str "a")) (wCons (wC (.str "b")) (wCons (wC (.str "other")) (wCons (wC (.str "same")) (wCons (wC (.str "zzzzzzz")) wNil))))))))) (wCons (wC (.str "abcdefghijklmnopqrstuvwxyz")) wNil)))
    (wSeq (wAsg (wLstM wNil) (wgName 6))
    (wSeq (wFor (sRng1 (wVar 1)) (wgName 7) (wSeq (wAsg (wBin wAdd (wBin wIx (wVar 4) (wBin wMod (wBin wAdd (wVar 3) (wVar 7)) (wC (.int 8)))) (wBin wIx (wVar 5) (wBin wMod (wBin wAdd (wVar 3) (wBin wDiv (wVar 7) (wC (.int 8)))) (wC (.int 26))))) (wgName 8))
    (wDrop (wApp (wVar 6) (wBin wIx (wLst (wCons (wTup (wCons (wVar 8) wNil)) (wCons (wTup (wCons (wVar 8) (wCons (wBin wIx (wVar 4) (wBin wMod (wVar 7) (wC (.int 3)))) wNil))) (wCons (wTup (wCons (wBin wIx (wVar 4) (wBin wMod (wVar 7) (wC (.int 2)))) (wCons (wBin wSub (wBin wAdd (wVar 3) (wBin wDiv (wVar 7) (wC (.int 2)))) (wC (.int 9))) (wCons (wC (.str "price")) wNil)))) wNil)))) (wVar 2))))))
    (wRet (wB wSorted (wCons (wVar 6) wNil)))))))

def w_law_asked (f_solution : WF) (f_contradiction : WF) : WS :=
  (wSeq (wIfS (wTest (wBin wEqL (wVar 1) (wLst wNil))) (wRet (wLst (wCons (wCallS f_solution (wCons (wVar 0) wNil)) (wCons (wCallS f_contradiction (wCons (wVar 0) wNil)) wNil)))) wNext)
    (wSeq (wAsg (wSl (wBin wAdd (wVar 1) (wBin wMul (wSl (wVar 1) (wPart (wUn wNeg (wC (.int 1)))) wNoPart) (wC (.int 4)))) wNoPart (wPart (wC (.int 4)))) (wgLst 4 (wgCons (wgName 2) (wgCons (wgName 3) (wgCons (wgName 4) (wgCons (wgName 5) wgNil))))))
    (wRet (wLst (wCons (wCallS f_solution (wCons (wVar 0) (wCons (wVar 2) (wCons (wVar 3) (wCons (wVar 4) (wCons (wVar 5) wNil)))))) (wCons (wCallS f_contradiction (wCons (wVar 0) (wCons (wVar 2) (wCons (wVar 3) (wCons (wVar 4) (wCons (wVar 5) wNil)))))) wNil))))))

def w_law_good : WS :=
  (wSeq (wAsg (wBin wPow (wC (.int 10)) (wC (.int 12))) (wgName 4))
    (wSeq (wAsg (wLst (wCons (wLst wNil) (wCons (wLst (wCons (wTup (wCons (wC (.str "most")) (wCons (wVar 0) (wCons (wTup wNil) (wCons (wBin wSub (wC (.int 0)) (wVar 4)) wNil))))) wNil)) (wCons (wLst (wCons (wTup (wCons (wC (.str "most")) (wCons (wTup wNil) (wCons (wVar 0) (wCons (wBin wSub (wC (.int 0)) (wVar 4)) wNil))))) (wCons (wTup (wCons (wC (.str "most")) (wCons (wVar 1) (wCons (wTup wNil) (wCons (wBin wSub (wC (.int 0)) (wVar 4)) wNil))))) wNil))) wNil)))) (wgName 5))
    (wSeq (wAsg (wBin wAdd (wVar 5) (wLst (wCons (wLst (wCons (wTup (wCons (wC (.str "most")) (wCons (wVar 0) (wCons (wVar 1) (wCons (wUn wNeg (wC (.int 1))) wNil))))) (wCons (wTup (wCons (wC (.str "most")) (wCons (wVar 1) (wCons (wVar 2) (wCons (wUn wNeg (wC (.int 1))) wNil))))) wNil))) wNil))) (wgName 5))
    (wSeq (wAsg (wBin wAdd (wVar 5) (wLst (wCons (wLst (wCons (wTup (wCons (wC (.str "most")) (wCons (wVar 0) (wCons (wVar 1) (wCons (wC (.int 0)) wNil))))) (wCons (wTup (wCons (wC (.str "most")) (wCons (wVar 1) (wCons (wVar 0) (wCons (wC (.int 0)) wNil))))) (wCons (wTup (wCons (wC (.str "kind")) (wCons (wVar 0) (wCons (wC (.str "number")) wNil)))) wNil)))) wNil))) (wgName 5))
    (wSeq (wAsg (wBin wAdd (wVar 5) (wLst (wCons (wLst (wCons (wTup (wCons (wC (.str "same")) (wCons (wVar 0) (wCons (wVar 3) wNil)))) (wCons (wTup (wCons (wC (.str "word")) (wCons (wVar 3) (wCons (wC (.str "a")) wNil)))) (wCons (wTup (wCons (wC (.str "other")) (wCons (wVar 0) (wCons (wC (.str "b")) wNil)))) wNil)))) (wCons (wLst (wCons (wTup (wCons (wC (.str "unlike")) (wCons (wVar 0) (wCons (wVar 1) wNil)))) (wCons (wTup (wCons (wC (.str "unlike")) (wCons (wVar 1) (wCons (wVar 3) wNil)))) wNil))) wNil)))) (wgName 5))
    (wSeq (wAsg (wBin wAdd (wVar 5) (wLst (wCons (wLst (wCons (wTup (wCons (wC (.str "unlike")) (wCons (wVar 0) (wCons (wVar 1) wNil)))) (wCons (wTup (wCons (wC (.str "unlike")) (wCons (wVar 1) (wCons (wVar 3) wNil)))) (wCons (wTup (wCons (wC (.str "unlike")) (wCons (wVar 0) (wCons (wVar 3) wNil)))) (wCons (wTup (wCons (wC (.str "other")) (wCons (wVar 3) (wCons (wC (.str "a")) wNil)))) wNil))))) wNil))) (wgName 5))
    (wSeq (wAsg (wBin wAdd (wVar 5) (wLst (wCons (wLst (wCons (wTup (wCons (wC (.str "kind")) (wCons (wVar 3) (wCons (wC (.str "nothing")) wNil)))) wNil)) wNil))) (wgName 5))
    (wSeq (wAsg (wBin wAdd (wVar 5) (wLst (wCons (wLst (wCons (wTup (wCons (wC (.str "word")) (wCons (wVar 0) (wCons (wC (.str "zzzzzzzz")) wNil)))) (wCons (wTup (wCons (wC (.str "word")) (wCons (wVar 1) (wCons (wC (.str "zzzzzzzz")) wNil)))) (wCons (wTup (wCons (wC (.str "same")) (wCons (wVar 0) (wCons (wVar 1) wNil)))) wNil)))) (wCons (wLst (wCons (wTup (wCons (wC (.str "most")) (wCons (wVar 2) (wCons (wVar 2) (wCons (wC (.int 0)) wNil))))) wNil)) wNil)))) (wgName 5))
    (wSeq (wAsg (wBin wAdd (wVar 5) (wLst (wCons (wLst (wCons (wTup (wCons (wC (.str "most")) (wCons (wVar 2) (wCons (wTup wNil) (wCons (wC (.int 0)) wNil))))) (wCons (wTup (wCons (wC (.str "most")) (wCons (wTup wNil) (wCons (wVar 2) (wCons (wC (.int 0)) wNil))))) wNil))) (wCons (wLst (wCons (wTup (wCons (wC (.str "same")) (wCons (wVar 0) (wCons (wVar 0) wNil)))) wNil)) (wCons (wLst (wCons (wTup (wCons (wC (.str "other")) (wCons (wVar 0) (wCons (wC (.str "a")) wNil)))) (wCons (wTup (wCons (wC (.str "word")) (wCons (wVar 1) (wCons (wC (.str "a")) wNil)))) wNil))) wNil))))) (wgName 5))
    (wRet (wBin wAdd (wVar 5) (wLst (wCons (wLst (wCons (wTup (wCons (wC (.str "kind")) (wCons (wVar 0) (wCons (wC (.str "nothing")) wNil)))) (wCons (wTup (wCons (wC (.str "kind")) (wCons (wVar 1) (wCons (wC (.str "word")) wNil)))) (wCons (wTup (wCons (wC (.str "kind")) (wCons (wVar 2) (wCons (wC (.str "number")) wNil)))) (wCons (wTup (wCons (wC (.str "kind")) (wCons (wVar 3) (wCons (wC (.str "word")) wNil)))) wNil))))) wNil)))))))))))))

def w_law_bad : WS :=
  (wSeq (wAsg (wBin wPow (wC (.int 10)) (wC (.int 12))) (wgName 4))
    (wSeq (wAsg (wLst (wCons (wLst (wCons (wTup (wCons (wC (.str "kind")) (wCons (wVar 0) (wCons (wC (.str "word")) wNil)))) (wCons (wTup (wCons (wC (.str "kind")) (wCons (wVar 0) (wCons (wC (.str "number")) wNil)))) wNil))) (wCons (wLst (wCons (wTup (wCons (wC (.str "kind")) (wCons (wVar 2) (wCons (wC (.str "word")) wNil)))) wNil)) (wCons (wLst (wCons (wTup (wCons (wC (.str "kind")) (wCons (wVar 3) (wCons (wC (.str "number")) wNil)))) wNil)) wNil)))) (wgName 5))
    (wSeq (wAsg (wBin wAdd (wVar 5) (wLst (wCons (wLst (wCons (wTup (wCons (wC (.str "same")) (wCons (wVar 0) (wCons (wVar 2) wNil)))) wNil)) (wCons (wLst (wCons (wTup (wCons (wC (.str "most")) (wCons (wVar 0) (wCons (wVar 3) (wCons (wC (.int 5)) wNil))))) wNil)) (wCons (wLst (wCons (wTup (wCons (wC (.str "most")) (wCons (wVar 0) (wCons (wVar 0) (wCons (wUn wNeg (wC (.int 1))) wNil))))) wNil)) (wCons (wLst (wCons (wTup (wCons (wC (.str "most")) (wCons (wVar 0) (wCons (wTup wNil) (wCons (wBin wSub (wUn wNeg (wC (.int 1))) (wVar 4)) wNil))))) wNil)) wNil)))))) (wgName 5))
    (wSeq (wAsg (wBin wAdd (wVar 5) (wLst (wCons (wLst (wCons (wTup (wCons (wC (.str "most")) (wCons (wTup wNil) (wCons (wVar 1) (wCons (wBin wSub (wUn wNeg (wC (.int 1))) (wVar 4)) wNil))))) wNil)) (wCons (wLst (wCons (wTup (wCons (wC (.str "unlike")) (wCons (wVar 1) (wCons (wVar 1) wNil)))) wNil)) (wCons (wLst (wCons (wTup (wCons (wC (.str "same")) (wCons (wVar 0) (wCons (wVar 1) wNil)))) (wCons (wTup (wCons (wC (.str "unlike")) (wCons (wVar 1) (wCons (wVar 0) wNil)))) wNil))) wNil))))) (wgName 5))
    (wSeq (wAsg (wBin wAdd (wVar 5) (wLst (wCons (wLst (wCons (wTup (wCons (wC (.str "same")) (wCons (wVar 0) (wCons (wVar 1) wNil)))) (wCons (wTup (wCons (wC (.str "same")) (wCons (wVar 3) (wCons (wVar 1) wNil)))) (wCons (wTup (wCons (wC (.str "unlike")) (wCons (wVar 3) (wCons (wVar 0) wNil)))) wNil)))) (wCons (wLst (wCons (wTup (wCons (wC (.str "word")) (wCons (wVar 0) (wCons (wC (.str "a")) wNil)))) (wCons (wTup (wCons (wC (.str "word")) (wCons (wVar 0) (wCons (wC (.str "b")) wNil)))) wNil))) wNil)))) (wgName 5))
    (wSeq (wAsg (wBin wAdd (wVar 5) (wLst (wCons (wLst (wCons (wTup (wCons (wC (.str "word")) (wCons (wVar 0) (wCons (wC (.str "a")) wNil)))) (wCons (wTup (wCons (wC (.str "other")) (wCons (wVar 0) (wCons (wC (.str "a")) wNil)))) wNil))) wNil))) (wgName 5))
    (wSeq (wAsg (wBin wAdd (wVar 5) (wLst (wCons (wLst (wCons (wTup (wCons (wC (.str "word")) (wCons (wVar 0) (wCons (wC (.str "a")) wNil)))) (wCons (wTup (wCons (wC (.str "same")) (wCons (wVar 1) (wCons (wVar 0) wNil)))) (wCons (wTup (wCons (wC (.str "word")) (wCons (wVar 1) (wCons (wC (.str "aa")) wNil)))) wNil)))) wNil))) (wgName 5))
    (wSeq (wAsg (wBin wAdd (wVar 5) (wLst (wCons (wLst (wCons (wTup (wCons (wC (.str "word")) (wCons (wVar 0) (wCons (wC (.str "a")) wNil)))) (wCons (wTup (wCons (wC (.str "word")) (wCons (wVar 1) (wCons (wC (.str "a")) wNil)))) (wCons (wTup (wCons (wC (.str "unlike")) (wCons (wVar 0) (wCons (wVar 1) wNil)))) wNil)))) wNil))) (wgName 5))
    (wSeq (wAsg (wBin wAdd (wVar 5) (wLst (wCons (wLst (wCons (wTup (wCons (wC (.str "kind")) (wCons (wVar 0) (wCons (wC (.str "nothing")) wNil)))) (wCons (wTup (wCons (wC (.str "other")) (wCons (wVar 0) (wCons (wC (.str "a")) wNil)))) wNil))) wNil))) (wgName 5))
    (wSeq (wAsg (wBin wAdd (wVar 5) (wLst (wCons (wLst (wCons (wTup (wCons (wC (.str "most")) (wCons (wVar 0) (wCons (wVar 1) (wCons (wUn wNeg (wC (.int 1))) wNil))))) (wCons (wTup (wCons (wC (.str "most")) (wCons (wVar 1) (wCons (wVar 2) (wCons (wC (.int 0)) wNil))))) (wCons (wTup (wCons (wC (.str "most")) (wCons (wVar 2) (wCons (wVar 0) (wCons (wC (.int 0)) wNil))))) wNil)))) (wCons (wLst (wCons (wTup (wCons (wC (.str "unlike")) (wCons (wVar 0) (wCons (wVar 2) wNil)))) wNil)) wNil)))) (wgName 5))
    (wSeq (wAsg (wBin wAdd (wVar 5) (wLst (wCons (wLst (wCons (wTup (wCons (wC (.str "most")) (wCons (wVar 0) (wCons (wVar 1) (wCons (wBin wMul (wUn wNeg (wC (.int 2))) (wVar 4)) wNil))))) (wCons (wTup (wCons (wC (.str "most")) (wCons (wVar 1) (wCons (wVar 2) (wCons (wUn wNeg (wC (.int 1))) wNil))))) wNil))) (wCons (wLst (wCons (wTup (wCons (wC (.str "kind")) (wCons (wVar 3) (wCons (wC (.str "nothing")) wNil)))) (wCons (wTup (wCons (wC (.str "word")) (wCons (wVar 3) (wCons (wC (.str "a")) wNil)))) wNil))) wNil)))) (wgName 5))
    (wRet (wBin wAdd (wVar 5) (wLst (wCons (wLst (wCons (wTup (wCons (wC (.str "most")) (wCons (wVar 0) (wCons (wTup wNil) (wCons (wC (.int 3)) wNil))))) (wCons (wTup (wCons (wC (.str "most")) (wCons (wTup wNil) (wCons (wVar 0) (wCons (wUn wNeg (wC (.int 4))) wNil))))) wNil))) (wCons (wLst (wCons (wTup (wCons (wC (.str "kind")) (wCons (wVar 0) (wCons (wC (.str "word")) wNil)))) (wCons (wTup (wCons (wC (.str "most")) (wCons (wTup wNil) (wCons (wVar 0) (wCons (wC (.int 0)) wNil))))) wNil))) wNil))))))))))))))))

def w_law_tests : WS :=
  (wSeq (wAsg (wBin wPow (wC (.int 10)) (wC (.int 12))) (wgName 4))
    (wSeq (wAsg (wLst (wCons (wTup (wCons (wLst wNil) (wCons (wTup (wCons (wC (.str "kind")) (wCons (wVar 2) (wCons (wC (.str "number")) wNil)))) (wCons (wC (.bool true)) wNil)))) (wCons (wTup (wCons (wLst wNil) (wCons (wTup (wCons (wC (.str "kind")) (wCons (wVar 3) (wCons (wC (.str "number")) wNil)))) (wCons (wC (.bool false)) wNil)))) (wCons (wTup (wCons (wLst wNil) (wCons (wTup (wCons (wC (.str "kind")) (wCons (wVar 0) (wCons (wC (.str "word")) wNil)))) (wCons (wC .none) wNil)))) wNil)))) (wgName 5))
    (wSeq (wAsg (wBin wAdd (wVar 5) (wLst (wCons (wTup (wCons (wLst (wCons (wTup (wCons (wC (.str "most")) (wCons (wVar 0) (wCons (wVar 1) (wCons (wC (.int 7)) wNil))))) wNil)) (wCons (wTup (wCons (wC (.str "kind")) (wCons (wVar 1) (wCons (wC (.str "number")) wNil)))) (wCons (wC (.bool true)) wNil)))) wNil))) (wgName 5))
    (wSeq (wAsg (wBin wAdd (wVar 5) (wLst (wCons (wTup (wCons (wLst (wCons (wTup (wCons (wC (.str "other")) (wCons (wVar 0) (wCons (wC (.str "a")) wNil)))) wNil)) (wCons (wTup (wCons (wC (.str "kind")) (wCons (wVar 0) (wCons (wC (.str "word")) wNil)))) (wCons (wC (.bool true)) wNil)))) (wCons (wTup (wCons (wLst wNil) (wCons (wTup (wCons (wC (.str "most")) (wCons (wVar 2) (wCons (wTup wNil) (wCons (wVar 4) wNil))))) (wCons (wC (.bool true)) wNil)))) wNil)))) (wgName 5))
    (wSeq (wAsg (wBin wAdd (wVar 5) (wLst (wCons (wTup (wCons (wLst wNil) (wCons (wTup (wCons (wC (.str "most")) (wCons (wVar 0) (wCons (wTup wNil) (wCons (wVar 4) wNil))))) (wCons (wC .none) wNil)))) (wCons (wTup (wCons (wLst wNil) (wCons (wTup (wCons (wC (.str "most")) (wCons (wVar 3) (wCons (wTup wNil) (wCons (wVar 4) wNil))))) (wCons (wC (.bool false)) wNil)))) wNil)))) (wgName 5))
    (wSeq (wAsg (wBin wAdd (wVar 5) (wLst (wCons (wTup (wCons (wLst (wCons (wTup (wCons (wC (.str "most")) (wCons (wVar 0) (wCons (wVar 1) (wCons (wC (.int 2)) wNil))))) (wCons (wTup (wCons (wC (.str "most")) (wCons (wVar 1) (wCons (wVar 2) (wCons (wC (.int 3)) wNil))))) wNil))) (wCons (wTup (wCons (wC (.str "most")) (wCons (wVar 0) (wCons (wVar 2) (wCons (wC (.int 5)) wNil))))) (wCons (wC (.bool true)) wNil)))) wNil))) (wgName 5))
    (wSeq (wAsg (wBin wAdd (wVar 5) (wLst (wCons (wTup (wCons (wLst (wCons (wTup (wCons (wC (.str "most")) (wCons (wVar 0) (wCons (wVar 1) (wCons (wC (.int 2)) wNil))))) (wCons (wTup (wCons (wC (.str "most")) (wCons (wVar 1) (wCons (wVar 2) (wCons (wC (.int 3)) wNil))))) wNil))) (wCons (wTup (wCons (wC (.str "most")) (wCons (wVar 0) (wCons (wVar 2) (wCons (wC (.int 4)) wNil))))) (wCons (wC .none) wNil)))) wNil))) (wgName 5))
    (wSeq (wAsg (wBin wAdd (wVar 5) (wLst (wCons (wTup (wCons (wLst (wCons (wTup (wCons (wC (.str "most")) (wCons (wVar 0) (wCons (wVar 1) (wCons (wC (.int 2)) wNil))))) wNil)) (wCons (wTup (wCons (wC (.str "most")) (wCons (wVar 1) (wCons (wVar 0) (wCons (wUn wNeg (wC (.int 3))) wNil))))) (wCons (wC (.bool false)) wNil)))) wNil))) (wgName 5))
    (wSeq (wAsg (wBin wAdd (wVar 5) (wLst (wCons (wTup (wCons (wLst (wCons (wTup (wCons (wC (.str "same")) (wCons (wVar 0) (wCons (wVar 1) wNil)))) wNil)) (wCons (wTup (wCons (wC (.str "unlike")) (wCons (wVar 1) (wCons (wVar 0) wNil)))) (wCons (wC (.bool false)) wNil)))) (wCons (wTup (wCons (wLst (wCons (wTup (wCons (wC (.str "kind")) (wCons (wVar 3) (wCons (wC (.str "word")) wNil)))) wNil)) (wCons (wTup (wCons (wC (.str "same")) (wCons (wVar 3) (wCons (wVar 3) wNil)))) (wCons (wC (.bool true)) wNil)))) wNil)))) (wgName 5))
    (wSeq (wAsg (wBin wAdd (wVar 5) (wLst (wCons (wTup (wCons (wLst (wCons (wTup (wCons (wC (.str "same")) (wCons (wVar 0) (wCons (wVar 1) wNil)))) (wCons (wTup (wCons (wC (.str "word")) (wCons (wVar 0) (wCons (wC (.str "a")) wNil)))) wNil))) (wCons (wTup (wCons (wC (.str "word")) (wCons (wVar 1) (wCons (wC (.str "a")) wNil)))) (wCons (wC (.bool true)) wNil)))) wNil))) (wgName 5))
    (wSeq (wAsg (wBin wAdd (wVar 5) (wLst (wCons (wTup (wCons (wLst (wCons (wTup (wCons (wC (.str "same")) (wCons (wVar 0) (wCons (wVar 1) wNil)))) (wCons (wTup (wCons (wC (.str "word")) (wCons (wVar 0) (wCons (wC (.str "a")) wNil)))) wNil))) (wCons (wTup (wCons (wC (.str "other")) (wCons (wVar 1) (wCons (wC (.str "b")) wNil)))) (wCons (wC (.bool true)) wNil)))) (wCons (wTup (wCons (wLst wNil) (wCons (wTup (wCons (wC (.str "same")) (wCons (wVar 3) (wCons (wVar 3) wNil)))) (wCons (wC .none) wNil)))) wNil)))) (wgName 5))
    (wSeq (wAsg (wBin wAdd (wVar 5) (wLst (wCons (wTup (wCons (wLst (wCons (wTup (wCons (wC (.str "word")) (wCons (wVar 0) (wCons (wC (.str "a")) wNil)))) (wCons (wTup (wCons (wC (.str "word")) (wCons (wVar 1) (wCons (wC (.str "b")) wNil)))) wNil))) (wCons (wTup (wCons (wC (.str "unlike")) (wCons (wVar 0) (wCons (wVar 1) wNil)))) (wCons (wC (.bool true)) wNil)))) (wCons (wTup (wCons (wLst wNil) (wCons (wTup (wCons (wC (.str "unlike")) (wCons (wVar 0) (wCons (wVar 2) wNil)))) (wCons (wC (.bool false)) wNil)))) wNil)))) (wgName 5))
    (wSeq (wAsg (wBin wAdd (wVar 5) (wLst (wCons (wTup (wCons (wLst (wCons (wTup (wCons (wC (.str "word")) (wCons (wVar 0) (wCons (wC (.str "a")) wNil)))) (wCons (wTup (wCons (wC (.str "other")) (wCons (wVar 1) (wCons (wC (.str "a")) wNil)))) wNil))) (wCons (wTup (wCons (wC (.str "same")) (wCons (wVar 0) (wCons (wVar 1) wNil)))) (wCons (wC (.bool false)) wNil)))) (wCons (wTup (wCons (wLst wNil) (wCons (wTup (wCons (wC (.str "unlike")) (wCons (wVar 3) (wCons (wVar 3) wNil)))) (wCons (wC (.bool false)) wNil)))) wNil)))) (wgName 5))
    (wSeq (wAsg (wBin wAdd (wVar 5) (wLst (wCons (wTup (wCons (wLst (wCons (wTup (wCons (wC (.str "word")) (wCons (wVar 0) (wCons (wC (.str "a")) wNil)))) wNil)) (wCons (wTup (wCons (wC (.str "same")) (wCons (wVar 0) (wCons (wVar 1) wNil)))) (wCons (wC .none) wNil)))) wNil))) (wgName 5))
    (wSeq (wAsg (wBin wAdd (wVar 5) (wLst (wCons (wTup (wCons (wLst (wCons (wTup (wCons (wC (.str "kind")) (wCons (wVar 0) (wCons (wC (.str "nothing")) wNil)))) wNil)) (wCons (wTup (wCons (wC (.str "other")) (wCons (wVar 0) (wCons (wC (.str "a")) wNil)))) (wCons (wC (.bool false)) wNil)))) wNil))) (wgName 5))
    (wSeq (wAsg (wBin wAdd (wVar 5) (wLst (wCons (wTup (wCons (wLst (wCons (wTup (wCons (wC (.str "kind")) (wCons (wVar 0) (wCons (wC (.str "nothing")) wNil)))) wNil)) (wCons (wTup (wCons (wC (.str "most")) (wCons (wVar 0) (wCons (wVar 0) (wCons (wC (.int 0)) wNil))))) (wCons (wC (.bool false)) wNil)))) wNil))) (wgName 5))
    (wSeq (wAsg (wBin wAdd (wVar 5) (wLst (wCons (wTup (wCons (wLst (wCons (wTup (wCons (wC (.str "most")) (wCons (wTup wNil) (wCons (wVar 0) (wCons (wUn wNeg (wC (.int 3))) wNil))))) wNil)) (wCons (wTup (wCons (wC (.str "most")) (wCons (wTup wNil) (wCons (wVar 0) (wCons (wC (.int 2)) wNil))))) (wCons (wC (.bool true)) wNil)))) wNil))) (wgName 5))
    (wRet (wBin wAdd (wVar 5) (wLst (wCons (wTup (wCons (wLst (wCons (wTup (wCons (wC (.str "most")) (wCons (wVar 0) (wCons (wTup wNil) (wCons (wBin wSub (wC (.int 0)) (wVar 4)) wNil))))) wNil)) (wCons (wTup (wCons (wC (.str "most")) (wCons (wTup wNil) (wCons (wVar 0) (wCons (wBin wSub (wVar 4) (wC (.int 1))) wNil))))) (wCons (wC (.bool false)) wNil)))) (wCons (wTup (wCons (wLst wNil) (wCons (wTup (wCons (wC (.str "other")) (wCons (wVar 3) (wCons (wC (.str "a")) wNil)))) (wCons (wC .none) wNil)))) wNil))))))))))))))))))))))

def w_law_main (hs : NestedKey → Int) (f_law_deck : WF) (f_law_unknowns : WF) (f_law_draw : WF) (f_law_good : WF) (f_law_asked : WF) (f_is_contradiction : WF) (f_law_bad : WF) (f_settled : WF) (f_law_tests : WF) : WS :=
  (wSeq (wAsg (wCall 1 f_law_deck (wCons (wVar 0) wNil)) (wgName 1))
    (wSeq (wAsg (wCall 2 f_law_unknowns (wCons (wVar 1) (wCons (wC (.int 4)) wNil))) (wgName 2))
    (wSeq (wAsg (wTup (wCons (wC (.str "nothing")) (wCons (wC (.str "number")) (wCons (wC (.str "word")) wNil)))) (wgName 3))
    (wSeq (wAsg (wCall 2 f_law_draw (wCons (wVar 1) (wCons (wC (.int 4)) wNil))) (wgName 4))
    (wSeq (wAsg (wBin wAdd (wSl (wVar 2) (wPart (wVar 4)) wNoPart) (wSl (wVar 2) wNoPart (wPart (wVar 4)))) (wgLst 4 (wgCons (wgName 5) (wgCons (wgName 6) (wgCons (wgName 7) (wgCons (wgName 8) wgNil))))))
    (wSeq (wAsg (wB wTuple (wCons (wB wSorted (wCons (wLst (wCons (wTup (wCons (wVar 5) (wCons (wVar 3) wNil))) (wCons (wTup (wCons (wVar 6) (wCons (wVar 3) wNil))) (wCons (wTup (wCons (wVar 7) (wCons (wTup (wCons (wC (.str "number")) wNil)) wNil))) (wCons (wTup (wCons (wVar 8) (wCons (wTup (wCons (wC (.str "nothing")) (wCons (wC (.str "word")) wNil))) wNil))) wNil))))) wNil)) wNil)) (wgName 9))
    (wSeq (wFor (sLst (wCall 4 f_law_good (wCons (wVar 5) (wCons (wVar 6) (wCons (wVar 7) (wCons (wVar 8) wNil)))))) (wgName 10) (wSeq (wAsg (wCall 2 f_law_asked (wCons (wVar 9) (wCons (wVar 10) wNil))) (wgLst 2 (wgCons (wgName 11) (wgCons (wgName 12) wgNil))))
    (wSeq (wIfS (wOrT (wTest (wBin (wIsB true) (wCallP 2 f_is_contradiction [1, 0] (wCons (wB wTuple (wCons (wVar 10) wNil)) (wCons (wVar 9) wNil))) (wC (.bool false)))) (wTest (wBin wNotN (wVar 12) (wC .none)))) (wRet (wC (.bool false))) wNext)
    (wIfS (wOrT (wTest (wBin wNeL (wLc (sTup (wVar 11)) (wgTup 2 (wgCons (wgName 13) (wgCons (wgName 14) wgNil))) wYes (wVar 13) [13, 14]) (wVar 2))) (wNotT (wTest (wIsi tyInt (wBin (wNGet hs) (wB (wDictP hs) (wCons (wVar 11) wNil)) (wVar 7)))))) (wRet (wC (.bool false))) wNext))))
    (wSeq (wFor (sLst (wCall 4 f_law_bad (wCons (wVar 5) (wCons (wVar 6) (wCons (wVar 7) (wCons (wVar 8) wNil)))))) (wgName 10) (wSeq (wAsg (wCall 2 f_law_asked (wCons (wVar 9) (wCons (wVar 10) wNil))) (wgLst 2 (wgCons (wgName 11) (wgCons (wgName 12) wgNil))))
    (wSeq (wIfS (wOrT (wTest (wBin wNotN (wVar 11) (wC .none))) (wOrT (wTest (wBin wNeL (wVar 12) (wB wTuple (wCons (wVar 10) wNil)))) (wTest (wBin (wIsB true) (wCall 2 f_is_contradiction (wCons (wVar 9) (wCons (wB wTuple (wCons (wVar 10) wNil)) wNil))) (wC (.bool true)))))) (wRet (wC (.bool false))) wNext)
    (wIfS (wTest (wBin wNeL (wCall 2 f_law_asked (wCons (wVar 9) (wCons (wBin wAdd (wLst (wCons (wTup (wCons (wC (.str "kind")) (wCons (wVar 7) (wCons (wC (.str "number")) wNil)))) wNil)) (wSl (wVar 10) wNoPart (wPart (wC (.int 3))))) wNil))) (wLst (wCons (wC .none) (wCons (wB wTuple (wCons (wVar 10) wNil)) wNil))))) (wRet (wC (.bool false))) wNext))))
    (wSeq (wAsg (wLc (sLst (wCall 4 f_law_tests (wCons (wVar 5) (wCons (wVar 6) (wCons (wVar 7) (wCons (wVar 8) wNil)))))) (wgTup 3 (wgCons (wgName 10) (wgCons (wgName 16) (wgCons (wgName 17) wgNil)))) wYes (wTup (wCons (wCall 3 f_settled (wCons (wVar 9) (wCons (wB wTuple (wCons (wVar 10) wNil)) (wCons (wVar 16) wNil)))) (wCons (wVar 17) wNil))) [10, 16, 17]) (wgName 15))
    (wRet (wBin wEqL (wLc (sLst (wVar 15)) (wgTup 2 (wgCons (wgName 11) (wgCons (wgName 17) wgNil))) (wTest (wBin wNeL (wB wRepr (wCons (wVar 11) wNil)) (wB wRepr (wCons (wVar 17) wNil)))) (wC (.int 1)) [11, 17]) (wLst wNil))))))))))))

end K46

set_option Elab.async false
set_option linter.all false
set_option maxRecDepth 100000
set_option maxHeartbeats 1000000
/-! K46a: the choices of atoms written by hand, and what is solved of them. -/
namespace K46
open PySem L2 Dz Am

def far : Int := 1000000000000
def good (u v n w : Nat) : List (List Atm) := [
  [], [.most (some u) none (0 - far)], [.most none (some u) (0 - far), .most (some v) none (0 - far)],
  [.most (some u) (some v) (-1), .most (some v) (some n) (-1)],
  [.most (some u) (some v) 0, .most (some v) (some u) 0, .kind u .nu],
  [.pair false u w, .word false w "a", .word true u "b"], [.pair true u v, .pair true v w],
  [.pair true u v, .pair true v w, .pair true u w, .word true w "a"],
  [.kind w .no],
  [.word false u "zzzzzzzz", .word false v "zzzzzzzz", .pair false u v], [.most (some n) (some n) 0],
  [.most (some n) none 0, .most none (some n) 0], [.pair false u u], [.word true u "a", .word false v "a"],
  [.kind u .no, .kind v .wo, .kind n .nu, .kind w .wo]]
def bad (u v n w : Nat) : List (List Atm) := [
  [.kind u .wo, .kind u .nu], [.kind n .wo], [.kind w .nu],
  [.pair false u n], [.most (some u) (some w) 5], [.most (some u) (some u) (-1)], [.most (some u) none (-1 - far)],
  [.most none (some v) (-1 - far)], [.pair true v v], [.pair false u v, .pair true v u],
  [.pair false u v, .pair false w v, .pair true w u], [.word false u "a", .word false u "b"],
  [.word false u "a", .word true u "a"],
  [.word false u "a", .pair false v u, .word false v "aa"],
  [.word false u "a", .word false v "a", .pair true u v],
  [.kind u .no, .word true u "a"],
  [.most (some u) (some v) (-1), .most (some v) (some n) 0, .most (some n) (some u) 0], [.pair true u n],
  [.most (some u) (some v) (-2 * far), .most (some v) (some n) (-1)], [.kind w .no, .word false w "a"],
  [.most (some u) none 3, .most none (some u) (-4)], [.kind u .wo, .most none (some u) 0]]
def tests (u v n w : Nat) : List (List Atm × Atm × Option Bool) := [
  ([], .kind n .nu, some true), ([], .kind w .nu, some false), ([], .kind u .wo, none),
  ([.most (some u) (some v) 7], .kind v .nu, some true),
  ([.word true u "a"], .kind u .wo, some true), ([], .most (some n) none far, some true),
  ([], .most (some u) none far, none), ([], .most (some w) none far, some false),
  ([.most (some u) (some v) 2, .most (some v) (some n) 3], .most (some u) (some n) 5, some true),
  ([.most (some u) (some v) 2, .most (some v) (some n) 3], .most (some u) (some n) 4, none),
  ([.most (some u) (some v) 2], .most (some v) (some u) (-3), some false),
  ([.pair false u v], .pair true v u, some false), ([.kind w .wo], .pair false w w, some true),
  ([.pair false u v, .word false u "a"], .word false v "a", some true),
  ([.pair false u v, .word false u "a"], .word true v "b", some true), ([], .pair false w w, none),
  ([.word false u "a", .word false v "b"], .pair true u v, some true), ([], .pair true u n, some false),
  ([.word false u "a", .word true v "a"], .pair false u v, some false), ([], .pair true w w, some false),
  ([.word false u "a"], .pair false u v, none),
  ([.kind u .no], .word true u "a", some false),
  ([.kind u .no], .most (some u) (some u) 0, some false),
  ([.most none (some u) (-3)], .most none (some u) 2, some true),
  ([.most (some u) none (0 - far)], .most none (some u) (far - 1), some false), ([], .word true w "a", none)]
def fr46 (n w : Nat) : Fr := (List.range 4).map fun i => (i, if i = n then [.nu] else if i = w then [.no, .wo] else [.no, .nu, .wo])
def pad (s : List Atm) : List Atm := match s.getLast? with
  | none => []
  | some x => (s ++ [x, x, x, x]).take 4
def fitsB (fr : Fr) (as : List Atm) : Bool := as.all fun a => a.us.all fun u => decide (u ∈ fr.map (·.1))
def okB (a : Atm) : Bool := match a with
  | .word _ _ w => PyData.strOk w
  | _ => true
def goodOk (u v n w : Nat) : Bool := (good u v n w).all fun s => fitsB (fr46 n w) s && s.all okB && decide (s.length ≤ 4) && !isContr (fr46 n w) s && decide (contradiction (fr46 n w) (pad s) = none) &&
  (match solution (fr46 n w) (pad s) with
    | some l => decide (l.map (·.1) = [0, 1, 2, 3]) && (match lk l n with | some (.num _) => true | _ => false)
    | none => false)
def badOk (u v n w : Nat) : Bool := (bad u v n w).all fun s => fitsB (fr46 n w) s && s.all okB && decide (s.length ≤ 4) && decide (s ≠ []) && isContr (fr46 n w) s && decide (solution (fr46 n w) (pad s) = none) && decide (contradiction (fr46 n w) (pad s) = some s) &&
  decide (solution (fr46 n w) (pad (.kind n .nu :: s.take 3)) = none) && decide (contradiction (fr46 n w) (pad (.kind n .nu :: s.take 3)) = some s)
def testsOk (u v n w : Nat) : Bool := (tests u v n w).all fun t => fitsB (fr46 n w) (t.1 ++ [t.2.1]) && decide (t.1.length ≤ 4) && decide (settled (fr46 n w) t.1 t.2.1 = t.2.2)
theorem good_ok : ∀ r : Fin 4, goodOk (r.val % 4) ((r.val + 1) % 4) ((r.val + 2) % 4) ((r.val + 3) % 4) = true := by decide +kernel
theorem bad_ok : ∀ r : Fin 4, badOk (r.val % 4) ((r.val + 1) % 4) ((r.val + 2) % 4) ((r.val + 3) % 4) = true := by decide +kernel
theorem tests_ok : ∀ r : Fin 4, testsOk (r.val % 4) ((r.val + 1) % 4) ((r.val + 2) % 4) ((r.val + 3) % 4) = true := by decide +kernel
end K46

set_option Elab.async false
set_option linter.all false
set_option maxRecDepth 100000
set_option maxHeartbeats 400000
/-! K46v: the derivations (printed by gen.py). -/
namespace K46
open PySem L2 Dz

def top (i : Nat) : Stmt := PySem.Challenge.pw_failsalike_k46_atoms_by_hand.main.body.getD i (.Pass ⟨0, 0, 0, 0⟩)
abbrev s_unknowns_of : Stmt := top 8
abbrev s_kind_asked : Stmt := top 9
abbrev s_kinds_left : Stmt := top 10
abbrev s_edges_of : Stmt := top 11
abbrev s_numbers_solved : Stmt := top 12
abbrev s_classes_of : Stmt := top 13
abbrev s_words_told : Stmt := top 14
abbrev s_are_unlike : Stmt := top 15
abbrev s_word_of : Stmt := top 16
abbrev s_words_solved : Stmt := top 17
abbrev s_values_solved : Stmt := top 18
abbrev s_solution : Stmt := top 19
abbrev s_is_contradiction : Stmt := top 20
abbrev s_contradiction : Stmt := top 21
abbrev s_other_kinds : Stmt := top 22
abbrev s_negations : Stmt := top 23
abbrev s_settled : Stmt := top 24
abbrev s_law_deck : Stmt := top 26
abbrev s_law_draw : Stmt := top 27
abbrev s_law_pick : Stmt := top 28
abbrev s_law_unknowns : Stmt := top 29
abbrev s_law_asked : Stmt := top 30
abbrev s_law_good : Stmt := top 31
abbrev s_law_bad : Stmt := top 32
abbrev s_law_tests : Stmt := top 33
abbrev s_law_main : Stmt := top 34
abbrev N_unknowns_of : List Str := ["atom", "places", "unknown"]
theorem sc_unknowns_of : FnScope N_unknowns_of ["atom"] (defScope s_unknowns_of) := ⟨rfl, rfl, rfl, by decide +kernel, rfl, by decide +kernel, by decide +kernel⟩
abbrev N_kind_asked : List Str := ["atom"]
theorem sc_kind_asked : FnScope N_kind_asked ["atom"] (defScope s_kind_asked) := ⟨rfl, rfl, rfl, by decide +kernel, rfl, by decide +kernel, by decide +kernel⟩
abbrev N_kinds_left : List Str := ["frame", "atoms", "left", "atom", "kind", "unknown", "one"]
theorem sc_kinds_left : FnScope N_kinds_left ["frame", "atoms"] (defScope s_kinds_left) := ⟨rfl, rfl, rfl, by decide +kernel, rfl, by decide +kernel, by decide +kernel⟩
abbrev N_edges_of : List Str := ["numbers", "atoms", "edges", "atom", "unknown"]
theorem sc_edges_of : FnScope N_edges_of ["numbers", "atoms"] (defScope s_edges_of) := ⟨rfl, rfl, rfl, by decide +kernel, rfl, by decide +kernel, by decide +kernel⟩
abbrev N_numbers_solved : List Str := ["numbers", "atoms", "edges", "found", "unknown", "turn", "is_shorter", "one", "other", "most"]
theorem sc_numbers_solved : FnScope N_numbers_solved ["numbers", "atoms"] (defScope s_numbers_solved) := ⟨rfl, rfl, rfl, by decide +kernel, rfl, by decide +kernel, by decide +kernel⟩
abbrev N_classes_of : List Str := ["words", "atoms", "head", "unknown", "atom", "one", "other"]
theorem sc_classes_of : FnScope N_classes_of ["words", "atoms"] (defScope s_classes_of) := ⟨rfl, rfl, rfl, by decide +kernel, rfl, by decide +kernel, by decide +kernel⟩
abbrev N_words_told : List Str := ["head", "atoms", "told", "atom"]
theorem sc_words_told : FnScope N_words_told ["head", "atoms"] (defScope s_words_told) := ⟨rfl, rfl, rfl, by decide +kernel, rfl, by decide +kernel, by decide +kernel⟩
abbrev N_are_unlike : List Str := ["head", "told", "atoms", "atom", "one", "other"]
theorem sc_are_unlike : FnScope N_are_unlike ["head", "told", "atoms"] (defScope s_are_unlike) := ⟨rfl, rfl, rfl, by decide +kernel, rfl, by decide +kernel, by decide +kernel⟩
abbrev N_word_of : List Str := ["number", "word"]
theorem sc_word_of : FnScope N_word_of ["number"] (defScope s_word_of) := ⟨rfl, rfl, rfl, by decide +kernel, rfl, by decide +kernel, by decide +kernel⟩
abbrev N_words_solved : List Str := ["words", "atoms", "head", "told", "taken", "atom", "number", "unknown"]
theorem sc_words_solved : FnScope N_words_solved ["words", "atoms"] (defScope s_words_solved) := ⟨rfl, rfl, rfl, by decide +kernel, rfl, by decide +kernel, by decide +kernel⟩
abbrev N_values_solved : List Str := ["frame", "atoms", "left", "kinds", "unknown", "numbers", "words"]
theorem sc_values_solved : FnScope N_values_solved ["frame", "atoms"] (defScope s_values_solved) := ⟨rfl, rfl, rfl, by decide +kernel, rfl, by decide +kernel, by decide +kernel⟩
abbrev N_solution : List Str := ["frame", "atoms", "found", "unknown", "kinds"]
theorem sc_solution : FnScope N_solution ["frame", "atoms"] (defScope s_solution) := ⟨rfl, rfl, rfl, by decide +kernel, rfl, by decide +kernel, by decide +kernel⟩
abbrev N_is_contradiction : List Str := ["frame", "atoms"]
theorem sc_is_contradiction : FnScope N_is_contradiction ["frame", "atoms"] (defScope s_is_contradiction) := ⟨rfl, rfl, rfl, by decide +kernel, rfl, by decide +kernel, by decide +kernel⟩
abbrev N_contradiction : List Str := ["frame", "atoms", "found", "atom", "rest", "one"]
theorem sc_contradiction : FnScope N_contradiction ["frame", "atoms"] (defScope s_contradiction) := ⟨rfl, rfl, rfl, by decide +kernel, rfl, by decide +kernel, by decide +kernel⟩
abbrev N_other_kinds : List Str := ["unknown", "kind", "other"]
theorem sc_other_kinds : FnScope N_other_kinds ["unknown", "kind"] (defScope s_other_kinds) := ⟨rfl, rfl, rfl, by decide +kernel, rfl, by decide +kernel, by decide +kernel⟩
abbrev N_negations : List Str := ["atom", "found", "unknown", "one"]
theorem sc_negations : FnScope N_negations ["atom"] (defScope s_negations) := ⟨rfl, rfl, rfl, by decide +kernel, rfl, by decide +kernel, by decide +kernel⟩
abbrev N_settled : List Str := ["frame", "atoms", "test", "one"]
theorem sc_settled : FnScope N_settled ["frame", "atoms", "test"] (defScope s_settled) := ⟨rfl, rfl, rfl, by decide +kernel, rfl, by decide +kernel, by decide +kernel⟩
abbrev N_law_deck : List Str := ["_law_script", "_law_cells", "_law_total", "_law_cell"]
theorem sc_law_deck : FnScope N_law_deck ["_law_script"] (defScope s_law_deck) := ⟨rfl, rfl, rfl, by decide +kernel, rfl, by decide +kernel, by decide +kernel⟩
abbrev N_law_draw : List Str := ["_law_deck_here", "_law_many", "_law_turn", "_law_cell", "_law_mixed"]
theorem sc_law_draw : FnScope N_law_draw ["_law_deck_here", "_law_many"] (defScope s_law_draw) := ⟨rfl, rfl, rfl, by decide +kernel, rfl, by decide +kernel, by decide +kernel⟩
abbrev N_law_pick : List Str := ["_law_deck_here", "_law_some"]
theorem sc_law_pick : FnScope N_law_pick ["_law_deck_here", "_law_some"] (defScope s_law_pick) := ⟨rfl, rfl, rfl, by decide +kernel, rfl, by decide +kernel, by decide +kernel⟩
abbrev N_law_unknowns : List Str := ["_law_deck_here", "_law_many", "_law_way", "_law_first", "_law_words", "_law_letters", "_law_found", "_law_k", "_law_name"]
theorem sc_law_unknowns : FnScope N_law_unknowns ["_law_deck_here", "_law_many"] (defScope s_law_unknowns) := ⟨rfl, rfl, rfl, by decide +kernel, rfl, by decide +kernel, by decide +kernel⟩
abbrev N_law_asked : List Str := ["_law_around", "_law_some", "_law_a", "_law_b", "_law_c", "_law_d"]
theorem sc_law_asked : FnScope N_law_asked ["_law_around", "_law_some"] (defScope s_law_asked) := ⟨rfl, rfl, rfl, by decide +kernel, rfl, by decide +kernel, by decide +kernel⟩
abbrev N_law_good : List Str := ["_law_u", "_law_v", "_law_n", "_law_w", "_law_far", "_law_found"]
theorem sc_law_good : FnScope N_law_good ["_law_u", "_law_v", "_law_n", "_law_w"] (defScope s_law_good) := ⟨rfl, rfl, rfl, by decide +kernel, rfl, by decide +kernel, by decide +kernel⟩
abbrev N_law_bad : List Str := ["_law_u", "_law_v", "_law_n", "_law_w", "_law_far", "_law_found"]
theorem sc_law_bad : FnScope N_law_bad ["_law_u", "_law_v", "_law_n", "_law_w"] (defScope s_law_bad) := ⟨rfl, rfl, rfl, by decide +kernel, rfl, by decide +kernel, by decide +kernel⟩
abbrev N_law_tests : List Str := ["_law_u", "_law_v", "_law_n", "_law_w", "_law_far", "_law_found"]
theorem sc_law_tests : FnScope N_law_tests ["_law_u", "_law_v", "_law_n", "_law_w"] (defScope s_law_tests) := ⟨rfl, rfl, rfl, by decide +kernel, rfl, by decide +kernel, by decide +kernel⟩
abbrev N_law_main : List Str := ["_law_script", "_law_deck_here", "_law_spots", "_law_kinds", "_law_first", "_law_u", "_law_v", "_law_n", "_law_w", "_law_around", "_law_some", "_law_told", "_law_clash", "_law_spot", "_law_value", "_law_found", "_law_asked_here", "_law_due"]
theorem sc_law_main : FnScope N_law_main ["_law_script"] (defScope s_law_main) := ⟨rfl, rfl, rfl, by decide +kernel, rfl, by decide +kernel, by decide +kernel⟩
structure Tops (K : PySem.W.Frag) (mg : Str → Option Value) (base : Heap) (w0 : World) : Prop where
  a_unknowns_of : At1 K mg "unknowns_of" s_unknowns_of
  a_kind_asked : At1 K mg "kind_asked" s_kind_asked
  a_kinds_left : At1 K mg "kinds_left" s_kinds_left
  a_edges_of : At1 K mg "edges_of" s_edges_of
  a_numbers_solved : At1 K mg "numbers_solved" s_numbers_solved
  a_classes_of : At1 K mg "classes_of" s_classes_of
  a_words_told : At1 K mg "words_told" s_words_told
  a_are_unlike : At1 K mg "are_unlike" s_are_unlike
  a_word_of : At1 K mg "word_of" s_word_of
  a_words_solved : At1 K mg "words_solved" s_words_solved
  a_values_solved : At1 K mg "values_solved" s_values_solved
  a_solution : At1 K mg "solution" s_solution
  a_is_contradiction : At1 K mg "is_contradiction" s_is_contradiction
  a_contradiction : At1 K mg "contradiction" s_contradiction
  a_other_kinds : At1 K mg "other_kinds" s_other_kinds
  a_negations : At1 K mg "negations" s_negations
  a_settled : At1 K mg "settled" s_settled
  a_law_deck : At1 K mg "_law_deck" s_law_deck
  a_law_draw : At1 K mg "_law_draw" s_law_draw
  a_law_unknowns : At1 K mg "_law_unknowns" s_law_unknowns
  a_law_asked : At1 K mg "_law_asked" s_law_asked
  a_law_good : At1 K mg "_law_good" s_law_good
  a_law_bad : At1 K mg "_law_bad" s_law_bad
  a_law_tests : At1 K mg "_law_tests" s_law_tests
  a_law_main : At1 K mg "law" s_law_main
  b_all : mg "all" = none
  b_dict : mg "dict" = none
  b_int : mg "int" = none
  b_isinstance : mg "isinstance" = none
  b_len : mg "len" = none
  b_list : mg "list" = none
  b_range : mg "range" = none
  b_repr : mg "repr" = none
  b_sorted : mg "sorted" = none
  b_tuple : mg "tuple" = none
  k_CONTRARIES : DctIs K w0 mg "CONTRARIES" [("same", (.str "unlike")), ("unlike", (.str "same")), ("word", (.str "other")), ("other", (.str "word"))]
  c_KINDS : GlobIs K mg "KINDS" (.tup [(.str "nothing"), (.str "number"), (.str "word")])
  g_LETTERS : ∃ u, mg "LETTERS" = some u ∧ RelV (.str "abcdefghijklmnopqrstuvwxyz") u
  g_NUMBER : ∃ u, mg "NUMBER" = some u ∧ RelV (.str "number") u
  g_RANGE : ∃ u, mg "RANGE" = some u ∧ RelV (.int 1000000000000) u
  g_WORD : ∃ u, mg "WORD" = some u ∧ RelV (.str "word") u
  c_ZERO : GlobIs K mg "ZERO" (.tup [])
  sm : ∃ o, base.get? sysModules = some o
theorem Tops.i_LETTERS {K : PySem.W.Frag} {mg : Str → Option Value} {base : Heap} {w0 : World} (_ : Tops K mg base w0) : ∀ H, Is K H (.str "abcdefghijklmnopqrstuvwxyz") (.str "abcdefghijklmnopqrstuvwxyz") := fun _ => .str _
theorem Tops.i_NUMBER {K : PySem.W.Frag} {mg : Str → Option Value} {base : Heap} {w0 : World} (_ : Tops K mg base w0) : ∀ H, Is K H (.str "number") (.str "number") := fun _ => .str _
theorem Tops.i_RANGE {K : PySem.W.Frag} {mg : Str → Option Value} {base : Heap} {w0 : World} (_ : Tops K mg base w0) : ∀ H, Is K H (.int 1000000000000) (.int 1000000000000) := fun _ => .int _
theorem Tops.i_WORD {K : PySem.W.Frag} {mg : Str → Option Value} {base : Heap} {w0 : World} (_ : Tops K mg base w0) : ∀ H, Is K H (.str "word") (.str "word") := fun _ => .str _
section
variable {P : Program} {w0 : World} {K : PySem.W.Frag} {mg : Str → Option Value} {base : Heap}
theorem dv_unknowns_of (T : Tops K mg base w0) (f : Addr) (cdv : Value) (A : Around) (outer : List Env) (s : Shared) (H : Hp) (E : XK) (hgd : A.guards = some []) (hr : Room 0 (A.deeper (PyProof.Rows.envOfC "unknowns_of" (defScope s_unknowns_of) s.heap.objs.size f cdv))) :
  PSs (cxOf CX0 P w0 K mg base N_unknowns_of "unknowns_of" (defScope s_unknowns_of) f cdv A outer s H E).nox (defBody s_unknowns_of) (tDS K (w_unknowns_of)) :=
  (dss_cons (ds_set (i := 1) sc_unknowns_of.nd rfl (Or.inl rfl) (d_if (t_in hr (d_ix (d_var 0) d_int) (d_tup (da_cons d_str (da_cons d_str (da_cons d_str da_nil)))) (by rfl)) (d_slice (d_var 0) (do_some d_int) (do_some d_int)) (d_slice (d_var 0) (do_some d_int) (do_some d_int))))
    (dss_one (ds_ret (d_lc (own := [("unknown", 2)]) (di_tup (d_var 1)) (blkOk_by (own := [("unknown", 2)]) (N := N_unknowns_of) (sc := defScope s_unknowns_of) (by decide +kernel)) (fun _ _ _ _ _ => dg_name (i := 2) sc_unknowns_of.nd rfl (Or.inl rfl)) (fun _ _ _ _ _ => (dts_one (t_ne hr (d_var 2) (d_globE (by rfl) T.c_ZERO)))) (fun _ _ _ _ _ => (d_var 2)) sc_unknowns_of.nd))))
theorem dv_kind_asked (T : Tops K mg base w0) (f : Addr) (cdv : Value) (A : Around) (outer : List Env) (s : Shared) (H : Hp) (E : XK) (hgd : A.guards = some []) (hr : Room 0 (A.deeper (PyProof.Rows.envOfC "kind_asked" (defScope s_kind_asked) s.heap.objs.size f cdv))) :
  PSs (cxOf CX0 P w0 K mg base N_kind_asked "kind_asked" (defScope s_kind_asked) f cdv A outer s H E).nox (defBody s_kind_asked) (tDS K (w_kind_asked)) :=
  (dss_cons (ds_if (t_eq hr (d_ix (d_var 0) d_int) d_str) (dss_one (ds_ret (d_ix (d_var 0) d_int))) dss_nil)
    (dss_one (ds_ret (d_if (t_eq hr (d_ix (d_var 0) d_int) d_str) (d_glob (by rfl) T.g_NUMBER T.i_NUMBER) (d_glob (by rfl) T.g_WORD T.i_WORD)))))
theorem dv_kinds_left (T : Tops K mg base w0) {f_kind_asked : WF} (D_kind_asked : Def P w0 K mg base 1 "kind_asked" s_kind_asked ["atom"] f_kind_asked) {f_unknowns_of : WF} (D_unknowns_of : Def P w0 K mg base 1 "unknowns_of" s_unknowns_of ["atom"] f_unknowns_of) (f : Addr) (cdv : Value) (A : Around) (outer : List Env) (s : Shared) (H : Hp) (E : XK) (hgd : A.guards = some []) (hr : Room 1 (A.deeper (PyProof.Rows.envOfC "kinds_left" (defScope s_kinds_left) s.heap.objs.size f cdv))) :
  PSs (cxOf CX0 P w0 K mg base N_kinds_left "kinds_left" (defScope s_kinds_left) f cdv A outer s H E).nox (defBody s_kinds_left) (tDS K (w_kinds_left (hsW w0) f_kind_asked f_unknowns_of)) :=
  (dss_cons (ds_set (i := 2) sc_kinds_left.nd rfl (Or.inl rfl) (d_dictP hr (by rfl) T.b_dict (d_var 0)))
    (dss_cons (ds_for (di_tup (d_var 1)) (dg_name (i := 3) sc_kinds_left.nd rfl (Or.inl rfl)) (dss_cons (ds_set (i := 4) sc_kinds_left.nd rfl (Or.inr rfl) (d_f D_kind_asked hgd hr (by decide) (by rfl) (fun _ _ _ _ _ _ us hl => match us, hl with | [_], _ => rfl) (da_cons (d_var 3) da_nil)))
    (dss_one (ds_for (di_list (d_f D_unknowns_of hgd hr (by decide) (by rfl) (fun _ _ _ _ _ _ us hl => match us, hl with | [_], _ => rfl) (da_cons (d_var 3) da_nil))) (dg_name (i := 5) sc_kinds_left.nd rfl (Or.inl rfl)) (dss_one (ds_nput hr (d_var 2) (d_var 5) (d_tuple (by rfl) T.b_tuple (d_lc (own := [("one", 6)]) (di_tup (d_nget hr (d_var 2) (d_var 5))) (blkOk_by (own := [("one", 6)]) (N := N_kinds_left) (sc := defScope s_kinds_left) (by decide +kernel)) (fun _ _ _ _ _ => dg_name (i := 6) sc_kinds_left.nd rfl (Or.inl rfl)) (fun _ _ _ _ _ => (dts_one (t_eq hr (d_var 6) (d_var 4)))) (fun _ _ _ _ _ => (d_var 6)) sc_kinds_left.nd))))))))
    (dss_one (ds_ret (d_frzN (d_var 2))))))
theorem dv_edges_of (T : Tops K mg base w0) (f : Addr) (cdv : Value) (A : Around) (outer : List Env) (s : Shared) (H : Hp) (E : XK) (hgd : A.guards = some []) (hr : Room 0 (A.deeper (PyProof.Rows.envOfC "edges_of" (defScope s_edges_of) s.heap.objs.size f cdv))) :
  PSs (cxOf CX0 P w0 K mg base N_edges_of "edges_of" (defScope s_edges_of) f cdv A outer s H E).nox (defBody s_edges_of) (tDS K (w_edges_of)) :=
  (dss_cons (ds_setLcM (own := [("atom", 3)]) (i := 2) rfl rfl (sw_true rfl rfl rfl (by decide +kernel)) (di_tup (d_var 1)) (blkOk_by (own := [("atom", 3)]) (N := N_edges_of) (sc := defScope s_edges_of) (by decide +kernel)) (fun _ _ _ _ _ => dg_name (i := 3) sc_edges_of.nd rfl (Or.inl rfl)) (fun _ _ _ _ _ => (dts_one (t_eq hr (d_ix (d_var 3) d_int) d_str))) (fun _ _ _ _ _ => (d_tup (da_cons (d_ix (d_var 3) d_int) (da_cons (d_ix (d_var 3) d_int) (da_cons (d_ix (d_var 3) d_int) da_nil))))) sc_edges_of.nd)
    (dss_cons (ds_for (di_list (d_var 0)) (dg_name (i := 4) sc_edges_of.nd rfl (Or.inl rfl)) (dss_one (ds_expr (d_extend (d_var 2) (d_lst (da_cons (d_tup (da_cons (d_var 4) (da_cons (d_globE (by rfl) T.c_ZERO) (da_cons (d_glob (by rfl) T.g_RANGE T.i_RANGE) da_nil)))) (da_cons (d_tup (da_cons (d_globE (by rfl) T.c_ZERO) (da_cons (d_var 4) (da_cons (d_glob (by rfl) T.g_RANGE T.i_RANGE) da_nil)))) da_nil)))))))
    (dss_one (ds_ret (d_frz (d_var 2))))))
theorem dv_numbers_solved (T : Tops K mg base w0) {f_edges_of : WF} (D_edges_of : Def P w0 K mg base 1 "edges_of" s_edges_of ["numbers", "atoms"] f_edges_of) (f : Addr) (cdv : Value) (A : Around) (outer : List Env) (s : Shared) (H : Hp) (E : XK) (hgd : A.guards = some []) (hr : Room 1 (A.deeper (PyProof.Rows.envOfC "numbers_solved" (defScope s_numbers_solved) s.heap.objs.size f cdv))) :
  PSs (cxOf CX0 P w0 K mg base N_numbers_solved "numbers_solved" (defScope s_numbers_solved) f cdv A outer s H E).nox (defBody s_numbers_solved) (tDS K (w_numbers_solved (hsW w0) f_edges_of)) :=
  (dss_pureN (dss_cons (ds_set (i := 2) sc_numbers_solved.nd rfl (Or.inl rfl) (d_f D_edges_of hgd hr (by decide) (by rfl) (fun _ _ _ _ _ _ us hl => match us, hl with | [_, _], _ => rfl) (da_cons (d_var 0) (da_cons (d_var 1) da_nil))))
    (dss_cons (ds_setDcN (own := [("unknown", 4)]) (i := 3) hr rfl rfl (sw_trueD rfl rfl rfl (by decide +kernel)) (di_list (d_var 0)) (blkOk_by (own := [("unknown", 4)]) (N := N_numbers_solved) (sc := defScope s_numbers_solved) (by decide +kernel)) (fun _ _ _ _ _ => dg_name (i := 4) sc_numbers_solved.nd rfl (Or.inl rfl)) (fun _ _ _ _ _ => dts_nil) (fun _ _ _ _ _ => (d_var 4)) (fun _ _ _ _ _ => (d_glob (by rfl) T.g_RANGE T.i_RANGE)) sc_numbers_solved.nd)
    (dss_cons (ds_nput hr (d_var 3) (d_globE (by rfl) T.c_ZERO) d_int)
    (dss_cons (ds_for (di_range1 (by rfl) T.b_range (d_add (d_lenN (by rfl) T.b_len (d_var 3)) d_int)) (dg_name (i := 5) sc_numbers_solved.nd rfl (Or.inl rfl)) (dss_cons (ds_set (i := 6) sc_numbers_solved.nd rfl (Or.inl rfl) d_bl)
    (dss_cons (ds_for (di_list (d_var 2)) (dg_tup (n := 3) rfl (dgs_cons (dg_name (i := 7) sc_numbers_solved.nd rfl (Or.inl rfl)) (dgs_cons (dg_name (i := 8) sc_numbers_solved.nd rfl (Or.inl rfl)) (dgs_cons (dg_name (i := 9) sc_numbers_solved.nd rfl (Or.inl rfl)) dgs_nil)))) (dss_one (ds_if (t_lt hr (d_add (d_nget hr (d_var 3) (d_var 8)) (d_var 9)) (d_nget hr (d_var 3) (d_var 7))) (dss_cons (ds_nput hr (d_var 3) (d_var 7) (d_add (d_nget hr (d_var 3) (d_var 8)) (d_var 9)))
    (dss_one (ds_set (i := 6) sc_numbers_solved.nd rfl (Or.inl rfl) d_bl))) dss_nil)))
    (dss_one (ds_if (dt_not (dt_val (d_var 6))) (dss_one (ds_ret (d_frzN (d_var 3)))) dss_nil)))))
    (dss_one (ds_ret d_non)))))))
theorem dv_classes_of (T : Tops K mg base w0) (f : Addr) (cdv : Value) (A : Around) (outer : List Env) (s : Shared) (H : Hp) (E : XK) (hgd : A.guards = some []) (hr : Room 0 (A.deeper (PyProof.Rows.envOfC "classes_of" (defScope s_classes_of) s.heap.objs.size f cdv))) :
  PSs (cxOf CX0 P w0 K mg base N_classes_of "classes_of" (defScope s_classes_of) f cdv A outer s H E).nox (defBody s_classes_of) (tDS K (w_classes_of (hsW w0))) :=
  (dss_cons (ds_setDcN (own := [("unknown", 3)]) (i := 2) hr rfl rfl (sw_trueD rfl rfl rfl (by decide +kernel)) (di_list (d_var 0)) (blkOk_by (own := [("unknown", 3)]) (N := N_classes_of) (sc := defScope s_classes_of) (by decide +kernel)) (fun _ _ _ _ _ => dg_name (i := 3) sc_classes_of.nd rfl (Or.inl rfl)) (fun _ _ _ _ _ => dts_nil) (fun _ _ _ _ _ => (d_var 3)) (fun _ _ _ _ _ => (d_var 3)) sc_classes_of.nd)
    (dss_cons (ds_for (di_tup (d_var 1)) (dg_name (i := 4) sc_classes_of.nd rfl (Or.inl rfl)) (dss_one (ds_if (t_eq hr (d_ix (d_var 4) d_int) d_str) (dss_cons (ds_par (i := 5) (j := 6) sc_classes_of.nd rfl rfl (by decide) rfl rfl (da_cons (d_nget hr (d_var 2) (d_ix (d_var 4) d_int)) (da_cons (d_nget hr (d_var 2) (d_ix (d_var 4) d_int)) da_nil)) (by rfl))
    (dss_one (ds_for (di_list (d_var 0)) (dg_name (i := 3) sc_classes_of.nd rfl (Or.inl rfl)) (dss_one (ds_if (t_eq hr (d_nget hr (d_var 2) (d_var 3)) (d_var 6)) (dss_one (ds_nput hr (d_var 2) (d_var 3) (d_var 5))) dss_nil))))) dss_nil)))
    (dss_one (ds_ret (d_frzN (d_var 2))))))
theorem dv_words_told (T : Tops K mg base w0) (f : Addr) (cdv : Value) (A : Around) (outer : List Env) (s : Shared) (H : Hp) (E : XK) (hgd : A.guards = some []) (hr : Room 0 (A.deeper (PyProof.Rows.envOfC "words_told" (defScope s_words_told) s.heap.objs.size f cdv))) :
  PSs (cxOf CX0 P w0 K mg base N_words_told "words_told" (defScope s_words_told) f cdv A outer s H E).nox (defBody s_words_told) (tDS K (w_words_told (hsW w0))) :=
  (dss_cons (ds_set (i := 2) sc_words_told.nd rfl (Or.inl rfl) d_dctN0)
    (dss_cons (ds_for (di_tup (d_var 1)) (dg_name (i := 3) sc_words_told.nd rfl (Or.inl rfl)) (dss_one (ds_if (PW.pt (dw_and (t_eq hr (d_ix (d_var 3) d_int) d_str) (dw_and1 (t_ne hr (d_nsetdef hr (d_var 2) (d_ngetA hr (d_var 0) (d_ix (d_var 3) d_int)) (d_ix (d_var 3) d_int) ⟨rfl, rfl, rfl, rfl⟩) (d_ix (d_var 3) d_int))))) (dss_one (ds_ret d_non)) dss_nil)))
    (dss_one (ds_ret (d_var 2)))))
theorem dv_are_unlike (T : Tops K mg base w0) (f : Addr) (cdv : Value) (A : Around) (outer : List Env) (s : Shared) (H : Hp) (E : XK) (hgd : A.guards = some []) (hr : Room 0 (A.deeper (PyProof.Rows.envOfC "are_unlike" (defScope s_are_unlike) s.heap.objs.size f cdv))) :
  PSs (cxOf CX0 P w0 K mg base N_are_unlike "are_unlike" (defScope s_are_unlike) f cdv A outer s H E).nox (defBody s_are_unlike) (tDS K (w_are_unlike (hsW w0))) :=
  (dss_cons (ds_for (di_tup (d_var 2)) (dg_name (i := 3) sc_are_unlike.nd rfl (Or.inl rfl)) (dss_cons (ds_if (PW.pt (dw_and (t_eq hr (d_ix (d_var 3) d_int) d_str) (dw_and1 (t_eq hr (d_nget1 hr (d_var 1) (d_ngetA hr (d_var 0) (d_ix (d_var 3) d_int)) ⟨rfl, rfl, rfl, rfl⟩) (d_ix (d_var 3) d_int))))) (dss_one (ds_ret d_bl)) dss_nil)
    (dss_one (ds_if (t_eq hr (d_ix (d_var 3) d_int) d_str) (dss_cons (ds_par (i := 4) (j := 5) sc_are_unlike.nd rfl rfl (by decide) rfl rfl (da_cons (d_ngetA hr (d_var 0) (d_ix (d_var 3) d_int)) (da_cons (d_ngetA hr (d_var 0) (d_ix (d_var 3) d_int)) da_nil)) (by rfl))
    (dss_one (ds_if (PW.pt (dw_or (t_eq hr (d_var 4) (d_var 5)) (dw_or1 (PW.pt (dw_and (t_inA hr (d_var 4) (d_var 1) (by rfl)) (dw_and1 (t_eq hr (d_ngetA hr (d_var 1) (d_var 4)) (d_nget1 hr (d_var 1) (d_var 5) ⟨rfl, rfl, rfl, rfl⟩)))))))) (dss_one (ds_ret d_bl)) dss_nil))) dss_nil))))
    (dss_one (ds_ret d_bl)))
theorem dv_word_of (T : Tops K mg base w0) (f : Addr) (cdv : Value) (A : Around) (outer : List Env) (s : Shared) (H : Hp) (E : XK) (hgd : A.guards = some []) (hr : Room 0 (A.deeper (PyProof.Rows.envOfC "word_of" (defScope s_word_of) s.heap.objs.size f cdv))) :
  PSs (cxOf CX0 P w0 K mg base N_word_of "word_of" (defScope s_word_of) f cdv A outer s H E).nox (defBody s_word_of) (tDS K (w_word_of)) :=
  (dss_cons (ds_set (i := 1) sc_word_of.nd rfl (Or.inl rfl) d_str)
    (dss_cons (ds_while (t_ge (d_var 0) d_int) (dss_cons (ds_set (i := 1) sc_word_of.nd rfl (Or.inl rfl) (d_add (d_ix (d_glob (by rfl) T.g_LETTERS T.i_LETTERS) (d_mod (d_var 0) (d_len (by rfl) T.b_len (d_glob (by rfl) T.g_LETTERS T.i_LETTERS)))) (d_var 1)))
    (dss_one (ds_set (i := 0) sc_word_of.nd rfl (Or.inl rfl) (d_sub (d_div (d_var 0) (d_len (by rfl) T.b_len (d_glob (by rfl) T.g_LETTERS T.i_LETTERS))) d_int)))))
    (dss_one (ds_ret (d_var 1)))))
theorem dv_words_solved (T : Tops K mg base w0) {f_classes_of : WF} (D_classes_of : Def P w0 K mg base 1 "classes_of" s_classes_of ["words", "atoms"] f_classes_of) {f_words_told : WF} (D_words_told : Def P w0 K mg base 1 "words_told" s_words_told ["head", "atoms"] f_words_told) {f_are_unlike : WF} (D_are_unlike : Def P w0 K mg base 1 "are_unlike" s_are_unlike ["head", "told", "atoms"] f_are_unlike) {f_word_of : WF} (D_word_of : Def P w0 K mg base 1 "word_of" s_word_of ["number"] f_word_of) (f : Addr) (cdv : Value) (A : Around) (outer : List Env) (s : Shared) (H : Hp) (E : XK) (hgd : A.guards = some []) (hr : Room 1 (A.deeper (PyProof.Rows.envOfC "words_solved" (defScope s_words_solved) s.heap.objs.size f cdv))) :
  PSs (cxOf CX0 P w0 K mg base N_words_solved "words_solved" (defScope s_words_solved) f cdv A outer s H E).nox (defBody s_words_solved) (tDS K (w_words_solved (hsW w0) f_classes_of f_words_told f_are_unlike f_word_of)) :=
  (dss_pureN (dss_cons (ds_set (i := 2) sc_words_solved.nd rfl (Or.inr rfl) (d_f D_classes_of hgd hr (by decide) (by rfl) (fun _ _ _ _ _ _ us hl => match us, hl with | [_, _], _ => rfl) (da_cons (d_var 0) (da_cons (d_var 1) da_nil))))
    (dss_cons (ds_set (i := 3) sc_words_solved.nd rfl (Or.inr rfl) (d_f D_words_told hgd hr (by decide) (by rfl) (fun _ _ _ _ _ _ us hl => match us, hl with | [_, _], _ => rfl) (da_cons (d_var 2) (da_cons (d_var 1) da_nil))))
    (dss_cons (ds_if (PW.pt (dw_or (t_is (d_var 3) d_non) (dw_or1 (dt_not (dt_val (d_f D_are_unlike hgd hr (by decide) (by rfl) (fun _ _ _ _ _ _ us hl => match us, hl with | [_, _, _], _ => rfl) (da_cons (d_var 2) (da_cons (d_var 3) (da_cons (d_var 1) da_nil))))))))) (dss_one (ds_ret d_non)) dss_nil)
    (dss_cons (ds_setDcK (own := [("atom", 5)]) (i := 4) rfl rfl (sw_trueD rfl rfl rfl (by decide +kernel)) (di_tup (d_var 1)) (blkOk_by (own := [("atom", 5)]) (N := N_words_solved) (sc := defScope s_words_solved) (by decide +kernel)) (fun _ _ _ _ _ => dg_name (i := 5) sc_words_solved.nd rfl (Or.inl rfl)) (fun _ _ _ _ _ => (dts_one (t_in hr (d_ix (d_var 5) d_int) (d_tup (da_cons d_str (da_cons d_str da_nil))) (by rfl)))) (fun _ _ _ _ _ => (d_ix (d_var 5) d_int)) (fun _ _ _ _ _ => d_bl) sc_words_solved.nd)
    (dss_cons (ds_set (i := 6) sc_words_solved.nd rfl (Or.inl rfl) d_int)
    (dss_cons (ds_for (di_list (d_var 0)) (dg_name (i := 7) sc_words_solved.nd rfl (Or.inl rfl)) (dss_one (ds_if (t_notinA hr (d_ngetA hr (d_var 2) (d_var 7)) (d_var 3) (by rfl)) (dss_cons (ds_while (t_inK hr (d_f D_word_of hgd hr (by decide) (by rfl) (fun _ _ _ _ _ _ us hl => match us, hl with | [_], _ => rfl) (da_cons (d_var 6) da_nil)) (d_var 4) (by rfl)) (dss_one (ds_augAdd (i := 6) sc_words_solved.nd rfl (Or.inl rfl) d_int)))
    (dss_cons (ds_nput hr (d_var 3) (d_ngetA hr (d_var 2) (d_var 7)) (d_f D_word_of hgd hr (by decide) (by rfl) (fun _ _ _ _ _ _ us hl => match us, hl with | [_], _ => rfl) (da_cons (d_var 6) da_nil)))
    (dss_one (ds_augAdd (i := 6) sc_words_solved.nd rfl (Or.inl rfl) d_int)))) dss_nil)))
    (dss_one (ds_ret (d_frzN (d_dcN (own := [("unknown", 7)]) hr (di_list (d_var 0)) (blkOk_by (own := [("unknown", 7)]) (N := N_words_solved) (sc := defScope s_words_solved) (by decide +kernel)) (fun _ _ _ _ _ => dg_name (i := 7) sc_words_solved.nd rfl (Or.inl rfl)) (fun _ _ _ _ _ => dts_nil) (fun _ _ _ _ _ => (d_var 7)) (fun _ _ _ _ _ => (d_ngetA hr (d_var 3) (d_ngetA hr (d_var 2) (d_var 7)))) sc_words_solved.nd)))))))))))
theorem dv_values_solved (T : Tops K mg base w0) {f_kinds_left : WF} (D_kinds_left : Def P w0 K mg base 2 "kinds_left" s_kinds_left ["frame", "atoms"] f_kinds_left) {f_numbers_solved : WF} (D_numbers_solved : Def P w0 K mg base 2 "numbers_solved" s_numbers_solved ["numbers", "atoms"] f_numbers_solved) {f_words_solved : WF} (D_words_solved : Def P w0 K mg base 2 "words_solved" s_words_solved ["words", "atoms"] f_words_solved) (f : Addr) (cdv : Value) (A : Around) (outer : List Env) (s : Shared) (H : Hp) (E : XK) (hgd : A.guards = some []) (hr : Room 2 (A.deeper (PyProof.Rows.envOfC "values_solved" (defScope s_values_solved) s.heap.objs.size f cdv))) :
  PSs (cxOf CX0 P w0 K mg base N_values_solved "values_solved" (defScope s_values_solved) f cdv A outer s H E).nox (defBody s_values_solved) (tDS K (w_values_solved (hsW w0) f_kinds_left f_numbers_solved f_words_solved)) :=
  (dss_cons (ds_set (i := 2) sc_values_solved.nd rfl (Or.inr rfl) (d_f D_kinds_left hgd hr (by decide) (by rfl) (fun _ _ _ _ _ _ us hl => match us, hl with | [_, _], _ => rfl) (da_cons (d_var 0) (da_cons (d_var 1) da_nil))))
    (dss_cons (ds_if (t_inVals hr (by rfl) (d_tup da_nil) (d_var 2)) (dss_one (ds_ret d_non)) dss_nil)
    (dss_cons (ds_set (i := 3) sc_values_solved.nd rfl (Or.inr rfl) (d_dcN (own := [("unknown", 4)]) hr (di_keysN (d_var 2)) (blkOk_by (own := [("unknown", 4)]) (N := N_values_solved) (sc := defScope s_values_solved) (by decide +kernel)) (fun _ _ _ _ _ => dg_name (i := 4) sc_values_solved.nd rfl (Or.inl rfl)) (fun _ _ _ _ _ => dts_nil) (fun _ _ _ _ _ => (d_var 4)) (fun _ _ _ _ _ => (d_ix (d_ngetA hr (d_var 2) (d_var 4)) d_int)) sc_values_solved.nd))
    (dss_frzNV 3 (dss_cons (ds_set (i := 5) sc_values_solved.nd rfl (Or.inr rfl) (d_f D_numbers_solved hgd hr (by decide) (by rfl) (fun _ _ _ _ _ _ us hl => match us, hl with | [_, _], _ => rfl) (da_cons (d_lc (own := [("unknown", 4)]) (di_keysN (d_var 3)) (blkOk_by (own := [("unknown", 4)]) (N := N_values_solved) (sc := defScope s_values_solved) (by decide +kernel)) (fun _ _ _ _ _ => dg_name (i := 4) sc_values_solved.nd rfl (Or.inl rfl)) (fun _ _ _ _ _ => (dts_one (t_eq hr (d_ngetA hr (d_var 3) (d_var 4)) (d_glob (by rfl) T.g_NUMBER T.i_NUMBER)))) (fun _ _ _ _ _ => (d_var 4)) sc_values_solved.nd) (da_cons (d_var 1) da_nil))))
    (dss_cons (ds_set (i := 6) sc_values_solved.nd rfl (Or.inr rfl) (d_f D_words_solved hgd hr (by decide) (by rfl) (fun _ _ _ _ _ _ us hl => match us, hl with | [_, _], _ => rfl) (da_cons (d_lc (own := [("unknown", 4)]) (di_keysN (d_var 3)) (blkOk_by (own := [("unknown", 4)]) (N := N_values_solved) (sc := defScope s_values_solved) (by decide +kernel)) (fun _ _ _ _ _ => dg_name (i := 4) sc_values_solved.nd rfl (Or.inl rfl)) (fun _ _ _ _ _ => (dts_one (t_eq hr (d_ngetA hr (d_var 3) (d_var 4)) (d_glob (by rfl) T.g_WORD T.i_WORD)))) (fun _ _ _ _ _ => (d_var 4)) sc_values_solved.nd) (da_cons (d_var 1) da_nil))))
    (dss_cons (ds_if (PW.pt (dw_or (t_is (d_var 5) d_non) (dw_or1 (t_is (d_var 6) d_non)))) (dss_one (ds_ret d_non)) dss_nil)
    (dss_one (ds_ret (d_frzN (d_dcN (own := [("unknown", 4)]) hr (di_keysN (d_var 3)) (blkOk_by (own := [("unknown", 4)]) (N := N_values_solved) (sc := defScope s_values_solved) (by decide +kernel)) (fun _ _ _ _ _ => dg_name (i := 4) sc_values_solved.nd rfl (Or.inl rfl)) (fun _ _ _ _ _ => dts_nil) (fun _ _ _ _ _ => (d_var 4)) (fun _ _ _ _ _ => (d_nget2 hr (d_var 5) (d_var 4) (d_nget1 hr (d_var 6) (d_var 4) ⟨rfl, rfl, rfl, rfl⟩) ⟨rfl, rfl, rfl, rfl⟩)) sc_values_solved.nd)))))))))))
theorem dv_solution (T : Tops K mg base w0) {f_values_solved : WF} (D_values_solved : Def P w0 K mg base 3 "values_solved" s_values_solved ["frame", "atoms"] f_values_solved) (f : Addr) (cdv : Value) (A : Around) (outer : List Env) (s : Shared) (H : Hp) (E : XK) (hgd : A.guards = some []) (hr : Room 3 (A.deeper (PyProof.Rows.envOfC "solution" (defScope s_solution) s.heap.objs.size f cdv))) :
  PSs (cxOf CX0 P w0 K mg base N_solution "solution" (defScope s_solution) f cdv A outer s H E).nox (defBody s_solution) (tDS K (w_solution (hsW w0) f_values_solved)) :=
  (dss_cons (ds_set (i := 2) sc_solution.nd rfl (Or.inr rfl) (d_f D_values_solved hgd hr (by decide) (by rfl) (fun _ _ _ _ _ _ us hl => match us, hl with | [_, _], _ => rfl) (da_cons (d_var 0) (da_cons (d_var 1) da_nil))))
    (dss_one (ds_ret (d_if (t_is (d_var 2) d_non) d_non (d_tuple (by rfl) T.b_tuple (d_lc (own := [("unknown", 3), ("kinds", 4)]) (di_tup (d_var 0)) (blkOk_by (own := [("unknown", 3), ("kinds", 4)]) (N := N_solution) (sc := defScope s_solution) (by decide +kernel)) (fun _ _ _ _ _ => dg_tup (n := 2) rfl (dgs_cons (dg_name (i := 3) sc_solution.nd rfl (Or.inl rfl)) (dgs_cons (dg_name (i := 4) sc_solution.nd rfl (Or.inl rfl)) dgs_nil))) (fun _ _ _ _ _ => dts_nil) (fun _ _ _ _ _ => (d_tup (da_cons (d_var 3) (da_cons (d_ngetA hr (d_var 2) (d_var 3)) da_nil)))) sc_solution.nd))))))
theorem dv_is_contradiction (T : Tops K mg base w0) {f_values_solved : WF} (D_values_solved : Def P w0 K mg base 3 "values_solved" s_values_solved ["frame", "atoms"] f_values_solved) (f : Addr) (cdv : Value) (A : Around) (outer : List Env) (s : Shared) (H : Hp) (E : XK) (hgd : A.guards = some []) (hr : Room 3 (A.deeper (PyProof.Rows.envOfC "is_contradiction" (defScope s_is_contradiction) s.heap.objs.size f cdv))) :
  PSs (cxOf CX0 P w0 K mg base N_is_contradiction "is_contradiction" (defScope s_is_contradiction) f cdv A outer s H E).nox (defBody s_is_contradiction) (tDS K (w_is_contradiction f_values_solved)) :=
  (dss_one (ds_ret (c_is (d_f D_values_solved hgd hr (by decide) (by rfl) (fun _ _ _ _ _ _ us hl => match us, hl with | [_, _], _ => rfl) (da_cons (d_var 0) (da_cons (d_var 1) da_nil))) d_non)))
theorem dv_contradiction (T : Tops K mg base w0) {f_is_contradiction : WF} (D_is_contradiction : Def P w0 K mg base 4 "is_contradiction" s_is_contradiction ["frame", "atoms"] f_is_contradiction) (f : Addr) (cdv : Value) (A : Around) (outer : List Env) (s : Shared) (H : Hp) (E : XK) (hgd : A.guards = some []) (hr : Room 4 (A.deeper (PyProof.Rows.envOfC "contradiction" (defScope s_contradiction) s.heap.objs.size f cdv))) :
  PSs (cxOf CX0 P w0 K mg base N_contradiction "contradiction" (defScope s_contradiction) f cdv A outer s H E).nox (defBody s_contradiction) (tDS K (w_contradiction (hsW w0) f_is_contradiction)) :=
  (dss_pureN (dss_cons (ds_if (dt_not (dt_val (d_f D_is_contradiction hgd hr (by decide) (by rfl) (fun _ _ _ _ _ _ us hl => match us, hl with | [_, _], _ => rfl) (da_cons (d_var 0) (da_cons (d_var 1) da_nil))))) (dss_one (ds_ret d_non)) dss_nil)
    (dss_cons (ds_set (i := 2) sc_contradiction.nd rfl (Or.inl rfl) (d_listN (by rfl) T.b_list (d_dcN (own := [("atom", 3)]) hr (di_tup (d_var 1)) (blkOk_by (own := [("atom", 3)]) (N := N_contradiction) (sc := defScope s_contradiction) (by decide +kernel)) (fun _ _ _ _ _ => dg_name (i := 3) sc_contradiction.nd rfl (Or.inl rfl)) (fun _ _ _ _ _ => dts_nil) (fun _ _ _ _ _ => (d_var 3)) (fun _ _ _ _ _ => d_bl) sc_contradiction.nd)))
    (dss_cons (ds_for (di_list (d_list (by rfl) T.b_list (d_var 2))) (dg_name (i := 3) sc_contradiction.nd rfl (Or.inr rfl)) (dss_cons (ds_setLc (own := [("one", 5)]) (i := 4) rfl rfl (sw_true rfl rfl rfl (by decide +kernel)) (di_list (d_var 2)) (blkOk_by (own := [("one", 5)]) (N := N_contradiction) (sc := defScope s_contradiction) (by decide +kernel)) (fun _ _ _ _ _ => dg_name (i := 5) sc_contradiction.nd rfl (Or.inl rfl)) (fun _ _ _ _ _ => (dts_one (t_ne hr (d_var 5) (d_var 3)))) (fun _ _ _ _ _ => (d_var 5)) sc_contradiction.nd)
    (dss_one (ds_if (dt_val (d_f D_is_contradiction hgd hr (by decide) (by rfl) (fun _ _ _ _ _ _ us hl => match us, hl with | [_, _], _ => rfl) (da_cons (d_var 0) (da_cons (d_tuple (by rfl) T.b_tuple (d_var 4)) da_nil)))) (dss_one (ds_set (i := 2) sc_contradiction.nd rfl (Or.inl rfl) (d_var 4))) dss_nil))))
    (dss_one (ds_ret (d_tuple (by rfl) T.b_tuple (d_var 2))))))))
theorem dv_other_kinds (T : Tops K mg base w0) (f : Addr) (cdv : Value) (A : Around) (outer : List Env) (s : Shared) (H : Hp) (E : XK) (hgd : A.guards = some []) (hr : Room 0 (A.deeper (PyProof.Rows.envOfC "other_kinds" (defScope s_other_kinds) s.heap.objs.size f cdv))) :
  PSs (cxOf CX0 P w0 K mg base N_other_kinds "other_kinds" (defScope s_other_kinds) f cdv A outer s H E).nox (defBody s_other_kinds) (tDS K (w_other_kinds)) :=
  (dss_one (ds_ret (d_if (t_eq hr (d_var 0) (d_globE (by rfl) T.c_ZERO)) (d_lst da_nil) (d_lc (own := [("other", 2)]) (di_tup (d_globE (by rfl) T.c_KINDS)) (blkOk_by (own := [("other", 2)]) (N := N_other_kinds) (sc := defScope s_other_kinds) (by decide +kernel)) (fun _ _ _ _ _ => dg_name (i := 2) sc_other_kinds.nd rfl (Or.inl rfl)) (fun _ _ _ _ _ => (dts_one (t_ne hr (d_var 2) (d_var 1)))) (fun _ _ _ _ _ => (d_tup (da_cons d_str (da_cons (d_var 0) (da_cons (d_var 2) da_nil))))) sc_other_kinds.nd))))
theorem dv_negations (T : Tops K mg base w0) {f_other_kinds : WF} (D_other_kinds : Def P w0 K mg base 1 "other_kinds" s_other_kinds ["unknown", "kind"] f_other_kinds) {f_unknowns_of : WF} (D_unknowns_of : Def P w0 K mg base 1 "unknowns_of" s_unknowns_of ["atom"] f_unknowns_of) {f_kind_asked : WF} (D_kind_asked : Def P w0 K mg base 1 "kind_asked" s_kind_asked ["atom"] f_kind_asked) (f : Addr) (cdv : Value) (A : Around) (outer : List Env) (s : Shared) (H : Hp) (E : XK) (hgd : A.guards = some []) (hr : Room 1 (A.deeper (PyProof.Rows.envOfC "negations" (defScope s_negations) s.heap.objs.size f cdv))) :
  PSs (cxOf CX0 P w0 K mg base N_negations "negations" (defScope s_negations) f cdv A outer s H E).nox (defBody s_negations) (tDS K (w_negations f_other_kinds f_unknowns_of f_kind_asked)) :=
  (dss_cons (ds_if (t_eq hr (d_ix (d_var 0) d_int) d_str) (dss_one (ds_ret (d_f D_other_kinds hgd hr (by decide) (by rfl) (fun _ _ _ _ _ _ us hl => match us, hl with | [_, _], _ => rfl) (da_cons (d_ix (d_var 0) d_int) (da_cons (d_ix (d_var 0) d_int) da_nil))))) dss_nil)
    (dss_cons (ds_setLc2 (own := [("unknown", 2), ("one", 3)]) (i := 1) rfl rfl (sw_true rfl rfl rfl (by decide +kernel)) (vs1 := [3]) (di_list (d_f D_unknowns_of hgd hr (by decide) (by rfl) (fun _ _ _ _ _ _ us hl => match us, hl with | [_], _ => rfl) (da_cons (d_var 0) da_nil))) (blkOk_by (own := [("unknown", 2), ("one", 3)]) (N := N_negations) (sc := defScope s_negations) (by decide +kernel)) (fun _ _ _ _ _ => dg_name (i := 2) sc_negations.nd rfl (Or.inl rfl)) (fun _ _ _ _ _ => dts_nil) (fun _ _ _ _ _ => (di_list (d_f D_other_kinds hgd hr (by decide) (by rfl) (fun _ _ _ _ _ _ us hl => match us, hl with | [_, _], _ => rfl) (da_cons (d_var 2) (da_cons (d_f D_kind_asked hgd hr (by decide) (by rfl) (fun _ _ _ _ _ _ us hl => match us, hl with | [_], _ => rfl) (da_cons (d_var 0) da_nil)) da_nil))))) (fun _ _ _ _ _ => dg_name (i := 3) sc_negations.nd rfl (Or.inl rfl)) (fun _ _ _ _ _ => dts_nil) (fun _ _ _ _ _ => (d_var 3)) sc_negations.nd)
    (dss_cons (ds_if (t_eq hr (d_ix (d_var 0) d_int) d_str) (dss_one (ds_ret (d_lst (da_star (d_var 1) (da_cons (d_tup (da_cons d_str (da_cons (d_ix (d_var 0) d_int) (da_cons (d_ix (d_var 0) d_int) (da_cons (d_sub (d_neg (d_ix (d_var 0) d_int)) d_int) da_nil))))) da_nil))))) dss_nil)
    (dss_one (ds_ret (d_lst (da_star (d_var 1) (da_cons (d_tup (da_cons (d_ixK (by rfl) T.k_CONTRARIES (d_ix (d_var 0) d_int)) (da_cons (d_ix (d_var 0) d_int) (da_cons (d_ix (d_var 0) d_int) da_nil)))) da_nil))))))))
theorem dv_settled (T : Tops K mg base w0) {f_is_contradiction : WF} (D_is_contradiction : Def P w0 K mg base 4 "is_contradiction" s_is_contradiction ["frame", "atoms"] f_is_contradiction) {f_negations : WF} (D_negations : Def P w0 K mg base 2 "negations" s_negations ["atom"] f_negations) (f : Addr) (cdv : Value) (A : Around) (outer : List Env) (s : Shared) (H : Hp) (E : XK) (hgd : A.guards = some []) (hr : Room 4 (A.deeper (PyProof.Rows.envOfC "settled" (defScope s_settled) s.heap.objs.size f cdv))) :
  PSs (cxOf CX0 P w0 K mg base N_settled "settled" (defScope s_settled) f cdv A outer s H E).nox (defBody s_settled) (tDS K (w_settled f_is_contradiction f_negations)) :=
  (dss_cons (ds_if (dt_val (d_f D_is_contradiction hgd hr (by decide) (by rfl) (fun _ _ _ _ _ _ us hl => match us, hl with | [_, _], _ => rfl) (da_cons (d_var 0) (da_cons (d_tup (da_star (d_var 1) (da_cons (d_var 2) da_nil))) da_nil)))) (dss_one (ds_ret d_bl)) dss_nil)
    (dss_cons (ds_if (dt_val (d_all (by rfl) T.b_all (d_lc (own := [("one", 3)]) (di_list (d_f D_negations hgd hr (by decide) (by rfl) (fun _ _ _ _ _ _ us hl => match us, hl with | [_], _ => rfl) (da_cons (d_var 2) da_nil))) (blkOk_by (own := [("one", 3)]) (N := N_settled) (sc := defScope s_settled) (by decide +kernel)) (fun _ _ _ _ _ => dg_name (i := 3) sc_settled.nd rfl (Or.inl rfl)) (fun _ _ _ _ _ => dts_nil) (fun _ _ _ _ _ => (d_f D_is_contradiction hgd hr (by decide) (by rfl) (fun _ _ _ _ _ _ us hl => match us, hl with | [_, _], _ => rfl) (da_cons (d_var 0) (da_cons (d_tup (da_star (d_var 1) (da_cons (d_var 3) da_nil))) da_nil)))) sc_settled.nd))) (dss_one (ds_ret d_bl)) dss_nil)
    (dss_one (ds_ret d_non))))
theorem dv_law_deck (T : Tops K mg base w0) (f : Addr) (cdv : Value) (A : Around) (outer : List Env) (s : Shared) (H : Hp) (E : XK) (hgd : A.guards = some []) (hr : Room 0 (A.deeper (PyProof.Rows.envOfC "_law_deck" (defScope s_law_deck) s.heap.objs.size f cdv))) :
  PSs (cxOf CX0 P w0 K mg base N_law_deck "_law_deck" (defScope s_law_deck) f cdv A outer s H E).nox (defBody s_law_deck) (tDS K (w_law_deck)) :=
  (dss_cons (ds_par (i := 1) (j := 2) sc_law_deck.nd rfl rfl (by decide) rfl rfl (da_cons (d_list (by rfl) T.b_list (d_slice (d_var 0) do_none (do_some d_int))) (da_cons d_int da_nil)) (by rfl))
    (dss_cons (ds_for (di_list (d_var 1)) (dg_name (i := 3) sc_law_deck.nd rfl (Or.inl rfl)) (dss_one (ds_set (i := 2) sc_law_deck.nd rfl (Or.inl rfl) (d_mod (d_add (d_add (d_mul (d_var 2) d_int) (d_mod (d_var 3) d_int)) d_int) d_int))))
    (dss_one (ds_ret (d_dctM _ (pps_cons pe_str (d_revM (d_var 1)) (pps_cons pe_str (d_var 2) (pps_cons pe_str d_int pps_nil))))))))
theorem dv_law_draw (T : Tops K mg base w0) (f : Addr) (cdv : Value) (A : Around) (outer : List Env) (s : Shared) (H : Hp) (E : XK) (hgd : A.guards = some []) (hr : Room 0 (A.deeper (PyProof.Rows.envOfC "_law_draw" (defScope s_law_draw) s.heap.objs.size f cdv))) :
  PSs (cxOf CX0 P w0 K mg base N_law_draw "_law_draw" (defScope s_law_draw) f cdv A outer s H E).nox (defBody s_law_draw) (tDS K (w_law_draw)) :=
  (dss_cons (ds_par (i := 2) (j := 3) sc_law_draw.nd rfl rfl (by decide) rfl rfl (da_cons (d_add (d_dget hr (d_var 0) d_str) d_int) (da_cons (d_dget hr (d_var 0) d_str) da_nil)) (by rfl))
    (dss_cons (ds_dput hr (d_var 0) d_str (d_var 2))
    (dss_cons (ds_if (t_ne hr (d_dget hr (d_var 0) d_str) (d_lst da_nil)) (dss_cons (ds_set (i := 3) sc_law_draw.nd rfl (Or.inl rfl) (d_pop (d_dget hr (d_var 0) d_str)))
    (dss_cons (ds_if (t_ge (d_var 3) (d_pow d_int d_int)) (dss_cons (ds_expr (d_append (d_dget hr (d_var 0) d_str) (d_div (d_var 3) (d_var 1))))
    (dss_one (ds_ret (d_mod (d_var 3) (d_var 1))))) dss_nil)
    (dss_one (ds_set (i := 3) sc_law_draw.nd rfl (Or.inl rfl) (d_add (d_var 3) (d_dget hr (d_var 0) d_str)))))) dss_nil)
    (dss_cons (ds_set (i := 4) sc_law_draw.nd rfl (Or.inl rfl) (d_mod (d_mul (d_add (d_add (d_mod (d_var 3) d_int) (d_mul (d_mul d_int (d_var 2)) (d_var 2))) d_int) d_int) d_int))
    (dss_cons (ds_set (i := 4) sc_law_draw.nd rfl (Or.inl rfl) (d_mod (d_add (d_add (d_mul (d_var 4) (d_var 4)) (d_mul d_int (d_var 2))) d_int) d_int))
    (dss_one (ds_ret (d_mod (d_div (d_mod (d_mul (d_var 4) d_int) d_int) d_int) (d_var 1)))))))))
theorem dv_law_unknowns (T : Tops K mg base w0) {f_law_draw : WF} (D_law_draw : Def P w0 K mg base 1 "_law_draw" s_law_draw ["_law_deck_here", "_law_many"] f_law_draw) (f : Addr) (cdv : Value) (A : Around) (outer : List Env) (s : Shared) (H : Hp) (E : XK) (hgd : A.guards = some []) (hr : Room 1 (A.deeper (PyProof.Rows.envOfC "_law_unknowns" (defScope s_law_unknowns) s.heap.objs.size f cdv))) :
  PSs (cxOf CX0 P w0 K mg base N_law_unknowns "_law_unknowns" (defScope s_law_unknowns) f cdv A outer s H E).nox (defBody s_law_unknowns) (tDS K (w_law_unknowns f_law_draw)) :=
  (dss_cons (ds_par (i := 2) (j := 3) sc_law_unknowns.nd rfl rfl (by decide) rfl rfl (da_cons (d_f D_law_draw hgd hr (by decide) (by rfl) (fun _ _ _ _ _ _ us hl => match us, hl with | [_, _], _ => rfl) (da_cons (d_var 0) (da_cons d_int da_nil))) (da_cons (d_f D_law_draw hgd hr (by decide) (by rfl) (fun _ _ _ _ _ _ us hl => match us, hl with | [_, _], _ => rfl) (da_cons (d_var 0) (da_cons d_int da_nil))) da_nil)) (by rfl))
    (dss_cons (ds_par (i := 4) (j := 5) sc_law_unknowns.nd rfl rfl (by decide) rfl rfl (da_cons (d_lst (da_cons d_str (da_cons d_str (da_cons d_str (da_cons d_str (da_cons d_str (da_cons d_str (da_cons d_str (da_cons d_str da_nil))))))))) (da_cons d_str da_nil)) (by rfl))
    (dss_cons (ds_set (i := 6) sc_law_unknowns.nd rfl (Or.inl rfl) (d_lstM da_nil))
    (dss_cons (ds_for (di_range1 (by rfl) T.b_range (d_var 1)) (dg_name (i := 7) sc_law_unknowns.nd rfl (Or.inl rfl)) (dss_cons (ds_set (i := 8) sc_law_unknowns.nd rfl (Or.inl rfl) (d_add (d_ix (d_var 4) (d_mod (d_add (d_var 3) (d_var 7)) d_int)) (d_ix (d_var 5) (d_mod (d_add (d_var 3) (d_div (d_var 7) d_int)) d_int))))
    (dss_one (ds_expr (d_append (d_var 6) (d_ix (d_lst (da_cons (d_tup (da_cons (d_var 8) da_nil)) (da_cons (d_tup (da_cons (d_var 8) (da_cons (d_ix (d_var 4) (d_mod (d_var 7) d_int)) da_nil))) (da_cons (d_tup (da_cons (d_ix (d_var 4) (d_mod (d_var 7) d_int)) (da_cons (d_sub (d_add (d_var 3) (d_div (d_var 7) d_int)) d_int) (da_cons d_str da_nil)))) da_nil)))) (d_var 2)))))))
    (dss_one (ds_ret (d_sorted hr T.sm (by rfl) T.b_sorted (d_var 6))))))))
theorem dv_law_asked (T : Tops K mg base w0) {f_solution : WF} (D_solution : DefS P w0 K mg base 4 "solution" s_solution f_solution) {f_contradiction : WF} (D_contradiction : DefS P w0 K mg base 5 "contradiction" s_contradiction f_contradiction) (f : Addr) (cdv : Value) (A : Around) (outer : List Env) (s : Shared) (H : Hp) (E : XK) (hgd : A.guards = some []) (hr : Room 5 (A.deeper (PyProof.Rows.envOfC "_law_asked" (defScope s_law_asked) s.heap.objs.size f cdv))) :
  PSs (cxOf CX0 P w0 K mg base N_law_asked "_law_asked" (defScope s_law_asked) f cdv A outer s H E).nox (defBody s_law_asked) (tDS K (w_law_asked f_solution f_contradiction)) :=
  (dss_cons (ds_if (t_eq hr (d_var 1) (d_lst da_nil)) (dss_one (ds_ret (d_lst (da_cons (d_fS D_solution hgd hr (by decide) (by rfl) (da_cons (d_var 0) da_nil)) (da_cons (d_fS D_contradiction hgd hr (by decide) (by rfl) (da_cons (d_var 0) da_nil)) da_nil))))) dss_nil)
    (dss_cons (ds_asg (d_slice (d_add (d_var 1) (d_mul (d_slice (d_var 1) (do_some (d_neg d_int)) do_none) d_int)) do_none (do_some d_int)) (dg_lst (n := 4) rfl (dgs_cons (dg_name (i := 2) sc_law_asked.nd rfl (Or.inl rfl)) (dgs_cons (dg_name (i := 3) sc_law_asked.nd rfl (Or.inl rfl)) (dgs_cons (dg_name (i := 4) sc_law_asked.nd rfl (Or.inl rfl)) (dgs_cons (dg_name (i := 5) sc_law_asked.nd rfl (Or.inl rfl)) dgs_nil))))))
    (dss_one (ds_ret (d_lst (da_cons (d_fS D_solution hgd hr (by decide) (by rfl) (da_cons (d_var 0) (da_cons (d_var 2) (da_cons (d_var 3) (da_cons (d_var 4) (da_cons (d_var 5) da_nil)))))) (da_cons (d_fS D_contradiction hgd hr (by decide) (by rfl) (da_cons (d_var 0) (da_cons (d_var 2) (da_cons (d_var 3) (da_cons (d_var 4) (da_cons (d_var 5) da_nil)))))) da_nil)))))))
theorem dv_law_good (T : Tops K mg base w0) (f : Addr) (cdv : Value) (A : Around) (outer : List Env) (s : Shared) (H : Hp) (E : XK) (hgd : A.guards = some []) (hr : Room 0 (A.deeper (PyProof.Rows.envOfC "_law_good" (defScope s_law_good) s.heap.objs.size f cdv))) :
  PSs (cxOf CX0 P w0 K mg base N_law_good "_law_good" (defScope s_law_good) f cdv A outer s H E).nox (defBody s_law_good) (tDS K (w_law_good)) :=
  (dss_cons (ds_set (i := 4) sc_law_good.nd rfl (Or.inl rfl) (d_pow d_int d_int))
    (dss_cons (ds_set (i := 5) sc_law_good.nd rfl (Or.inl rfl) (d_lst (da_cons (d_lst da_nil) (da_cons (d_lst (da_cons (d_tup (da_cons d_str (da_cons (d_var 0) (da_cons (d_tup da_nil) (da_cons (d_sub d_int (d_var 4)) da_nil))))) da_nil)) (da_cons (d_lst (da_cons (d_tup (da_cons d_str (da_cons (d_tup da_nil) (da_cons (d_var 0) (da_cons (d_sub d_int (d_var 4)) da_nil))))) (da_cons (d_tup (da_cons d_str (da_cons (d_var 1) (da_cons (d_tup da_nil) (da_cons (d_sub d_int (d_var 4)) da_nil))))) da_nil))) da_nil)))))
    (dss_cons (ds_set (i := 5) sc_law_good.nd rfl (Or.inl rfl) (d_add (d_var 5) (d_lst (da_cons (d_lst (da_cons (d_tup (da_cons d_str (da_cons (d_var 0) (da_cons (d_var 1) (da_cons (d_neg d_int) da_nil))))) (da_cons (d_tup (da_cons d_str (da_cons (d_var 1) (da_cons (d_var 2) (da_cons (d_neg d_int) da_nil))))) da_nil))) da_nil))))
    (dss_cons (ds_set (i := 5) sc_law_good.nd rfl (Or.inl rfl) (d_add (d_var 5) (d_lst (da_cons (d_lst (da_cons (d_tup (da_cons d_str (da_cons (d_var 0) (da_cons (d_var 1) (da_cons d_int da_nil))))) (da_cons (d_tup (da_cons d_str (da_cons (d_var 1) (da_cons (d_var 0) (da_cons d_int da_nil))))) (da_cons (d_tup (da_cons d_str (da_cons (d_var 0) (da_cons d_str da_nil)))) da_nil)))) da_nil))))
    (dss_cons (ds_set (i := 5) sc_law_good.nd rfl (Or.inl rfl) (d_add (d_var 5) (d_lst (da_cons (d_lst (da_cons (d_tup (da_cons d_str (da_cons (d_var 0) (da_cons (d_var 3) da_nil)))) (da_cons (d_tup (da_cons d_str (da_cons (d_var 3) (da_cons d_str da_nil)))) (da_cons (d_tup (da_cons d_str (da_cons (d_var 0) (da_cons d_str da_nil)))) da_nil)))) (da_cons (d_lst (da_cons (d_tup (da_cons d_str (da_cons (d_var 0) (da_cons (d_var 1) da_nil)))) (da_cons (d_tup (da_cons d_str (da_cons (d_var 1) (da_cons (d_var 3) da_nil)))) da_nil))) da_nil)))))
    (dss_cons (ds_set (i := 5) sc_law_good.nd rfl (Or.inl rfl) (d_add (d_var 5) (d_lst (da_cons (d_lst (da_cons (d_tup (da_cons d_str (da_cons (d_var 0) (da_cons (d_var 1) da_nil)))) (da_cons (d_tup (da_cons d_str (da_cons (d_var 1) (da_cons (d_var 3) da_nil)))) (da_cons (d_tup (da_cons d_str (da_cons (d_var 0) (da_cons (d_var 3) da_nil)))) (da_cons (d_tup (da_cons d_str (da_cons (d_var 3) (da_cons d_str da_nil)))) da_nil))))) da_nil))))
    (dss_cons (ds_set (i := 5) sc_law_good.nd rfl (Or.inl rfl) (d_add (d_var 5) (d_lst (da_cons (d_lst (da_cons (d_tup (da_cons d_str (da_cons (d_var 3) (da_cons d_str da_nil)))) da_nil)) da_nil))))
    (dss_cons (ds_set (i := 5) sc_law_good.nd rfl (Or.inl rfl) (d_add (d_var 5) (d_lst (da_cons (d_lst (da_cons (d_tup (da_cons d_str (da_cons (d_var 0) (da_cons d_str da_nil)))) (da_cons (d_tup (da_cons d_str (da_cons (d_var 1) (da_cons d_str da_nil)))) (da_cons (d_tup (da_cons d_str (da_cons (d_var 0) (da_cons (d_var 1) da_nil)))) da_nil)))) (da_cons (d_lst (da_cons (d_tup (da_cons d_str (da_cons (d_var 2) (da_cons (d_var 2) (da_cons d_int da_nil))))) da_nil)) da_nil)))))
    (dss_cons (ds_set (i := 5) sc_law_good.nd rfl (Or.inl rfl) (d_add (d_var 5) (d_lst (da_cons (d_lst (da_cons (d_tup (da_cons d_str (da_cons (d_var 2) (da_cons (d_tup da_nil) (da_cons d_int da_nil))))) (da_cons (d_tup (da_cons d_str (da_cons (d_tup da_nil) (da_cons (d_var 2) (da_cons d_int da_nil))))) da_nil))) (da_cons (d_lst (da_cons (d_tup (da_cons d_str (da_cons (d_var 0) (da_cons (d_var 0) da_nil)))) da_nil)) (da_cons (d_lst (da_cons (d_tup (da_cons d_str (da_cons (d_var 0) (da_cons d_str da_nil)))) (da_cons (d_tup (da_cons d_str (da_cons (d_var 1) (da_cons d_str da_nil)))) da_nil))) da_nil))))))
    (dss_one (ds_ret (d_add (d_var 5) (d_lst (da_cons (d_lst (da_cons (d_tup (da_cons d_str (da_cons (d_var 0) (da_cons d_str da_nil)))) (da_cons (d_tup (da_cons d_str (da_cons (d_var 1) (da_cons d_str da_nil)))) (da_cons (d_tup (da_cons d_str (da_cons (d_var 2) (da_cons d_str da_nil)))) (da_cons (d_tup (da_cons d_str (da_cons (d_var 3) (da_cons d_str da_nil)))) da_nil))))) da_nil))))))))))))))
theorem dv_law_bad (T : Tops K mg base w0) (f : Addr) (cdv : Value) (A : Around) (outer : List Env) (s : Shared) (H : Hp) (E : XK) (hgd : A.guards = some []) (hr : Room 0 (A.deeper (PyProof.Rows.envOfC "_law_bad" (defScope s_law_bad) s.heap.objs.size f cdv))) :
  PSs (cxOf CX0 P w0 K mg base N_law_bad "_law_bad" (defScope s_law_bad) f cdv A outer s H E).nox (defBody s_law_bad) (tDS K (w_law_bad)) :=
  (dss_cons (ds_set (i := 4) sc_law_bad.nd rfl (Or.inl rfl) (d_pow d_int d_int))
    (dss_cons (ds_set (i := 5) sc_law_bad.nd rfl (Or.inl rfl) (d_lst (da_cons (d_lst (da_cons (d_tup (da_cons d_str (da_cons (d_var 0) (da_cons d_str da_nil)))) (da_cons (d_tup (da_cons d_str (da_cons (d_var 0) (da_cons d_str da_nil)))) da_nil))) (da_cons (d_lst (da_cons (d_tup (da_cons d_str (da_cons (d_var 2) (da_cons d_str da_nil)))) da_nil)) (da_cons (d_lst (da_cons (d_tup (da_cons d_str (da_cons (d_var 3) (da_cons d_str da_nil)))) da_nil)) da_nil)))))
    (dss_cons (ds_set (i := 5) sc_law_bad.nd rfl (Or.inl rfl) (d_add (d_var 5) (d_lst (da_cons (d_lst (da_cons (d_tup (da_cons d_str (da_cons (d_var 0) (da_cons (d_var 2) da_nil)))) da_nil)) (da_cons (d_lst (da_cons (d_tup (da_cons d_str (da_cons (d_var 0) (da_cons (d_var 3) (da_cons d_int da_nil))))) da_nil)) (da_cons (d_lst (da_cons (d_tup (da_cons d_str (da_cons (d_var 0) (da_cons (d_var 0) (da_cons (d_neg d_int) da_nil))))) da_nil)) (da_cons (d_lst (da_cons (d_tup (da_cons d_str (da_cons (d_var 0) (da_cons (d_tup da_nil) (da_cons (d_sub (d_neg d_int) (d_var 4)) da_nil))))) da_nil)) da_nil)))))))
    (dss_cons (ds_set (i := 5) sc_law_bad.nd rfl (Or.inl rfl) (d_add (d_var 5) (d_lst (da_cons (d_lst (da_cons (d_tup (da_cons d_str (da_cons (d_tup da_nil) (da_cons (d_var 1) (da_cons (d_sub (d_neg d_int) (d_var 4)) da_nil))))) da_nil)) (da_cons (d_lst (da_cons (d_tup (da_cons d_str (da_cons (d_var 1) (da_cons (d_var 1) da_nil)))) da_nil)) (da_cons (d_lst (da_cons (d_tup (da_cons d_str (da_cons (d_var 0) (da_cons (d_var 1) da_nil)))) (da_cons (d_tup (da_cons d_str (da_cons (d_var 1) (da_cons (d_var 0) da_nil)))) da_nil))) da_nil))))))
    (dss_cons (ds_set (i := 5) sc_law_bad.nd rfl (Or.inl rfl) (d_add (d_var 5) (d_lst (da_cons (d_lst (da_cons (d_tup (da_cons d_str (da_cons (d_var 0) (da_cons (d_var 1) da_nil)))) (da_cons (d_tup (da_cons d_str (da_cons (d_var 3) (da_cons (d_var 1) da_nil)))) (da_cons (d_tup (da_cons d_str (da_cons (d_var 3) (da_cons (d_var 0) da_nil)))) da_nil)))) (da_cons (d_lst (da_cons (d_tup (da_cons d_str (da_cons (d_var 0) (da_cons d_str da_nil)))) (da_cons (d_tup (da_cons d_str (da_cons (d_var 0) (da_cons d_str da_nil)))) da_nil))) da_nil)))))
    (dss_cons (ds_set (i := 5) sc_law_bad.nd rfl (Or.inl rfl) (d_add (d_var 5) (d_lst (da_cons (d_lst (da_cons (d_tup (da_cons d_str (da_cons (d_var 0) (da_cons d_str da_nil)))) (da_cons (d_tup (da_cons d_str (da_cons (d_var 0) (da_cons d_str da_nil)))) da_nil))) da_nil))))
    (dss_cons (ds_set (i := 5) sc_law_bad.nd rfl (Or.inl rfl) (d_add (d_var 5) (d_lst (da_cons (d_lst (da_cons (d_tup (da_cons d_str (da_cons (d_var 0) (da_cons d_str da_nil)))) (da_cons (d_tup (da_cons d_str (da_cons (d_var 1) (da_cons (d_var 0) da_nil)))) (da_cons (d_tup (da_cons d_str (da_cons (d_var 1) (da_cons d_str da_nil)))) da_nil)))) da_nil))))
    (dss_cons (ds_set (i := 5) sc_law_bad.nd rfl (Or.inl rfl) (d_add (d_var 5) (d_lst (da_cons (d_lst (da_cons (d_tup (da_cons d_str (da_cons (d_var 0) (da_cons d_str da_nil)))) (da_cons (d_tup (da_cons d_str (da_cons (d_var 1) (da_cons d_str da_nil)))) (da_cons (d_tup (da_cons d_str (da_cons (d_var 0) (da_cons (d_var 1) da_nil)))) da_nil)))) da_nil))))
    (dss_cons (ds_set (i := 5) sc_law_bad.nd rfl (Or.inl rfl) (d_add (d_var 5) (d_lst (da_cons (d_lst (da_cons (d_tup (da_cons d_str (da_cons (d_var 0) (da_cons d_str da_nil)))) (da_cons (d_tup (da_cons d_str (da_cons (d_var 0) (da_cons d_str da_nil)))) da_nil))) da_nil))))
    (dss_cons (ds_set (i := 5) sc_law_bad.nd rfl (Or.inl rfl) (d_add (d_var 5) (d_lst (da_cons (d_lst (da_cons (d_tup (da_cons d_str (da_cons (d_var 0) (da_cons (d_var 1) (da_cons (d_neg d_int) da_nil))))) (da_cons (d_tup (da_cons d_str (da_cons (d_var 1) (da_cons (d_var 2) (da_cons d_int da_nil))))) (da_cons (d_tup (da_cons d_str (da_cons (d_var 2) (da_cons (d_var 0) (da_cons d_int da_nil))))) da_nil)))) (da_cons (d_lst (da_cons (d_tup (da_cons d_str (da_cons (d_var 0) (da_cons (d_var 2) da_nil)))) da_nil)) da_nil)))))
    (dss_cons (ds_set (i := 5) sc_law_bad.nd rfl (Or.inl rfl) (d_add (d_var 5) (d_lst (da_cons (d_lst (da_cons (d_tup (da_cons d_str (da_cons (d_var 0) (da_cons (d_var 1) (da_cons (d_mul (d_neg d_int) (d_var 4)) da_nil))))) (da_cons (d_tup (da_cons d_str (da_cons (d_var 1) (da_cons (d_var 2) (da_cons (d_neg d_int) da_nil))))) da_nil))) (da_cons (d_lst (da_cons (d_tup (da_cons d_str (da_cons (d_var 3) (da_cons d_str da_nil)))) (da_cons (d_tup (da_cons d_str (da_cons (d_var 3) (da_cons d_str da_nil)))) da_nil))) da_nil)))))
    (dss_one (ds_ret (d_add (d_var 5) (d_lst (da_cons (d_lst (da_cons (d_tup (da_cons d_str (da_cons (d_var 0) (da_cons (d_tup da_nil) (da_cons d_int da_nil))))) (da_cons (d_tup (da_cons d_str (da_cons (d_tup da_nil) (da_cons (d_var 0) (da_cons (d_neg d_int) da_nil))))) da_nil))) (da_cons (d_lst (da_cons (d_tup (da_cons d_str (da_cons (d_var 0) (da_cons d_str da_nil)))) (da_cons (d_tup (da_cons d_str (da_cons (d_tup da_nil) (da_cons (d_var 0) (da_cons d_int da_nil))))) da_nil))) da_nil)))))))))))))))))
theorem dv_law_tests (T : Tops K mg base w0) (f : Addr) (cdv : Value) (A : Around) (outer : List Env) (s : Shared) (H : Hp) (E : XK) (hgd : A.guards = some []) (hr : Room 0 (A.deeper (PyProof.Rows.envOfC "_law_tests" (defScope s_law_tests) s.heap.objs.size f cdv))) :
  PSs (cxOf CX0 P w0 K mg base N_law_tests "_law_tests" (defScope s_law_tests) f cdv A outer s H E).nox (defBody s_law_tests) (tDS K (w_law_tests)) :=
  (dss_cons (ds_set (i := 4) sc_law_tests.nd rfl (Or.inl rfl) (d_pow d_int d_int))
    (dss_cons (ds_set (i := 5) sc_law_tests.nd rfl (Or.inl rfl) (d_lst (da_cons (d_tup (da_cons (d_lst da_nil) (da_cons (d_tup (da_cons d_str (da_cons (d_var 2) (da_cons d_str da_nil)))) (da_cons d_bl da_nil)))) (da_cons (d_tup (da_cons (d_lst da_nil) (da_cons (d_tup (da_cons d_str (da_cons (d_var 3) (da_cons d_str da_nil)))) (da_cons d_bl da_nil)))) (da_cons (d_tup (da_cons (d_lst da_nil) (da_cons (d_tup (da_cons d_str (da_cons (d_var 0) (da_cons d_str da_nil)))) (da_cons d_non da_nil)))) da_nil)))))
    (dss_cons (ds_set (i := 5) sc_law_tests.nd rfl (Or.inl rfl) (d_add (d_var 5) (d_lst (da_cons (d_tup (da_cons (d_lst (da_cons (d_tup (da_cons d_str (da_cons (d_var 0) (da_cons (d_var 1) (da_cons d_int da_nil))))) da_nil)) (da_cons (d_tup (da_cons d_str (da_cons (d_var 1) (da_cons d_str da_nil)))) (da_cons d_bl da_nil)))) da_nil))))
    (dss_cons (ds_set (i := 5) sc_law_tests.nd rfl (Or.inl rfl) (d_add (d_var 5) (d_lst (da_cons (d_tup (da_cons (d_lst (da_cons (d_tup (da_cons d_str (da_cons (d_var 0) (da_cons d_str da_nil)))) da_nil)) (da_cons (d_tup (da_cons d_str (da_cons (d_var 0) (da_cons d_str da_nil)))) (da_cons d_bl da_nil)))) (da_cons (d_tup (da_cons (d_lst da_nil) (da_cons (d_tup (da_cons d_str (da_cons (d_var 2) (da_cons (d_tup da_nil) (da_cons (d_var 4) da_nil))))) (da_cons d_bl da_nil)))) da_nil)))))
    (dss_cons (ds_set (i := 5) sc_law_tests.nd rfl (Or.inl rfl) (d_add (d_var 5) (d_lst (da_cons (d_tup (da_cons (d_lst da_nil) (da_cons (d_tup (da_cons d_str (da_cons (d_var 0) (da_cons (d_tup da_nil) (da_cons (d_var 4) da_nil))))) (da_cons d_non da_nil)))) (da_cons (d_tup (da_cons (d_lst da_nil) (da_cons (d_tup (da_cons d_str (da_cons (d_var 3) (da_cons (d_tup da_nil) (da_cons (d_var 4) da_nil))))) (da_cons d_bl da_nil)))) da_nil)))))
    (dss_cons (ds_set (i := 5) sc_law_tests.nd rfl (Or.inl rfl) (d_add (d_var 5) (d_lst (da_cons (d_tup (da_cons (d_lst (da_cons (d_tup (da_cons d_str (da_cons (d_var 0) (da_cons (d_var 1) (da_cons d_int da_nil))))) (da_cons (d_tup (da_cons d_str (da_cons (d_var 1) (da_cons (d_var 2) (da_cons d_int da_nil))))) da_nil))) (da_cons (d_tup (da_cons d_str (da_cons (d_var 0) (da_cons (d_var 2) (da_cons d_int da_nil))))) (da_cons d_bl da_nil)))) da_nil))))
    (dss_cons (ds_set (i := 5) sc_law_tests.nd rfl (Or.inl rfl) (d_add (d_var 5) (d_lst (da_cons (d_tup (da_cons (d_lst (da_cons (d_tup (da_cons d_str (da_cons (d_var 0) (da_cons (d_var 1) (da_cons d_int da_nil))))) (da_cons (d_tup (da_cons d_str (da_cons (d_var 1) (da_cons (d_var 2) (da_cons d_int da_nil))))) da_nil))) (da_cons (d_tup (da_cons d_str (da_cons (d_var 0) (da_cons (d_var 2) (da_cons d_int da_nil))))) (da_cons d_non da_nil)))) da_nil))))
    (dss_cons (ds_set (i := 5) sc_law_tests.nd rfl (Or.inl rfl) (d_add (d_var 5) (d_lst (da_cons (d_tup (da_cons (d_lst (da_cons (d_tup (da_cons d_str (da_cons (d_var 0) (da_cons (d_var 1) (da_cons d_int da_nil))))) da_nil)) (da_cons (d_tup (da_cons d_str (da_cons (d_var 1) (da_cons (d_var 0) (da_cons (d_neg d_int) da_nil))))) (da_cons d_bl da_nil)))) da_nil))))
    (dss_cons (ds_set (i := 5) sc_law_tests.nd rfl (Or.inl rfl) (d_add (d_var 5) (d_lst (da_cons (d_tup (da_cons (d_lst (da_cons (d_tup (da_cons d_str (da_cons (d_var 0) (da_cons (d_var 1) da_nil)))) da_nil)) (da_cons (d_tup (da_cons d_str (da_cons (d_var 1) (da_cons (d_var 0) da_nil)))) (da_cons d_bl da_nil)))) (da_cons (d_tup (da_cons (d_lst (da_cons (d_tup (da_cons d_str (da_cons (d_var 3) (da_cons d_str da_nil)))) da_nil)) (da_cons (d_tup (da_cons d_str (da_cons (d_var 3) (da_cons (d_var 3) da_nil)))) (da_cons d_bl da_nil)))) da_nil)))))
    (dss_cons (ds_set (i := 5) sc_law_tests.nd rfl (Or.inl rfl) (d_add (d_var 5) (d_lst (da_cons (d_tup (da_cons (d_lst (da_cons (d_tup (da_cons d_str (da_cons (d_var 0) (da_cons (d_var 1) da_nil)))) (da_cons (d_tup (da_cons d_str (da_cons (d_var 0) (da_cons d_str da_nil)))) da_nil))) (da_cons (d_tup (da_cons d_str (da_cons (d_var 1) (da_cons d_str da_nil)))) (da_cons d_bl da_nil)))) da_nil))))
    (dss_cons (ds_set (i := 5) sc_law_tests.nd rfl (Or.inl rfl) (d_add (d_var 5) (d_lst (da_cons (d_tup (da_cons (d_lst (da_cons (d_tup (da_cons d_str (da_cons (d_var 0) (da_cons (d_var 1) da_nil)))) (da_cons (d_tup (da_cons d_str (da_cons (d_var 0) (da_cons d_str da_nil)))) da_nil))) (da_cons (d_tup (da_cons d_str (da_cons (d_var 1) (da_cons d_str da_nil)))) (da_cons d_bl da_nil)))) (da_cons (d_tup (da_cons (d_lst da_nil) (da_cons (d_tup (da_cons d_str (da_cons (d_var 3) (da_cons (d_var 3) da_nil)))) (da_cons d_non da_nil)))) da_nil)))))
    (dss_cons (ds_set (i := 5) sc_law_tests.nd rfl (Or.inl rfl) (d_add (d_var 5) (d_lst (da_cons (d_tup (da_cons (d_lst (da_cons (d_tup (da_cons d_str (da_cons (d_var 0) (da_cons d_str da_nil)))) (da_cons (d_tup (da_cons d_str (da_cons (d_var 1) (da_cons d_str da_nil)))) da_nil))) (da_cons (d_tup (da_cons d_str (da_cons (d_var 0) (da_cons (d_var 1) da_nil)))) (da_cons d_bl da_nil)))) (da_cons (d_tup (da_cons (d_lst da_nil) (da_cons (d_tup (da_cons d_str (da_cons (d_var 0) (da_cons (d_var 2) da_nil)))) (da_cons d_bl da_nil)))) da_nil)))))
    (dss_cons (ds_set (i := 5) sc_law_tests.nd rfl (Or.inl rfl) (d_add (d_var 5) (d_lst (da_cons (d_tup (da_cons (d_lst (da_cons (d_tup (da_cons d_str (da_cons (d_var 0) (da_cons d_str da_nil)))) (da_cons (d_tup (da_cons d_str (da_cons (d_var 1) (da_cons d_str da_nil)))) da_nil))) (da_cons (d_tup (da_cons d_str (da_cons (d_var 0) (da_cons (d_var 1) da_nil)))) (da_cons d_bl da_nil)))) (da_cons (d_tup (da_cons (d_lst da_nil) (da_cons (d_tup (da_cons d_str (da_cons (d_var 3) (da_cons (d_var 3) da_nil)))) (da_cons d_bl da_nil)))) da_nil)))))
    (dss_cons (ds_set (i := 5) sc_law_tests.nd rfl (Or.inl rfl) (d_add (d_var 5) (d_lst (da_cons (d_tup (da_cons (d_lst (da_cons (d_tup (da_cons d_str (da_cons (d_var 0) (da_cons d_str da_nil)))) da_nil)) (da_cons (d_tup (da_cons d_str (da_cons (d_var 0) (da_cons (d_var 1) da_nil)))) (da_cons d_non da_nil)))) da_nil))))
    (dss_cons (ds_set (i := 5) sc_law_tests.nd rfl (Or.inl rfl) (d_add (d_var 5) (d_lst (da_cons (d_tup (da_cons (d_lst (da_cons (d_tup (da_cons d_str (da_cons (d_var 0) (da_cons d_str da_nil)))) da_nil)) (da_cons (d_tup (da_cons d_str (da_cons (d_var 0) (da_cons d_str da_nil)))) (da_cons d_bl da_nil)))) da_nil))))
    (dss_cons (ds_set (i := 5) sc_law_tests.nd rfl (Or.inl rfl) (d_add (d_var 5) (d_lst (da_cons (d_tup (da_cons (d_lst (da_cons (d_tup (da_cons d_str (da_cons (d_var 0) (da_cons d_str da_nil)))) da_nil)) (da_cons (d_tup (da_cons d_str (da_cons (d_var 0) (da_cons (d_var 0) (da_cons d_int da_nil))))) (da_cons d_bl da_nil)))) da_nil))))
    (dss_cons (ds_set (i := 5) sc_law_tests.nd rfl (Or.inl rfl) (d_add (d_var 5) (d_lst (da_cons (d_tup (da_cons (d_lst (da_cons (d_tup (da_cons d_str (da_cons (d_tup da_nil) (da_cons (d_var 0) (da_cons (d_neg d_int) da_nil))))) da_nil)) (da_cons (d_tup (da_cons d_str (da_cons (d_tup da_nil) (da_cons (d_var 0) (da_cons d_int da_nil))))) (da_cons d_bl da_nil)))) da_nil))))
    (dss_one (ds_ret (d_add (d_var 5) (d_lst (da_cons (d_tup (da_cons (d_lst (da_cons (d_tup (da_cons d_str (da_cons (d_var 0) (da_cons (d_tup da_nil) (da_cons (d_sub d_int (d_var 4)) da_nil))))) da_nil)) (da_cons (d_tup (da_cons d_str (da_cons (d_tup da_nil) (da_cons (d_var 0) (da_cons (d_sub (d_var 4) d_int) da_nil))))) (da_cons d_bl da_nil)))) (da_cons (d_tup (da_cons (d_lst da_nil) (da_cons (d_tup (da_cons d_str (da_cons (d_var 3) (da_cons d_str da_nil)))) (da_cons d_non da_nil)))) da_nil)))))))))))))))))))))))
theorem dv_law_main (T : Tops K mg base w0) {f_law_deck : WF} (D_law_deck : Def P w0 K mg base 1 "_law_deck" s_law_deck ["_law_script"] f_law_deck) {f_law_unknowns : WF} (D_law_unknowns : Def P w0 K mg base 2 "_law_unknowns" s_law_unknowns ["_law_deck_here", "_law_many"] f_law_unknowns) {f_law_draw : WF} (D_law_draw : Def P w0 K mg base 1 "_law_draw" s_law_draw ["_law_deck_here", "_law_many"] f_law_draw) {f_law_good : WF} (D_law_good : Def P w0 K mg base 1 "_law_good" s_law_good ["_law_u", "_law_v", "_law_n", "_law_w"] f_law_good) {f_law_asked : WF} (D_law_asked : Def P w0 K mg base 6 "_law_asked" s_law_asked ["_law_around", "_law_some"] f_law_asked) {f_is_contradiction : WF} (D_is_contradiction : Def P w0 K mg base 4 "is_contradiction" s_is_contradiction ["frame", "atoms"] f_is_contradiction) {f_law_bad : WF} (D_law_bad : Def P w0 K mg base 1 "_law_bad" s_law_bad ["_law_u", "_law_v", "_law_n", "_law_w"] f_law_bad) {f_settled : WF} (D_settled : Def P w0 K mg base 5 "settled" s_settled ["frame", "atoms", "test"] f_settled) {f_law_tests : WF} (D_law_tests : Def P w0 K mg base 1 "_law_tests" s_law_tests ["_law_u", "_law_v", "_law_n", "_law_w"] f_law_tests) (f : Addr) (cdv : Value) (A : Around) (outer : List Env) (s : Shared) (H : Hp) (E : XK) (hgd : A.guards = some []) (hr : Room 6 (A.deeper (PyProof.Rows.envOfC "law" (defScope s_law_main) s.heap.objs.size f cdv))) :
  PSs (cxOf CX0 P w0 K mg base N_law_main "law" (defScope s_law_main) f cdv A outer s H E).nox (defBody s_law_main) (tDS K (w_law_main (hsW w0) f_law_deck f_law_unknowns f_law_draw f_law_good f_law_asked f_is_contradiction f_law_bad f_settled f_law_tests)) :=
  (dss_cons (ds_set (i := 1) sc_law_main.nd rfl (Or.inl rfl) (d_f D_law_deck hgd hr (by decide) (by rfl) (fun _ _ _ _ _ _ us hl => match us, hl with | [_], _ => rfl) (da_cons (d_var 0) da_nil)))
    (dss_cons (ds_set (i := 2) sc_law_main.nd rfl (Or.inl rfl) (d_f D_law_unknowns hgd hr (by decide) (by rfl) (fun _ _ _ _ _ _ us hl => match us, hl with | [_, _], _ => rfl) (da_cons (d_var 1) (da_cons d_int da_nil))))
    (dss_cons (ds_set (i := 3) sc_law_main.nd rfl (Or.inl rfl) (d_tup (da_cons d_str (da_cons d_str (da_cons d_str da_nil)))))
    (dss_cons (ds_set (i := 4) sc_law_main.nd rfl (Or.inl rfl) (d_f D_law_draw hgd hr (by decide) (by rfl) (fun _ _ _ _ _ _ us hl => match us, hl with | [_, _], _ => rfl) (da_cons (d_var 1) (da_cons d_int da_nil))))
    (dss_cons (ds_asg (d_add (d_slice (d_var 2) (do_some (d_var 4)) do_none) (d_slice (d_var 2) do_none (do_some (d_var 4)))) (dg_lst (n := 4) rfl (dgs_cons (dg_name (i := 5) sc_law_main.nd rfl (Or.inl rfl)) (dgs_cons (dg_name (i := 6) sc_law_main.nd rfl (Or.inl rfl)) (dgs_cons (dg_name (i := 7) sc_law_main.nd rfl (Or.inl rfl)) (dgs_cons (dg_name (i := 8) sc_law_main.nd rfl (Or.inl rfl)) dgs_nil))))))
    (dss_cons (ds_set (i := 9) sc_law_main.nd rfl (Or.inr rfl) (d_tuple (by rfl) T.b_tuple (d_sorted hr T.sm (by rfl) T.b_sorted (d_lst (da_cons (d_tup (da_cons (d_var 5) (da_cons (d_var 3) da_nil))) (da_cons (d_tup (da_cons (d_var 6) (da_cons (d_var 3) da_nil))) (da_cons (d_tup (da_cons (d_var 7) (da_cons (d_tup (da_cons d_str da_nil)) da_nil))) (da_cons (d_tup (da_cons (d_var 8) (da_cons (d_tup (da_cons d_str (da_cons d_str da_nil))) da_nil))) da_nil))))))))
    (dss_cons (ds_for (di_list (d_f D_law_good hgd hr (by decide) (by rfl) (fun _ _ _ _ _ _ us hl => match us, hl with | [_, _, _, _], _ => rfl) (da_cons (d_var 5) (da_cons (d_var 6) (da_cons (d_var 7) (da_cons (d_var 8) da_nil)))))) (dg_name (i := 10) sc_law_main.nd rfl (Or.inl rfl)) (dss_cons (ds_asg (d_f D_law_asked hgd hr (by decide) (by rfl) (fun _ _ _ _ _ _ us hl => match us, hl with | [_, _], _ => rfl) (da_cons (d_var 9) (da_cons (d_var 10) da_nil))) (dg_lst (n := 2) rfl (dgs_cons (dg_name (i := 11) sc_law_main.nd rfl (Or.inl rfl)) (dgs_cons (dg_name (i := 12) sc_law_main.nd rfl (Or.inl rfl)) dgs_nil))))
    (dss_cons (ds_if (PW.pt (dw_or (t_isnotB (d_fK (ks := ["atoms", "frame"]) [1, 0] D_is_contradiction hgd hr (by decide) (by rfl) (fun _ _ _ _ _ _ ws hl => match ws, hl with | _ :: _ :: _, _ => rfl) (dk_cons (d_tuple (by rfl) T.b_tuple (d_var 10)) (dk_cons (d_var 9) dk_nil))) d_bl) (dw_or1 (t_isnot (d_var 12) d_non)))) (dss_one (ds_ret d_bl)) dss_nil)
    (dss_one (ds_if (PW.pt (dw_or (t_ne hr (d_lc (own := [("_law_spot", 13), ("_law_value", 14)]) (di_tup (d_var 11)) (blkOk_by (own := [("_law_spot", 13), ("_law_value", 14)]) (N := N_law_main) (sc := defScope s_law_main) (by decide +kernel)) (fun _ _ _ _ _ => dg_tup (n := 2) rfl (dgs_cons (dg_name (i := 13) sc_law_main.nd rfl (Or.inl rfl)) (dgs_cons (dg_name (i := 14) sc_law_main.nd rfl (Or.inl rfl)) dgs_nil))) (fun _ _ _ _ _ => dts_nil) (fun _ _ _ _ _ => (d_var 13)) sc_law_main.nd) (d_var 2)) (dw_or1 (dt_not (dt_val (d_isi tyInt hf_int (by rfl) T.b_isinstance (by rfl) T.b_int boot_int (d_nget hr (d_dictP hr (by rfl) T.b_dict (d_var 11)) (d_var 7)))))))) (dss_one (ds_ret d_bl)) dss_nil)))))
    (dss_cons (ds_for (di_list (d_f D_law_bad hgd hr (by decide) (by rfl) (fun _ _ _ _ _ _ us hl => match us, hl with | [_, _, _, _], _ => rfl) (da_cons (d_var 5) (da_cons (d_var 6) (da_cons (d_var 7) (da_cons (d_var 8) da_nil)))))) (dg_name (i := 10) sc_law_main.nd rfl (Or.inl rfl)) (dss_cons (ds_asg (d_f D_law_asked hgd hr (by decide) (by rfl) (fun _ _ _ _ _ _ us hl => match us, hl with | [_, _], _ => rfl) (da_cons (d_var 9) (da_cons (d_var 10) da_nil))) (dg_lst (n := 2) rfl (dgs_cons (dg_name (i := 11) sc_law_main.nd rfl (Or.inl rfl)) (dgs_cons (dg_name (i := 12) sc_law_main.nd rfl (Or.inl rfl)) dgs_nil))))
    (dss_cons (ds_if (PW.pt (dw_or (t_isnot (d_var 11) d_non) (dw_or (t_ne hr (d_var 12) (d_tuple (by rfl) T.b_tuple (d_var 10))) (dw_or1 (t_isnotB (d_f D_is_contradiction hgd hr (by decide) (by rfl) (fun _ _ _ _ _ _ us hl => match us, hl with | [_, _], _ => rfl) (da_cons (d_var 9) (da_cons (d_tuple (by rfl) T.b_tuple (d_var 10)) da_nil))) d_bl))))) (dss_one (ds_ret d_bl)) dss_nil)
    (dss_one (ds_if (t_ne hr (d_f D_law_asked hgd hr (by decide) (by rfl) (fun _ _ _ _ _ _ us hl => match us, hl with | [_, _], _ => rfl) (da_cons (d_var 9) (da_cons (d_add (d_lst (da_cons (d_tup (da_cons d_str (da_cons (d_var 7) (da_cons d_str da_nil)))) da_nil)) (d_slice (d_var 10) do_none (do_some d_int))) da_nil))) (d_lst (da_cons d_non (da_cons (d_tuple (by rfl) T.b_tuple (d_var 10)) da_nil)))) (dss_one (ds_ret d_bl)) dss_nil)))))
    (dss_cons (ds_setLc (own := [("_law_some", 10), ("_law_asked_here", 16), ("_law_due", 17)]) (i := 15) rfl rfl (sw_true rfl rfl rfl (by decide +kernel)) (di_list (d_f D_law_tests hgd hr (by decide) (by rfl) (fun _ _ _ _ _ _ us hl => match us, hl with | [_, _, _, _], _ => rfl) (da_cons (d_var 5) (da_cons (d_var 6) (da_cons (d_var 7) (da_cons (d_var 8) da_nil)))))) (blkOk_by (own := [("_law_some", 10), ("_law_asked_here", 16), ("_law_due", 17)]) (N := N_law_main) (sc := defScope s_law_main) (by decide +kernel)) (fun _ _ _ _ _ => dg_tup (n := 3) rfl (dgs_cons (dg_name (i := 10) sc_law_main.nd rfl (Or.inl rfl)) (dgs_cons (dg_name (i := 16) sc_law_main.nd rfl (Or.inl rfl)) (dgs_cons (dg_name (i := 17) sc_law_main.nd rfl (Or.inl rfl)) dgs_nil)))) (fun _ _ _ _ _ => dts_nil) (fun _ _ _ _ _ => (d_tup (da_cons (d_f D_settled hgd hr (by decide) (by rfl) (fun _ _ _ _ _ _ us hl => match us, hl with | [_, _, _], _ => rfl) (da_cons (d_var 9) (da_cons (d_tuple (by rfl) T.b_tuple (d_var 10)) (da_cons (d_var 16) da_nil)))) (da_cons (d_var 17) da_nil)))) sc_law_main.nd)
    (dss_one (ds_ret (c_eq hr (d_lc (own := [("_law_told", 11), ("_law_due", 17)]) (di_list (d_var 15)) (blkOk_by (own := [("_law_told", 11), ("_law_due", 17)]) (N := N_law_main) (sc := defScope s_law_main) (by decide +kernel)) (fun _ _ _ _ _ => dg_tup (n := 2) rfl (dgs_cons (dg_name (i := 11) sc_law_main.nd rfl (Or.inl rfl)) (dgs_cons (dg_name (i := 17) sc_law_main.nd rfl (Or.inl rfl)) dgs_nil))) (fun _ _ _ _ _ => (dts_one (t_ne hr (d_repr hgd hr T.sm (by rfl) T.b_repr (d_var 11)) (d_repr hgd hr T.sm (by rfl) T.b_repr (d_var 17))))) (fun _ _ _ _ _ => d_int) sc_law_main.nd) (d_lst da_nil)))))))))))))
end
end K46

set_option Elab.async false
set_option linter.all false
set_option maxRecDepth 100000
set_option maxHeartbeats 1000000
/-! K46b: the choices by hand, as the law writes them; what is asked of one choice. -/
namespace K46
open PySem L2 Dz Am

section
variable {ρ : Rho} {μ : Mh} {wa wb : WE} {wr : WA} {i j : Int} {ds ys : List DV} {z : DV} {wf : WF}
theorem pe_ten : PEv (wBin wPow (wC (.int 10)) (wC (.int 12))) ρ μ (.int far) := fun P q => ⟨cpow_ten (by decide) (by decide), q⟩
theorem pe_subI (ha : PEv wa ρ μ (.int i)) (hb : PEv wb ρ μ (.int j)) : PEv (wBin wSub wa wb) ρ μ (.int (i - j)) := pe_bin ha hb fun P q => q
theorem pe_negI (ha : PEv wa ρ μ (.int i)) : PEv (wUn wNeg wa) ρ μ (.int (-i)) := fun P q => ha _ q
theorem pe_mulF (ha : PEv wa ρ μ (.int (-2))) (hb : PEv wb ρ μ (.int far)) : PEv (wBin wMul wa wb) ρ μ (.int (-2 * far)) := pe_bin ha hb fun P q => ⟨.inl ⟨by decide, by decide⟩, q⟩
theorem pe_callS (ha : PAv wr ρ μ ys) (h : ∀ P : DV → Mh → Prop, P z μ → wf ys μ P) : PEv (wCallS wf wr) ρ μ z := fun P q => ha _ (h P q)
theorem pe_slFrom (h : PEv wa ρ μ (.lst ds)) (hb : PEv wb ρ μ (.int i)) (e : cutD ds (some i) none = ys) : PEv (wSl wa (wPart wb) wNoPart) ρ μ (.lst ys) := fun P q => h _ (hb _ (by
  show P (.lst (cutD ds (some i) none)) μ
  rw [e]
  exact q))
theorem pe_slTo (h : PEv wa ρ μ (.lst ds)) (hb : PEv wb ρ μ (.int i)) (e : cutD ds none (some i) = ys) : PEv (wSl wa wNoPart (wPart wb)) ρ μ (.lst ys) := fun P q => h _ (hb _ (by
  show P (.lst (cutD ds none (some i))) μ
  rw [e]
  exact q))
theorem pe_rep (h : PEv wa ρ μ (.lst ds)) (e : (List.replicate 4 ds).flatten = ys) (l : ds.length * 4 ≤ sizeLine) : PEv (wBin wMul wa (wC (.int 4))) ρ μ (.lst ys) := pe_bin h pe_c fun P q => ⟨by decide, by decide, l, by
  show P (.lst (List.replicate 4 ds).flatten) μ
  rw [e]
  exact q⟩
end
section
variable {a b c d e f : Option DV} {y : DV} {wa : WE} {E : DEnds} {rest : WS} {μ : Mh}
theorem seq4 (h : PEv wa [a, b, c, d, e, f] μ y) (k : rest E [a, b, c, d, some y, f] μ) : wSeq (wAsg wa (wgName 4)) rest E [a, b, c, d, e, f] μ := h _ k
variable {α : Type} {L : List α} {g : α → DV} {k m : Nat} {wb : WE}
theorem step0 (h : PEv wa [a, b, c, d, e, f] μ (.lst ((L.take k).map g))) (q : rest E [a, b, c, d, e, some (.lst ((L.take k).map g))] μ) : wSeq (wAsg wa (wgName 5)) rest E [a, b, c, d, e, f] μ := h _ q
theorem step (hL : L.length ≤ 100) (h : PEv wb [a, b, c, d, e, some (.lst ((L.take k).map g))] μ (.lst (((L.drop k).take m).map g))) (q : rest E [a, b, c, d, e, some (.lst ((L.take (k + m)).map g))] μ) :
    wSeq (wAsg (wBin wAdd (wVar 5) wb) (wgName 5)) rest E [a, b, c, d, e, some (.lst ((L.take k).map g))] μ := by
  rw [List.take_add, List.map_append] at q
  refine seq_asg (pe_catL (xs := (L.take k).map g) (pe_var rfl) h (sl ?_)) q
  rw [List.length_map, List.length_map, List.length_take, List.length_take, List.length_drop]
  omega
theorem stepR {Q : DV → Mh → Prop} (hL : L.length ≤ 100) (h : PEv wb [a, b, c, d, e, some (.lst ((L.take k).map g))] μ (.lst ((L.drop k).map g))) (q : Q (.lst (L.map g)) μ) :
    wRet (wBin wAdd (wVar 5) wb) { nx := fun _ μ' => Q .none μ', rt := Q } [a, b, c, d, e, some (.lst ((L.take k).map g))] μ := by
  refine ret_v (y := .lst (L.map g)) ?_ q
  have z := pe_catL (pe_var (ρ := [a, b, c, d, e, some (.lst ((L.take k).map g))]) (μ := μ) (i := 5) rfl) h (sl (by
    rw [List.length_map, List.length_map, List.length_take, List.length_drop]
    omega))
  rw [← List.map_append, List.take_append_drop] at z
  exact z
end
section
variable {ρ : Rho} {μ : Mh} {wa wb wc wd : WE} {x y z u : DV}
theorem pe_l0  : PEv (wLst wNil) ρ μ (.lst []) := pe_lst pa_nil (sl (Nat.le_of_ble_eq_true rfl))
theorem pe_l1 (ha : PEv wa ρ μ x) : PEv (wLst (wCons wa wNil)) ρ μ (.lst [x]) := pe_lst (pa_cons ha pa_nil) (sl (Nat.le_of_ble_eq_true rfl))
theorem pe_l2 (ha : PEv wa ρ μ x) (hb : PEv wb ρ μ y) : PEv (wLst (wCons wa (wCons wb wNil))) ρ μ (.lst [x, y]) := pe_lst (pa_cons ha (pa_cons hb pa_nil)) (sl (Nat.le_of_ble_eq_true rfl))
theorem pe_l3 (ha : PEv wa ρ μ x) (hb : PEv wb ρ μ y) (hc : PEv wc ρ μ z) : PEv (wLst (wCons wa (wCons wb (wCons wc wNil)))) ρ μ (.lst [x, y, z]) := pe_lst (pa_cons ha (pa_cons hb (pa_cons hc pa_nil))) (sl (Nat.le_of_ble_eq_true rfl))
theorem pe_l4 (ha : PEv wa ρ μ x) (hb : PEv wb ρ μ y) (hc : PEv wc ρ μ z) (hd : PEv wd ρ μ u) : PEv (wLst (wCons wa (wCons wb (wCons wc (wCons wd wNil))))) ρ μ (.lst [x, y, z, u]) := pe_lst (pa_cons ha (pa_cons hb (pa_cons hc (pa_cons hd pa_nil)))) (sl (Nat.le_of_ble_eq_true rfl))
theorem pe_t0  : PEv (wTup wNil) ρ μ (.tup []) := pe_tup pa_nil (sl (Nat.le_of_ble_eq_true rfl))
theorem pe_t1 (ha : PEv wa ρ μ x) : PEv (wTup (wCons wa wNil)) ρ μ (.tup [x]) := pe_tup (pa_cons ha pa_nil) (sl (Nat.le_of_ble_eq_true rfl))
theorem pe_t2 (ha : PEv wa ρ μ x) (hb : PEv wb ρ μ y) : PEv (wTup (wCons wa (wCons wb wNil))) ρ μ (.tup [x, y]) := pe_tup (pa_cons ha (pa_cons hb pa_nil)) (sl (Nat.le_of_ble_eq_true rfl))
theorem pe_t3 (ha : PEv wa ρ μ x) (hb : PEv wb ρ μ y) (hc : PEv wc ρ μ z) : PEv (wTup (wCons wa (wCons wb (wCons wc wNil)))) ρ μ (.tup [x, y, z]) := pe_tup (pa_cons ha (pa_cons hb (pa_cons hc pa_nil))) (sl (Nat.le_of_ble_eq_true rfl))
theorem pe_t4 (ha : PEv wa ρ μ x) (hb : PEv wb ρ μ y) (hc : PEv wc ρ μ z) (hd : PEv wd ρ μ u) : PEv (wTup (wCons wa (wCons wb (wCons wc (wCons wd wNil))))) ρ μ (.tup [x, y, z, u]) := pe_tup (pa_cons ha (pa_cons hb (pa_cons hc (pa_cons hd pa_nil)))) (sl (Nat.le_of_ble_eq_true rfl))
end
theorem u_some {N : Names} {i : Nat} : N.u (some i) = N.v i := rfl
theorem u_none {N : Names} : N.u none = .tup [] := rfl
theorem d_kind {N : Names} {u : Nat} {k : Kd} : Atm.d N (.kind u k) = .tup [.str "kind", N.v u, .str k.s] := rfl
theorem d_most {N : Names} {a b : Option Nat} {n : Int} : Atm.d N (.most a b n) = .tup [.str "most", N.u a, N.u b, .int n] := rfl
theorem d_same {N : Names} {u v : Nat} : Atm.d N (.pair false u v) = .tup [.str "same", N.v u, N.v v] := rfl
theorem d_unlike {N : Names} {u v : Nat} : Atm.d N (.pair true u v) = .tup [.str "unlike", N.v u, N.v v] := rfl
theorem d_word {N : Names} {u : Nat} {w : Str} : Atm.d N (.word false u w) = .tup [.str "word", N.v u, .str w] := rfl
theorem d_other {N : Names} {u : Nat} {w : Str} : Atm.d N (.word true u w) = .tup [.str "other", N.v u, .str w] := rfl
def setD1 (N : Names) (s : List Atm) : DV := .lst (s.map (Atm.d N))
def setsD (N : Names) (ss : List (List Atm)) : DV := .lst (ss.map (setD1 N))
def wfGood : WF := fun ds μ Q => ∃ (N : Names) (u v n w : Nat), ds = [N.v u, N.v v, N.v n, N.v w] ∧ Q (setsD N (good u v n w)) μ
theorem p_law_good (ds : List DV) (μ : Mh) (Q : DV → Mh → Prop) (hl : ds.length = 4) (h : wfGood ds μ Q) : w_law_good { nx := fun _ μ' => Q .none μ', rt := Q } (ds.map some ++ List.replicate 2 none) μ := by
  obtain ⟨N, u, v, n, w, rfl, q⟩ := h
  unfold w_law_good
  have hL : (good u v n w).length ≤ 100 := Nat.le_of_ble_eq_true rfl
  refine seq4 pe_ten ?_
  refine step0 (L := good u v n w) (g := (setD1 N)) (k := 3) (pe_l3 pe_l0 (pe_l1 (pe_t4 pe_c (pe_var rfl) pe_t0 (pe_subI pe_c (pe_var rfl)))) (pe_l2 (pe_t4 pe_c pe_t0 (pe_var rfl) (pe_subI pe_c (pe_var rfl))) (pe_t4 pe_c (pe_var rfl) pe_t0 (pe_subI pe_c (pe_var rfl))))) ?_
  refine step (k := 3) (m := 1) hL (pe_l1 (pe_l2 (pe_t4 pe_c (pe_var rfl) (pe_var rfl) (pe_negI pe_c)) (pe_t4 pe_c (pe_var rfl) (pe_var rfl) (pe_negI pe_c)))) ?_
  refine step (k := 4) (m := 1) hL (pe_l1 (pe_l3 (pe_t4 pe_c (pe_var rfl) (pe_var rfl) pe_c) (pe_t4 pe_c (pe_var rfl) (pe_var rfl) pe_c) (pe_t3 pe_c (pe_var rfl) pe_c))) ?_
  refine step (k := 5) (m := 2) hL (pe_l2 (pe_l3 (pe_t3 pe_c (pe_var rfl) (pe_var rfl)) (pe_t3 pe_c (pe_var rfl) pe_c) (pe_t3 pe_c (pe_var rfl) pe_c)) (pe_l2 (pe_t3 pe_c (pe_var rfl) (pe_var rfl)) (pe_t3 pe_c (pe_var rfl) (pe_var rfl)))) ?_
  refine step (k := 7) (m := 1) hL (pe_l1 (pe_l4 (pe_t3 pe_c (pe_var rfl) (pe_var rfl)) (pe_t3 pe_c (pe_var rfl) (pe_var rfl)) (pe_t3 pe_c (pe_var rfl) (pe_var rfl)) (pe_t3 pe_c (pe_var rfl) pe_c))) ?_
  refine step (k := 8) (m := 1) hL (pe_l1 (pe_l1 (pe_t3 pe_c (pe_var rfl) pe_c))) ?_
  refine step (k := 9) (m := 2) hL (pe_l2 (pe_l3 (pe_t3 pe_c (pe_var rfl) pe_c) (pe_t3 pe_c (pe_var rfl) pe_c) (pe_t3 pe_c (pe_var rfl) (pe_var rfl))) (pe_l1 (pe_t4 pe_c (pe_var rfl) (pe_var rfl) pe_c))) ?_
  refine step (k := 11) (m := 3) hL (pe_l3 (pe_l2 (pe_t4 pe_c (pe_var rfl) pe_t0 pe_c) (pe_t4 pe_c pe_t0 (pe_var rfl) pe_c)) (pe_l1 (pe_t3 pe_c (pe_var rfl) (pe_var rfl))) (pe_l2 (pe_t3 pe_c (pe_var rfl) pe_c) (pe_t3 pe_c (pe_var rfl) pe_c))) ?_
  exact stepR (k := 14) hL (pe_l1 (pe_l4 (pe_t3 pe_c (pe_var rfl) pe_c) (pe_t3 pe_c (pe_var rfl) pe_c) (pe_t3 pe_c (pe_var rfl) pe_c) (pe_t3 pe_c (pe_var rfl) pe_c))) q
def wfBad : WF := fun ds μ Q => ∃ (N : Names) (u v n w : Nat), ds = [N.v u, N.v v, N.v n, N.v w] ∧ Q (setsD N (bad u v n w)) μ
theorem p_law_bad (ds : List DV) (μ : Mh) (Q : DV → Mh → Prop) (hl : ds.length = 4) (h : wfBad ds μ Q) : w_law_bad { nx := fun _ μ' => Q .none μ', rt := Q } (ds.map some ++ List.replicate 2 none) μ := by
  obtain ⟨N, u, v, n, w, rfl, q⟩ := h
  unfold w_law_bad
  have hL : (bad u v n w).length ≤ 100 := Nat.le_of_ble_eq_true rfl
  refine seq4 pe_ten ?_
  refine step0 (L := bad u v n w) (g := (setD1 N)) (k := 3) (pe_l3 (pe_l2 (pe_t3 pe_c (pe_var rfl) pe_c) (pe_t3 pe_c (pe_var rfl) pe_c)) (pe_l1 (pe_t3 pe_c (pe_var rfl) pe_c)) (pe_l1 (pe_t3 pe_c (pe_var rfl) pe_c))) ?_
  refine step (k := 3) (m := 4) hL (pe_l4 (pe_l1 (pe_t3 pe_c (pe_var rfl) (pe_var rfl))) (pe_l1 (pe_t4 pe_c (pe_var rfl) (pe_var rfl) pe_c)) (pe_l1 (pe_t4 pe_c (pe_var rfl) (pe_var rfl) (pe_negI pe_c))) (pe_l1 (pe_t4 pe_c (pe_var rfl) pe_t0 (pe_subI (pe_negI pe_c) (pe_var rfl))))) ?_
  refine step (k := 7) (m := 3) hL (pe_l3 (pe_l1 (pe_t4 pe_c pe_t0 (pe_var rfl) (pe_subI (pe_negI pe_c) (pe_var rfl)))) (pe_l1 (pe_t3 pe_c (pe_var rfl) (pe_var rfl))) (pe_l2 (pe_t3 pe_c (pe_var rfl) (pe_var rfl)) (pe_t3 pe_c (pe_var rfl) (pe_var rfl)))) ?_
  refine step (k := 10) (m := 2) hL (pe_l2 (pe_l3 (pe_t3 pe_c (pe_var rfl) (pe_var rfl)) (pe_t3 pe_c (pe_var rfl) (pe_var rfl)) (pe_t3 pe_c (pe_var rfl) (pe_var rfl))) (pe_l2 (pe_t3 pe_c (pe_var rfl) pe_c) (pe_t3 pe_c (pe_var rfl) pe_c))) ?_
  refine step (k := 12) (m := 1) hL (pe_l1 (pe_l2 (pe_t3 pe_c (pe_var rfl) pe_c) (pe_t3 pe_c (pe_var rfl) pe_c))) ?_
  refine step (k := 13) (m := 1) hL (pe_l1 (pe_l3 (pe_t3 pe_c (pe_var rfl) pe_c) (pe_t3 pe_c (pe_var rfl) (pe_var rfl)) (pe_t3 pe_c (pe_var rfl) pe_c))) ?_
  refine step (k := 14) (m := 1) hL (pe_l1 (pe_l3 (pe_t3 pe_c (pe_var rfl) pe_c) (pe_t3 pe_c (pe_var rfl) pe_c) (pe_t3 pe_c (pe_var rfl) (pe_var rfl)))) ?_
  refine step (k := 15) (m := 1) hL (pe_l1 (pe_l2 (pe_t3 pe_c (pe_var rfl) pe_c) (pe_t3 pe_c (pe_var rfl) pe_c))) ?_
  refine step (k := 16) (m := 2) hL (pe_l2 (pe_l3 (pe_t4 pe_c (pe_var rfl) (pe_var rfl) (pe_negI pe_c)) (pe_t4 pe_c (pe_var rfl) (pe_var rfl) pe_c) (pe_t4 pe_c (pe_var rfl) (pe_var rfl) pe_c)) (pe_l1 (pe_t3 pe_c (pe_var rfl) (pe_var rfl)))) ?_
  refine step (k := 18) (m := 2) hL (pe_l2 (pe_l2 (pe_t4 pe_c (pe_var rfl) (pe_var rfl) (pe_mulF (pe_negI pe_c) (pe_var rfl))) (pe_t4 pe_c (pe_var rfl) (pe_var rfl) (pe_negI pe_c))) (pe_l2 (pe_t3 pe_c (pe_var rfl) pe_c) (pe_t3 pe_c (pe_var rfl) pe_c))) ?_
  exact stepR (k := 20) hL (pe_l2 (pe_l2 (pe_t4 pe_c (pe_var rfl) pe_t0 pe_c) (pe_t4 pe_c pe_t0 (pe_var rfl) (pe_negI pe_c))) (pe_l2 (pe_t3 pe_c (pe_var rfl) pe_c) (pe_t4 pe_c pe_t0 (pe_var rfl) pe_c))) q
def testD (N : Names) (t : List Atm × Atm × Option Bool) : DV := .tup [.lst (t.1.map (Atm.d N)), t.2.1.d N, setD t.2.2]
def testsD (N : Names) (ts : List (List Atm × Atm × Option Bool)) : DV := .lst (ts.map (testD N))
def wfTests : WF := fun ds μ Q => ∃ (N : Names) (u v n w : Nat), ds = [N.v u, N.v v, N.v n, N.v w] ∧ Q (testsD N (tests u v n w)) μ
theorem p_law_tests (ds : List DV) (μ : Mh) (Q : DV → Mh → Prop) (hl : ds.length = 4) (h : wfTests ds μ Q) : w_law_tests { nx := fun _ μ' => Q .none μ', rt := Q } (ds.map some ++ List.replicate 2 none) μ := by
  obtain ⟨N, u, v, n, w, rfl, q⟩ := h
  unfold w_law_tests
  have hL : (tests u v n w).length ≤ 100 := Nat.le_of_ble_eq_true rfl
  refine seq4 pe_ten ?_
  refine step0 (L := tests u v n w) (g := (testD N)) (k := 3) (pe_l3 (pe_t3 pe_l0 (pe_t3 pe_c (pe_var rfl) pe_c) pe_c) (pe_t3 pe_l0 (pe_t3 pe_c (pe_var rfl) pe_c) pe_c) (pe_t3 pe_l0 (pe_t3 pe_c (pe_var rfl) pe_c) pe_c)) ?_
  refine step (k := 3) (m := 1) hL (pe_l1 (pe_t3 (pe_l1 (pe_t4 pe_c (pe_var rfl) (pe_var rfl) pe_c)) (pe_t3 pe_c (pe_var rfl) pe_c) pe_c)) ?_
  refine step (k := 4) (m := 2) hL (pe_l2 (pe_t3 (pe_l1 (pe_t3 pe_c (pe_var rfl) pe_c)) (pe_t3 pe_c (pe_var rfl) pe_c) pe_c) (pe_t3 pe_l0 (pe_t4 pe_c (pe_var rfl) pe_t0 (pe_var rfl)) pe_c)) ?_
  refine step (k := 6) (m := 2) hL (pe_l2 (pe_t3 pe_l0 (pe_t4 pe_c (pe_var rfl) pe_t0 (pe_var rfl)) pe_c) (pe_t3 pe_l0 (pe_t4 pe_c (pe_var rfl) pe_t0 (pe_var rfl)) pe_c)) ?_
  refine step (k := 8) (m := 1) hL (pe_l1 (pe_t3 (pe_l2 (pe_t4 pe_c (pe_var rfl) (pe_var rfl) pe_c) (pe_t4 pe_c (pe_var rfl) (pe_var rfl) pe_c)) (pe_t4 pe_c (pe_var rfl) (pe_var rfl) pe_c) pe_c)) ?_
  refine step (k := 9) (m := 1) hL (pe_l1 (pe_t3 (pe_l2 (pe_t4 pe_c (pe_var rfl) (pe_var rfl) pe_c) (pe_t4 pe_c (pe_var rfl) (pe_var rfl) pe_c)) (pe_t4 pe_c (pe_var rfl) (pe_var rfl) pe_c) pe_c)) ?_
  refine step (k := 10) (m := 1) hL (pe_l1 (pe_t3 (pe_l1 (pe_t4 pe_c (pe_var rfl) (pe_var rfl) pe_c)) (pe_t4 pe_c (pe_var rfl) (pe_var rfl) (pe_negI pe_c)) pe_c)) ?_
  refine step (k := 11) (m := 2) hL (pe_l2 (pe_t3 (pe_l1 (pe_t3 pe_c (pe_var rfl) (pe_var rfl))) (pe_t3 pe_c (pe_var rfl) (pe_var rfl)) pe_c) (pe_t3 (pe_l1 (pe_t3 pe_c (pe_var rfl) pe_c)) (pe_t3 pe_c (pe_var rfl) (pe_var rfl)) pe_c)) ?_
  refine step (k := 13) (m := 1) hL (pe_l1 (pe_t3 (pe_l2 (pe_t3 pe_c (pe_var rfl) (pe_var rfl)) (pe_t3 pe_c (pe_var rfl) pe_c)) (pe_t3 pe_c (pe_var rfl) pe_c) pe_c)) ?_
  refine step (k := 14) (m := 2) hL (pe_l2 (pe_t3 (pe_l2 (pe_t3 pe_c (pe_var rfl) (pe_var rfl)) (pe_t3 pe_c (pe_var rfl) pe_c)) (pe_t3 pe_c (pe_var rfl) pe_c) pe_c) (pe_t3 pe_l0 (pe_t3 pe_c (pe_var rfl) (pe_var rfl)) pe_c)) ?_
  refine step (k := 16) (m := 2) hL (pe_l2 (pe_t3 (pe_l2 (pe_t3 pe_c (pe_var rfl) pe_c) (pe_t3 pe_c (pe_var rfl) pe_c)) (pe_t3 pe_c (pe_var rfl) (pe_var rfl)) pe_c) (pe_t3 pe_l0 (pe_t3 pe_c (pe_var rfl) (pe_var rfl)) pe_c)) ?_
  refine step (k := 18) (m := 2) hL (pe_l2 (pe_t3 (pe_l2 (pe_t3 pe_c (pe_var rfl) pe_c) (pe_t3 pe_c (pe_var rfl) pe_c)) (pe_t3 pe_c (pe_var rfl) (pe_var rfl)) pe_c) (pe_t3 pe_l0 (pe_t3 pe_c (pe_var rfl) (pe_var rfl)) pe_c)) ?_
  refine step (k := 20) (m := 1) hL (pe_l1 (pe_t3 (pe_l1 (pe_t3 pe_c (pe_var rfl) pe_c)) (pe_t3 pe_c (pe_var rfl) (pe_var rfl)) pe_c)) ?_
  refine step (k := 21) (m := 1) hL (pe_l1 (pe_t3 (pe_l1 (pe_t3 pe_c (pe_var rfl) pe_c)) (pe_t3 pe_c (pe_var rfl) pe_c) pe_c)) ?_
  refine step (k := 22) (m := 1) hL (pe_l1 (pe_t3 (pe_l1 (pe_t3 pe_c (pe_var rfl) pe_c)) (pe_t4 pe_c (pe_var rfl) (pe_var rfl) pe_c) pe_c)) ?_
  refine step (k := 23) (m := 1) hL (pe_l1 (pe_t3 (pe_l1 (pe_t4 pe_c pe_t0 (pe_var rfl) (pe_negI pe_c))) (pe_t4 pe_c pe_t0 (pe_var rfl) pe_c) pe_c)) ?_
  exact stepR (k := 24) hL (pe_l2 (pe_t3 (pe_l1 (pe_t4 pe_c (pe_var rfl) pe_t0 (pe_subI pe_c (pe_var rfl)))) (pe_t4 pe_c pe_t0 (pe_var rfl) (pe_subI (pe_var rfl) pe_c)) pe_c) (pe_t3 pe_l0 (pe_t3 pe_c (pe_var rfl) pe_c) pe_c)) q
end K46

set_option Elab.async false
set_option linter.all false
set_option maxRecDepth 100000
set_option maxHeartbeats 1000000
/-! K46c: what is asked of one choice. -/
namespace K46
open PySem L2 Dz Am

/-! ### defs with a star parameter -/
def wfSolS (hs : NestedKey → Int) : WF := fun ds μ Q => ∃ (N : Names) (fr : Fr) (as : List Atm), ds = frD N fr :: as.map (Atm.d N) ∧ as.length ≤ 900 ∧ Fits fr as ∧ (∀ e ∈ fr, e.2.length ≤ 10) ∧ Q (solD N (solution fr as)) μ
def wfContS : WF := fun ds μ Q => ∃ (N : Names) (fr : Fr) (as : List Atm), ds = frD N fr :: as.map (Atm.d N) ∧ as.length ≤ 900 ∧ Fits fr as ∧ (∀ e ∈ fr, e.2.length ≤ 10) ∧ (∀ a ∈ as, a.ok) ∧ Q (contD N (contradiction fr as)) μ
theorem few_sol {hs : NestedKey → Int} (ds : List DV) (μ : Mh) (Q : DV → Mh → Prop) (h : wfSolS hs ds μ Q) : 1 ≤ ds.length ∧ ds.length ≤ 1000 := by
  obtain ⟨N, fr, as, rfl, hl, _⟩ := h
  rw [List.length_cons, List.length_map]
  omega
theorem few_cont (ds : List DV) (μ : Mh) (Q : DV → Mh → Prop) (h : wfContS ds μ Q) : 1 ≤ ds.length ∧ ds.length ≤ 1000 := by
  obtain ⟨N, fr, as, rfl, hl, _⟩ := h
  rw [List.length_cons, List.length_map]
  omega
theorem p_solutionS {hs : NestedKey → Int} (ds rs : List DV) (μ : Mh) (Q : DV → Mh → Prop) (hl : ds.length = 1) (h : wfSolS hs (ds ++ rs) μ Q) : Am.w_solution hs (wfValues hs) { nx := fun _ μ' => Q .none μ', rt := Q } ((ds ++ [DV.tup rs]).map some ++ List.replicate 3 none) μ := by
  obtain ⟨N, fr, as, e, _, fit, sm, q⟩ := h
  match ds, hl with
  | [d], _ =>
    injection e with e1 e2
    have e2 : rs = as.map (Atm.d N) := e2
    rw [e1, e2]
    exact p_solution [frD N fr, asD N as] μ Q rfl ⟨N, fr, as, rfl, fit, sm, q⟩
theorem p_contradictionS {hs : NestedKey → Int} (ds rs : List DV) (μ : Mh) (Q : DV → Mh → Prop) (hl : ds.length = 1) (h : wfContS (ds ++ rs) μ Q) : Am.w_contradiction hs wfIsC { nx := fun _ μ' => Q .none μ', rt := Q } ((ds ++ [DV.tup rs]).map some ++ List.replicate 4 none) μ := by
  obtain ⟨N, fr, as, e, _, fit, sm, ok, q⟩ := h
  match ds, hl with
  | [d], _ =>
    injection e with e1 e2
    have e2 : rs = as.map (Atm.d N) := e2
    rw [e1, e2]
    exact p_contradiction [frD N fr, asD N as] μ Q rfl ⟨N, fr, as, rfl, fit, sm, ok, q⟩

/-! ### asked -/
theorem kds_eq : ∀ ks : List NestedKey, kds ks = ks.map kd
  | [] => rfl
  | k :: ks => by
    rw [List.map_cons, ← kds_eq ks]
    rfl
/-- a list of keys can be compared -/
theorem lst_shaped {ks : List NestedKey} (h : ∀ k ∈ ks, okK k) : shapedD (.lst (ks.map kd)) = true := by
  have e1 : noObjs (ks.map kd) = true := by rw [← kds_eq]; exact noObjs_kd ks
  have e2 : PyData.canLayAll0 (toPys (ks.map kd)) = true := by
    induction ks with
    | nil => rfl
    | cons k ks ih =>
      show ((toPy (kd k)).canLay0 && PyData.canLayAll0 (toPys (ks.map kd))) = true
      have e1' : noObjs (ks.map kd) = true := by rw [← kds_eq]; exact noObjs_kd ks
      rw [(h k List.mem_cons_self).1, ih (fun j hj => h j (List.mem_cons_of_mem _ hj)) e1']
      rfl
  have e3 : PyData.depthAll (toPys (ks.map kd)) ≤ 8 := by
    rw [← kds_eq, depths_kd]
    clear e1 e2
    induction ks with
    | nil => exact Nat.zero_le _
    | cons k ks ih =>
      show max k.depth (NestedKey.depthAll ks) ≤ 8
      have := (h k List.mem_cons_self).2
      have := ih fun j hj => h j (List.mem_cons_of_mem _ hj)
      omega
  unfold shapedD SeqAt.shaped
  rw [show noObj (.lst (ks.map kd)) = noObjs (ks.map kd) from rfl, e1, show (toPy (.lst (ks.map kd))).canLay0 = PyData.canLayAll0 (toPys (ks.map kd)) from rfl, e2]
  simp only [Bool.true_and]
  refine decide_eq_true ?_
  show PyData.depthAll (toPys (ks.map kd)) + 1 ≤ 64
  omega
theorem atoms_shaped {N : Names} {s : List Atm} (ok : ∀ a ∈ s, a.ok) : shapedD (.lst (s.map (Atm.d N))) = true := by
  have e : s.map (Atm.d N) = (s.map (Atm.k N)).map kd := by
    rw [List.map_map]
    rfl
  rw [e]
  refine lst_shaped fun k hk => ?_
  obtain ⟨a, ha, rfl⟩ := List.mem_map.mp hk
  exact Atm.okk (ok a ha)
theorem pad_mem {s : List Atm} (h : s.length ≤ 4) : (∀ a ∈ pad s, a ∈ s) ∧ (pad s).length ≤ 4 := by
  match s, h with
  | [], _ => exact ⟨fun a ha => (by cases ha), Nat.zero_le _⟩
  | [x], _ => exact ⟨fun a ha => by simpa [pad] using ha, Nat.le_of_ble_eq_true rfl⟩
  | [x, y], _ => exact ⟨fun a ha => by simpa [pad] using ha, Nat.le_of_ble_eq_true rfl⟩
  | [x, y, z], _ => exact ⟨fun a ha => by simpa [pad] using ha, Nat.le_of_ble_eq_true rfl⟩
  | [x, y, z, t], _ => exact ⟨fun a ha => by simpa [pad] using ha, Nat.le_of_ble_eq_true rfl⟩
def wfAsked (hs : NestedKey → Int) : WF := fun ds μ Q => ∃ (N : Names) (fr : Fr) (s : List Atm), ds = [frD N fr, .lst (s.map (Atm.d N))] ∧ s.length ≤ 4 ∧ Fits fr s ∧ (∀ e ∈ fr, e.2.length ≤ 10) ∧ (∀ a ∈ s, a.ok) ∧ Q (.lst [solD N (solution fr (pad s)), contD N (contradiction fr (pad s))]) μ
section
variable {ρ : Rho} {μ : Mh} {E : DEnds} {rest : WS} {wa : WE}
theorem seq_unl {x y z t : DV} {a b : Option DV} {d1 d2 d3 d4 : Option DV} (h : PEv wa [a, b, d1, d2, d3, d4] μ (.lst [x, y, z, t])) (k : rest E [a, b, some x, some y, some z, some t] μ) : wSeq (wAsg wa (wgLst 4 (wgCons (wgName 2) (wgCons (wgName 3) (wgCons (wgName 4) (wgCons (wgName 5) wgNil)))))) rest E [a, b, d1, d2, d3, d4] μ := h _ ⟨rfl, rfl, k⟩
end
theorem p_law_asked {hs : NestedKey → Int} (ds : List DV) (μ : Mh) (Q : DV → Mh → Prop) (hl : ds.length = 2) (h : wfAsked hs ds μ Q) : w_law_asked (wfSolS hs) wfContS { nx := fun _ μ' => Q .none μ', rt := Q } (ds.map some ++ List.replicate 4 none) μ := by
  obtain ⟨N, fr, s, rfl, h4, fit, sm, ok, q⟩ := h
  unfold w_law_asked
  have p1 := pad_mem h4
  have fitp : Fits fr (pad s) := fits_sub fit p1.1 (by have := p1.2; omega)
  have okp : ∀ a ∈ pad s, a.ok := fun a ha => ok a (p1.1 a ha)
  have ks : ∀ (ρ : Rho) (wr : WA), PAv wr ρ μ (frD N fr :: (pad s).map (Atm.d N)) → PEv (wLst (wCons (wCallS (wfSolS hs) wr) (wCons (wCallS wfContS wr) wNil))) ρ μ (.lst [solD N (solution fr (pad s)), contD N (contradiction fr (pad s))]) := fun ρ wr hr =>
    pe_l2 (pe_callS hr fun P q => ⟨N, fr, pad s, rfl, by have := p1.2; omega, fitp, sm, q⟩) (pe_callS hr fun P q => ⟨N, fr, pad s, rfl, by have := p1.2; omega, fitp, sm, okp, q⟩)
  have t0 : PTv (wTest (wBin wEqL (wVar 1) (wLst wNil))) [some (frD N fr), some (.lst (s.map (Atm.d N))), none, none, none, none] μ s.isEmpty := pt_test (pe_bin (x := .lst (s.map (Atm.d N))) (y := .lst []) (pe_var rfl) pe_l0 fun P q => by
    refine ⟨atoms_shaped ok, rfl, ?_⟩
    have e : deepEq (.lst (s.map (Atm.d N))) (.lst []) = s.isEmpty := by cases s <;> rfl
    rw [e]
    exact q)
  refine seq_if t0 (fun c => ?_) fun c => ?_
  · have es : s = [] := by cases s with
      | nil => rfl
      | cons _ _ => cases c
    subst es
    exact ret_v (ks _ _ (pa_cons (pe_var rfl) pa_nil)) q
  · match s, h4, c with
    | [], _, c => cases c
    | [x], _, _ =>
      refine seq_unl (x := x.d N) (y := x.d N) (z := x.d N) (t := x.d N) (pe_slTo (ds := [x.d N, x.d N, x.d N, x.d N, x.d N]) (pe_catL (xs := [x.d N]) (ys := [x.d N, x.d N, x.d N, x.d N]) (pe_var rfl) (pe_rep (ds := [x.d N]) (pe_slFrom (ds := [x.d N]) (i := -1) (pe_var rfl) (pe_negI pe_c) rfl) rfl (sl (Nat.le_of_ble_eq_true rfl))) (sl (Nat.le_of_ble_eq_true rfl))) pe_c rfl) ?_
      exact ret_v (ks _ _ (pa_cons (pe_var rfl) (pa_cons (pe_var rfl) (pa_cons (pe_var rfl) (pa_cons (pe_var rfl) (pa_cons (pe_var rfl) pa_nil)))))) q
    | [w, x], _, _ =>
      refine seq_unl (x := w.d N) (y := x.d N) (z := x.d N) (t := x.d N) (pe_slTo (ds := [w.d N, x.d N, x.d N, x.d N, x.d N, x.d N]) (pe_catL (xs := [w.d N, x.d N]) (ys := [x.d N, x.d N, x.d N, x.d N]) (pe_var rfl) (pe_rep (ds := [x.d N]) (pe_slFrom (ds := [w.d N, x.d N]) (i := -1) (pe_var rfl) (pe_negI pe_c) rfl) rfl (sl (Nat.le_of_ble_eq_true rfl))) (sl (Nat.le_of_ble_eq_true rfl))) pe_c rfl) ?_
      exact ret_v (ks _ _ (pa_cons (pe_var rfl) (pa_cons (pe_var rfl) (pa_cons (pe_var rfl) (pa_cons (pe_var rfl) (pa_cons (pe_var rfl) pa_nil)))))) q
    | [v, w, x], _, _ =>
      refine seq_unl (x := v.d N) (y := w.d N) (z := x.d N) (t := x.d N) (pe_slTo (ds := [v.d N, w.d N, x.d N, x.d N, x.d N, x.d N, x.d N]) (pe_catL (xs := [v.d N, w.d N, x.d N]) (ys := [x.d N, x.d N, x.d N, x.d N]) (pe_var rfl) (pe_rep (ds := [x.d N]) (pe_slFrom (ds := [v.d N, w.d N, x.d N]) (i := -1) (pe_var rfl) (pe_negI pe_c) rfl) rfl (sl (Nat.le_of_ble_eq_true rfl))) (sl (Nat.le_of_ble_eq_true rfl))) pe_c rfl) ?_
      exact ret_v (ks _ _ (pa_cons (pe_var rfl) (pa_cons (pe_var rfl) (pa_cons (pe_var rfl) (pa_cons (pe_var rfl) (pa_cons (pe_var rfl) pa_nil)))))) q
    | [u, v, w, x], _, _ =>
      refine seq_unl (x := u.d N) (y := v.d N) (z := w.d N) (t := x.d N) (pe_slTo (ds := [u.d N, v.d N, w.d N, x.d N, x.d N, x.d N, x.d N, x.d N]) (pe_catL (xs := [u.d N, v.d N, w.d N, x.d N]) (ys := [x.d N, x.d N, x.d N, x.d N]) (pe_var rfl) (pe_rep (ds := [x.d N]) (pe_slFrom (ds := [u.d N, v.d N, w.d N, x.d N]) (i := -1) (pe_var rfl) (pe_negI pe_c) rfl) rfl (sl (Nat.le_of_ble_eq_true rfl))) (sl (Nat.le_of_ble_eq_true rfl))) pe_c rfl) ?_
      exact ret_v (ks _ _ (pa_cons (pe_var rfl) (pa_cons (pe_var rfl) (pa_cons (pe_var rfl) (pa_cons (pe_var rfl) (pa_cons (pe_var rfl) pa_nil)))))) q
end K46

set_option Elab.async false
set_option linter.all false
set_option maxRecDepth 100000
set_option maxHeartbeats 2000000
/-! K46d: the law. -/
namespace K46
open PySem L2 Dz Am

theorem fits_of {n w : Nat} {s : List Atm} (hf : fitsB (fr46 n w) s = true) (hl : s.length ≤ 1000) : Fits (fr46 n w) s where
  nd := by
    have e : (fr46 n w).map (·.1) = List.range 4 := rfl
    rw [e]
    exact List.nodup_range
  len := Nat.le_of_ble_eq_true rfl
  alen := hl
  us := fun a ha u hu => of_decide_eq_true (List.all_eq_true.mp (List.all_eq_true.mp hf a ha) u hu)
theorem small_fr {n w : Nat} : ∀ e ∈ fr46 n w, e.2.length ≤ 10 := fun e he => by
  obtain ⟨i, _, rfl⟩ := List.mem_map.mp he
  show (if i = n then [Kd.nu] else if i = w then [Kd.no, Kd.wo] else [Kd.no, Kd.nu, Kd.wo]).length ≤ 10
  split
  · exact Nat.le_of_ble_eq_true rfl
  · split <;> exact Nat.le_of_ble_eq_true rfl
theorem ok_of {s : List Atm} (h : s.all okB = true) : ∀ a ∈ s, a.ok := fun a ha => by
  have := List.all_eq_true.mp h a ha
  cases a with
  | word s u w => exact this
  | _ => trivial
def wfLaw : WF := fun ds μ Q => ∃ ns : List Int, ds = [.fix (ns.map .int)] ∧ ∀ μ', Q (.bool true) μ'
section
variable {N : Names} {hs : NestedKey → Int} {u v n w : Nat} {Q : DV → Mh → Prop}
def spotsD (N : Names) : DV := .lst [N.v 0, N.v 1, N.v 2, N.v 3]
theorem spots_shaped : shapedD (spotsD N) = true := by
  have h := lstK_shaped (ks := [N.kk 0, N.kk 1, N.kk 2, N.kk 3]) fun k hk => by
    simp only [List.mem_cons, List.not_mem_nil, or_false] at hk
    rcases hk with rfl | rfl | rfl | rfl <;> exact ⟨(N.okk _).1, Nat.le_trans (N.okk _).2 (by decide)⟩
  exact h
theorem pairs_val : ∀ l : List (Nat × Vu), pairsN (l.map fun e => .tup [N.v e.1, e.2.d]) = some (vuE N l)
  | [] => rfl
  | e :: l => by
    rw [List.map_cons]
    show (match nkeys (kds (N.ks e.1)), pairsN (l.map fun e => .tup [N.v e.1, e.2.d]) with | some k, some l => some ((NestedKey.tup k, e.2.d) :: l) | _, _ => none) = _
    rw [nkeys_of, pairs_val l]
    rfl
/-- the slots of the law from its unknowns on -/
def rhoL (N : Names) (x0 x1 x3 x4 : DV) (u v n w : Nat) (rest : Rho) : Rho := [some x0, some x1, some (spotsD N), some x3, some x4, some (N.v u), some (N.v v), some (N.v n), some (N.v w), some (frD N (fr46 n w))] ++ rest
theorem seq_unl2 {ρ : Rho} {μ : Mh} {E : DEnds} {rest : WS} {wa : WE} {x y : DV} {i j : Nat} (h : PEv wa ρ μ (.lst [x, y])) (k : rest E ((ρ.set i (some x)).set j (some y)) μ) : wSeq (wAsg wa (wgLst 2 (wgCons (wgName i) (wgCons (wgName j) wgNil)))) rest E ρ μ := h _ ⟨rfl, rfl, k⟩
theorem good_turn {x0 x1 x3 x4 : DV} {y11 y12 y13 y14 y15 y16 y17 : Option DV} {s : List Atm} {E : DEnds} {μ : Mh} (hf : fitsB (fr46 n w) s = true) (ok : s.all okB = true) (h4 : s.length ≤ 4) (nc : isContr (fr46 n w) s = false) (hc : contradiction (fr46 n w) (pad s) = none)
    {l : List (Nat × Vu)} {i : Int} (hs1 : solution (fr46 n w) (pad s) = some l) (hk : l.map (·.1) = [0, 1, 2, 3]) (hn : lk l n = some (.num i)) (q : ∀ x11 x12 x13 x14 μ', E.nx (rhoL N x0 x1 x3 x4 u v n w [some (setD1 N s), x11, x12, x13, x14, y15, y16, y17]) μ') :
    (wSeq (wAsg (wCall 2 (wfAsked hs) (wCons (wVar 9) (wCons (wVar 10) wNil))) (wgLst 2 (wgCons (wgName 11) (wgCons (wgName 12) wgNil))))
    (wSeq (wIfS (wOrT (wTest (wBin (wIsB true) (wCallP 2 wfIsC [1, 0] (wCons (wB wTuple (wCons (wVar 10) wNil)) (wCons (wVar 9) wNil))) (wC (.bool false)))) (wTest (wBin wNotN (wVar 12) (wC .none)))) (wRet (wC (.bool false))) wNext)
    (wIfS (wOrT (wTest (wBin wNeL (wLc (sTup (wVar 11)) (wgTup 2 (wgCons (wgName 13) (wgCons (wgName 14) wgNil))) wYes (wVar 13) [13, 14]) (wVar 2))) (wNotT (wTest (wIsi tyInt (wBin (wNGet hs) (wB (wDictP hs) (wCons (wVar 11) wNil)) (wVar 7)))))) (wRet (wC (.bool false))) wNext)))
      E (rhoL N x0 x1 x3 x4 u v n w [some (setD1 N s), y11, y12, y13, y14, y15, y16, y17]) μ := by
  have fit := fits_of hf (by omega)
  refine seq_unl2 (x := valD' N l) (y := .none) (pe_call (pa_cons (pe_var rfl) (pa_cons (pe_var rfl) pa_nil)) rfl fun P q => ⟨N, fr46 n w, s, rfl, h4, fit, small_fr, ok_of ok, by rw [hs1, hc]; exact q⟩) ?_
  refine seq_if (b := false || false) (pt_or (b := false) (c := false) (pt_test ?_) fun _ => pt_test (pe_bin (x := .none) (y := .none) (pe_var rfl) pe_c fun P q => q)) (fun h => by cases h) fun _ => ?_
  · have k := pe_isB (neg := true) (ρ := rhoL N x0 x1 x3 x4 u v n w [some (setD1 N s), some (valD' N l), some .none, y13, y14, y15, y16, y17]) (μ := μ) (wa := wCallP 2 wfIsC [1, 0] (wCons (wB wTuple (wCons (wVar 10) wNil)) (wCons (wVar 9) wNil))) (wb := wC (.bool false)) (x := false) (y := false) (fun P q => by
      refine pa_cons (pe_b (z := asD N s) (pa_cons (x := setD1 N s) (pe_var rfl) pa_nil) fun P q => q) (pa_cons (pe_var rfl) pa_nil) _ ⟨rfl, N, fr46 n w, s, rfl, fit, small_fr, ?_⟩
      rw [nc]
      exact q) pe_c
    exact k
  · have kl := pe_lc (ρ := rhoL N x0 x1 x3 x4 u v n w [some (setD1 N s), some (valD' N l), some .none, y13, y14, y15, y16, y17]) (μ := μ) (g := wgTup 2 (wgCons (wgName 13) (wgCons (wgName 14) wgNil))) (ws := sTup (wVar 11)) (t := wYes) (e := wVar 13) (vs := [13, 14])
      (fun e : Nat × Vu => .tup [N.v e.1, e.2.d]) l (fun _ => true) (fun e => N.v e.1) (fun e => rhoL N x0 x1 x3 x4 u v n w [some (setD1 N s), some (valD' N l), some .none, some (N.v e.1), some e.2.d, y15, y16, y17]) (pi_tup (pe_var rfl)) (by
        have := congrArg List.length hk
        rw [List.length_map] at this
        rw [this]
        exact sl (Nat.le_of_ble_eq_true rfl)) (fun x _ P q => ⟨rfl, rfl, q⟩) (fun x _ => pt_yes) fun x _ _ => pe_var rfl
    rw [List.filter_eq_self.mpr fun _ _ => rfl, show l.map (fun e => N.v e.1) = (l.map (·.1)).map N.v by rw [List.map_map]; rfl, hk] at kl
    have ndl : (l.map (·.1)).Nodup := by rw [hk]; decide
    refine ifs_a (b := false || !true) (pta_or (pt_test (pe_neL kl (pe_var rfl) spots_shaped)) fun _ => pta_not (b := true) fun P q => ?_) (fun h => by cases h) fun _ μ' => q _ _ _ _ μ'
    show wB (wDictP hs) _ _ _ _
    refine pa_cons (pe_var (y := valD' N l) rfl) pa_nil _ ⟨vuE N l, pairs_val l, fun e he => ?_, nodup_enc N.kk_inj ndl, ?_, fun p hp => ?_⟩
    · obtain ⟨z, hz, rfl⟩ := List.mem_map.mp he
      exact (N.okk _).2
    · unfold vuE
      rw [enc_len]
      have := congrArg List.length hk
      rw [List.length_map] at this
      rw [this]
      exact sl (Nat.le_of_ble_eq_true rfl)
    · refine pe_var (y := kd (N.kk n)) rfl _ (nAt_in (hs := hs) (k := N.kk n) updM_same rfl (N.okk _) ?_)
      rw [show lkN (vuE N l) (N.kk n) = _ from lk_enc N.kk_inj n l, hn]
      exact q _
theorem bad_turn {x0 x1 x3 x4 : DV} {y11 y12 y13 y14 y15 y16 y17 : Option DV} {s : List Atm} {E : DEnds} {μ : Mh} (hf : fitsB (fr46 n w) s = true) (ok : s.all okB = true) (h4 : s.length ≤ 4) (nc : isContr (fr46 n w) s = true) (hs1 : solution (fr46 n w) (pad s) = none) (hc : contradiction (fr46 n w) (pad s) = some s)
    (hs2 : solution (fr46 n w) (pad (.kind n .nu :: s.take 3)) = none) (hc2 : contradiction (fr46 n w) (pad (.kind n .nu :: s.take 3)) = some s) (n4 : n < 4) (q : ∀ x11 x12 μ', E.nx (rhoL N x0 x1 x3 x4 u v n w [some (setD1 N s), x11, x12, y13, y14, y15, y16, y17]) μ') :
    (wSeq (wAsg (wCall 2 (wfAsked hs) (wCons (wVar 9) (wCons (wVar 10) wNil))) (wgLst 2 (wgCons (wgName 11) (wgCons (wgName 12) wgNil))))
    (wSeq (wIfS (wOrT (wTest (wBin wNotN (wVar 11) (wC .none))) (wOrT (wTest (wBin wNeL (wVar 12) (wB wTuple (wCons (wVar 10) wNil)))) (wTest (wBin (wIsB true) (wCall 2 wfIsC (wCons (wVar 9) (wCons (wB wTuple (wCons (wVar 10) wNil)) wNil))) (wC (.bool true)))))) (wRet (wC (.bool false))) wNext)
    (wIfS (wTest (wBin wNeL (wCall 2 (wfAsked hs) (wCons (wVar 9) (wCons (wBin wAdd (wLst (wCons (wTup (wCons (wC (.str "kind")) (wCons (wVar 7) (wCons (wC (.str "number")) wNil)))) wNil)) (wSl (wVar 10) wNoPart (wPart (wC (.int 3))))) wNil))) (wLst (wCons (wC .none) (wCons (wB wTuple (wCons (wVar 10) wNil)) wNil))))) (wRet (wC (.bool false))) wNext)))
      E (rhoL N x0 x1 x3 x4 u v n w [some (setD1 N s), y11, y12, y13, y14, y15, y16, y17]) μ := by
  have fit := fits_of hf (by omega)
  have oks := ok_of ok
  refine seq_unl2 (x := .none) (y := asD N s) (pe_call (pa_cons (pe_var rfl) (pa_cons (pe_var rfl) pa_nil)) rfl fun P q => ⟨N, fr46 n w, s, rfl, h4, fit, small_fr, oks, by rw [hs1, hc]; exact q⟩) ?_
  have pt : PEv (wB wTuple (wCons (wVar 10) wNil)) (rhoL N x0 x1 x3 x4 u v n w [some (setD1 N s), some .none, some (asD N s), y13, y14, y15, y16, y17]) μ (asD N s) := pe_b (pa_cons (x := setD1 N s) (pe_var rfl) pa_nil) fun P q => q
  refine seq_if (b := false || (false || false)) (pt_or (b := false) (c := false || false) (pt_test (pe_bin (x := .none) (y := .none) (pe_var rfl) pe_c fun P q => q)) fun _ => pt_or (b := false) (c := false) (pt_test (pe_neT (pe_var rfl) pt (asD_shaped oks))) fun _ => pt_test ?_) (fun h => by cases h) fun _ => ?_
  · have k := pe_isB (neg := true) (ρ := rhoL N x0 x1 x3 x4 u v n w [some (setD1 N s), some .none, some (asD N s), y13, y14, y15, y16, y17]) (μ := μ) (wa := wCall 2 wfIsC (wCons (wVar 9) (wCons (wB wTuple (wCons (wVar 10) wNil)) wNil))) (wb := wC (.bool true)) (x := true) (y := true)
      (pe_call (pa_cons (pe_var rfl) (pa_cons pt pa_nil)) rfl fun P q => ⟨N, fr46 n w, s, rfl, fit, small_fr, by rw [nc]; exact q⟩) pe_c
    exact k
  · have hf2 : Fits (fr46 n w) (.kind n .nu :: s.take 3) := ⟨fit.nd, fit.len, by rw [List.length_cons, List.length_take]; omega, fun a ha u hu => by
      rcases List.mem_cons.mp ha with rfl | ha
      · have hu : u ∈ [n] := hu
        rw [List.mem_singleton.mp hu]
        show n ∈ List.range 4
        exact List.mem_range.mpr n4
      · exact fit.us a (List.mem_of_mem_take ha) u hu⟩
    have ok2 : ∀ a ∈ (Atm.kind n .nu :: s.take 3), a.ok := fun a ha => by
      rcases List.mem_cons.mp ha with rfl | ha
      · trivial
      · exact oks a (List.mem_of_mem_take ha)
    have sh : shapedD (.lst [.none, asD N s]) = true := by
      have h := lstK_shaped (ks := [.none, asK N s]) fun k hk => by
        simp only [List.mem_cons, List.not_mem_nil, or_false] at hk
        rcases hk with rfl | rfl
        · exact ⟨rfl, Nat.zero_le _⟩
        · exact ⟨(asK_ok oks).1, Nat.le_trans (asK_ok oks).2 (by decide)⟩
      have e : DV.lst (kds [.none, asK N s]) = .lst [.none, asD N s] := by
        show DV.lst [.none, kd (asK N s)] = _
        rw [asK_d]
      rw [e] at h
      exact h
    have pc : PEv (wBin wAdd (wLst (wCons (wTup (wCons (wC (.str "kind")) (wCons (wVar 7) (wCons (wC (.str "number")) wNil)))) wNil)) (wSl (wVar 10) wNoPart (wPart (wC (.int 3))))) (rhoL N x0 x1 x3 x4 u v n w [some (setD1 N s), some .none, some (asD N s), y13, y14, y15, y16, y17]) μ (.lst ((Atm.kind n .nu :: s.take 3).map (Atm.d N))) := by
      have k := pe_catL (ρ := rhoL N x0 x1 x3 x4 u v n w [some (setD1 N s), some .none, some (asD N s), y13, y14, y15, y16, y17]) (μ := μ) (pe_l1 (pe_t3 (x := .str "kind") (y := N.v n) (z := .str "number") pe_c (pe_var (i := 7) rfl) pe_c)) (pe_slTo (ys := (s.map (Atm.d N)).take 3) (pe_var (i := 10) (y := setD1 N s) rfl) (pe_c (y := .int 3)) (Qz.cut_to 3)) (sl (by rw [List.length_take, List.length_map]; show 1 + _ ≤ _; omega))
      rw [← List.map_take] at k
      exact k
    exact ifs_v (b := false) (pt_test (pe_neL (ds := [.none, asD N s]) (pe_call (pa_cons (pe_var rfl) (pa_cons pc pa_nil)) rfl fun P q => ⟨N, fr46 n w, _, rfl, by rw [List.length_cons, List.length_take]; omega, hf2, small_fr, ok2, by rw [hs2, hc2]; exact q⟩) (pe_l2 pe_c pt) sh)) (fun h => by cases h) fun _ => q _ _ _
end
end K46

set_option Elab.async false
set_option linter.all false
set_option maxRecDepth 100000
set_option maxHeartbeats 2000000
/-! K46e: the law, joined. -/
namespace K46
open PySem L2 Dz Am

theorem shows_set (o : Option Bool) : Shows (setD o) := by
  cases o with
  | none => exact Siz.none.shows (by decide) (by decide)
  | some b => exact (Siz.bool b).shows (by decide) (by decide)
section
variable {N : Names} {hs : NestedKey → Int} {u v n w : Nat} {Q : DV → Mh → Prop}
theorem tests_end {x0 x1 x3 x4 : DV} {y10 y11 y12 y13 y14 y15 y16 y17 : Option DV} {μ : Mh} (ht : testsOk u v n w = true) (q : ∀ μ', Q (.bool true) μ') :
    (wSeq (wAsg (wLc (sLst (wCall 4 wfTests (wCons (wVar 5) (wCons (wVar 6) (wCons (wVar 7) (wCons (wVar 8) wNil)))))) (wgTup 3 (wgCons (wgName 10) (wgCons (wgName 16) (wgCons (wgName 17) wgNil)))) wYes (wTup (wCons (wCall 3 wfSettled (wCons (wVar 9) (wCons (wB wTuple (wCons (wVar 10) wNil)) (wCons (wVar 16) wNil)))) (wCons (wVar 17) wNil))) [10, 16, 17]) (wgName 15))
    (wRet (wBin wEqL (wLc (sLst (wVar 15)) (wgTup 2 (wgCons (wgName 11) (wgCons (wgName 17) wgNil))) (wTest (wBin wNeL (wB wRepr (wCons (wVar 11) wNil)) (wB wRepr (wCons (wVar 17) wNil)))) (wC (.int 1)) [11, 17]) (wLst wNil))))
      { nx := fun _ μ' => Q .none μ', rt := Q } (rhoL N x0 x1 x3 x4 u v n w [y10, y11, y12, y13, y14, y15, y16, y17]) μ := by
  have k := Am.pe_lc (ρ := rhoL N x0 x1 x3 x4 u v n w [y10, y11, y12, y13, y14, y15, y16, y17]) (μ := μ) (g := wgTup 3 (wgCons (wgName 10) (wgCons (wgName 16) (wgCons (wgName 17) wgNil)))) (ws := sLst (wCall 4 wfTests (wCons (wVar 5) (wCons (wVar 6) (wCons (wVar 7) (wCons (wVar 8) wNil)))))) (t := wYes)
    (e := wTup (wCons (wCall 3 wfSettled (wCons (wVar 9) (wCons (wB wTuple (wCons (wVar 10) wNil)) (wCons (wVar 16) wNil)))) (wCons (wVar 17) wNil))) (vs := [10, 16, 17]) (testD N) (tests u v n w) (fun _ => true) (fun t : List Atm × Atm × Option Bool => .tup [setD t.2.2, setD t.2.2])
    (fun t => rhoL N x0 x1 x3 x4 u v n w [some (setD1 N t.1), y11, y12, y13, y14, y15, some (t.2.1.d N), some (setD t.2.2)]) (pi_lst (pe_call (pa_cons (pe_var rfl) (pa_cons (pe_var rfl) (pa_cons (pe_var rfl) (pa_cons (pe_var rfl) pa_nil)))) rfl fun P q => ⟨N, u, v, n, w, rfl, q⟩)) (sl (Nat.le_of_ble_eq_true rfl)) (fun x _ P q => ⟨rfl, rfl, q⟩) (fun x _ => pt_yes) fun t hm _ => ?_
  · rw [List.filter_eq_self.mpr fun _ _ => rfl] at k
    refine seq_asg k ?_
    have k2 := Am.pe_lc (ρ := rhoL N x0 x1 x3 x4 u v n w [y10, y11, y12, y13, y14, some (.lst ((tests u v n w).map fun t : List Atm × Atm × Option Bool => .tup [setD t.2.2, setD t.2.2])), y16, y17]) (μ := μ) (g := wgTup 2 (wgCons (wgName 11) (wgCons (wgName 17) wgNil))) (ws := sLst (wVar 15)) (t := wTest (wBin wNeL (wB wRepr (wCons (wVar 11) wNil)) (wB wRepr (wCons (wVar 17) wNil)))) (e := wC (.int 1)) (vs := [11, 17])
      (fun t : List Atm × Atm × Option Bool => .tup [setD t.2.2, setD t.2.2]) (tests u v n w) (fun _ => false) (fun _ => .int 1) (fun t => rhoL N x0 x1 x3 x4 u v n w [y10, some (setD t.2.2), y12, y13, y14, some (.lst ((tests u v n w).map fun t : List Atm × Atm × Option Bool => .tup [setD t.2.2, setD t.2.2])), y16, some (setD t.2.2)]) (pi_lst (pe_var rfl)) (sl (Nat.le_of_ble_eq_true rfl)) (fun x _ P q => ⟨rfl, rfl, q⟩)
      (fun t _ => pt_test (pe_strN (s := shownD (setD t.2.2)) (r := shownD (setD t.2.2)) (pe_b (pa_cons (pe_var rfl) pa_nil) fun P q => ⟨shows_set _, q⟩) (pe_b (pa_cons (pe_var rfl) pa_nil) fun P q => ⟨shows_set _, q⟩) (by rw [decide_eq_true rfl]; rfl))) fun x _ h => by cases h
    rw [List.filter_eq_nil_iff.mpr fun _ _ => Bool.false_ne_true] at k2
    exact ret_v (pe_bin (z := .bool true) k2 pe_l0 fun P q => ⟨rfl, rfl, q⟩) (q _)
  · have h := List.all_eq_true.mp ht t hm
    simp only [Bool.and_eq_true, decide_eq_true_eq] at h
    obtain ⟨⟨h1, h2⟩, h3⟩ := h
    have fit := fits_of h1 (by rw [List.length_append]; show t.1.length + 1 ≤ _; omega)
    exact pe_tup (pa_cons (x := setD t.2.2) (pe_call (pa_cons (pe_var rfl) (pa_cons (pe_b (z := asD N t.1) (pa_cons (x := setD1 N t.1) (pe_var rfl) pa_nil) fun P q => q) (pa_cons (pe_var rfl) pa_nil))) rfl fun P q => ⟨N, fr46 n w, t.1, t.2.1, rfl, fit, small_fr, by rw [h3]; exact q⟩) (pa_cons (pe_var rfl) pa_nil)) (sl (Nat.le_of_ble_eq_true rfl))
theorem law_rest (rise : Rise N 4) (q : ∀ μ', Q (.bool true) μ') (μ3 : Mh) : ∀ (u v n w : Nat) (x0 x1 x3 x4 : DV) (y9 y10 y11 y12 y13 y14 y15 y16 y17 : Option DV), goodOk u v n w = true → badOk u v n w = true → testsOk u v n w = true → n < 4 → x3 = kindsD [.no, .nu, .wo] →
      ([(u, [Kd.no, .nu, .wo]), (v, [Kd.no, .nu, .wo]), (n, [Kd.nu]), (w, [Kd.no, .wo])] : Fr).Perm (fr46 n w) →
      (wSeq (wAsg (wB wTuple (wCons (wB wSorted (wCons (wLst (wCons (wTup (wCons (wVar 5) (wCons (wVar 3) wNil))) (wCons (wTup (wCons (wVar 6) (wCons (wVar 3) wNil))) (wCons (wTup (wCons (wVar 7) (wCons (wTup (wCons (wC (.str "number")) wNil)) wNil))) (wCons (wTup (wCons (wVar 8) (wCons (wTup (wCons (wC (.str "nothing")) (wCons (wC (.str "word")) wNil))) wNil))) wNil))))) wNil)) wNil)) (wgName 9))
    (wSeq (wFor (sLst (wCall 4 wfGood (wCons (wVar 5) (wCons (wVar 6) (wCons (wVar 7) (wCons (wVar 8) wNil)))))) (wgName 10) (wSeq (wAsg (wCall 2 (wfAsked hs) (wCons (wVar 9) (wCons (wVar 10) wNil))) (wgLst 2 (wgCons (wgName 11) (wgCons (wgName 12) wgNil))))
    (wSeq (wIfS (wOrT (wTest (wBin (wIsB true) (wCallP 2 wfIsC [1, 0] (wCons (wB wTuple (wCons (wVar 10) wNil)) (wCons (wVar 9) wNil))) (wC (.bool false)))) (wTest (wBin wNotN (wVar 12) (wC .none)))) (wRet (wC (.bool false))) wNext)
    (wIfS (wOrT (wTest (wBin wNeL (wLc (sTup (wVar 11)) (wgTup 2 (wgCons (wgName 13) (wgCons (wgName 14) wgNil))) wYes (wVar 13) [13, 14]) (wVar 2))) (wNotT (wTest (wIsi tyInt (wBin (wNGet hs) (wB (wDictP hs) (wCons (wVar 11) wNil)) (wVar 7)))))) (wRet (wC (.bool false))) wNext))))
    (wSeq (wFor (sLst (wCall 4 wfBad (wCons (wVar 5) (wCons (wVar 6) (wCons (wVar 7) (wCons (wVar 8) wNil)))))) (wgName 10) (wSeq (wAsg (wCall 2 (wfAsked hs) (wCons (wVar 9) (wCons (wVar 10) wNil))) (wgLst 2 (wgCons (wgName 11) (wgCons (wgName 12) wgNil))))
    (wSeq (wIfS (wOrT (wTest (wBin wNotN (wVar 11) (wC .none))) (wOrT (wTest (wBin wNeL (wVar 12) (wB wTuple (wCons (wVar 10) wNil)))) (wTest (wBin (wIsB true) (wCall 2 wfIsC (wCons (wVar 9) (wCons (wB wTuple (wCons (wVar 10) wNil)) wNil))) (wC (.bool true)))))) (wRet (wC (.bool false))) wNext)
    (wIfS (wTest (wBin wNeL (wCall 2 (wfAsked hs) (wCons (wVar 9) (wCons (wBin wAdd (wLst (wCons (wTup (wCons (wC (.str "kind")) (wCons (wVar 7) (wCons (wC (.str "number")) wNil)))) wNil)) (wSl (wVar 10) wNoPart (wPart (wC (.int 3))))) wNil))) (wLst (wCons (wC .none) (wCons (wB wTuple (wCons (wVar 10) wNil)) wNil))))) (wRet (wC (.bool false))) wNext))))
    (wSeq (wAsg (wLc (sLst (wCall 4 wfTests (wCons (wVar 5) (wCons (wVar 6) (wCons (wVar 7) (wCons (wVar 8) wNil)))))) (wgTup 3 (wgCons (wgName 10) (wgCons (wgName 16) (wgCons (wgName 17) wgNil)))) wYes (wTup (wCons (wCall 3 wfSettled (wCons (wVar 9) (wCons (wB wTuple (wCons (wVar 10) wNil)) (wCons (wVar 16) wNil)))) (wCons (wVar 17) wNil))) [10, 16, 17]) (wgName 15))
    (wRet (wBin wEqL (wLc (sLst (wVar 15)) (wgTup 2 (wgCons (wgName 11) (wgCons (wgName 17) wgNil))) (wTest (wBin wNeL (wB wRepr (wCons (wVar 11) wNil)) (wB wRepr (wCons (wVar 17) wNil)))) (wC (.int 1)) [11, 17]) (wLst wNil)))))))
      { nx := fun _ μ' => Q .none μ', rt := Q } ([some x0, some x1, some (spotsD N), some x3, some x4, some (N.v u), some (N.v v), some (N.v n), some (N.v w), y9] ++ [y10, y11, y12, y13, y14, y15, y16, y17]) μ3 := by
  intro u v n w x0 x1 x3 x4 y9 y10 y11 y12 y13 y14 y15 y16 y17 hg hb ht n4 e3 hp
  subst e3
  have pl : PEv (wLst (wCons (wTup (wCons (wVar 5) (wCons (wVar 3) wNil))) (wCons (wTup (wCons (wVar 6) (wCons (wVar 3) wNil))) (wCons (wTup (wCons (wVar 7) (wCons (wTup (wCons (wC (.str "number")) wNil)) wNil))) (wCons (wTup (wCons (wVar 8) (wCons (wTup (wCons (wC (.str "nothing")) (wCons (wC (.str "word")) wNil))) wNil))) wNil)))))
      ([some x0, some x1, some (spotsD N), some (kindsD [.no, .nu, .wo]), some x4, some (N.v u), some (N.v v), some (N.v n), some (N.v w), y9] ++ [y10, y11, y12, y13, y14, y15, y16, y17]) μ3 (.lst (([(u, [Kd.no, .nu, .wo]), (v, [Kd.no, .nu, .wo]), (n, [Kd.nu]), (w, [Kd.no, .wo])] : Fr).map (pairF N))) :=
    pe_l4 (pe_t2 (pe_var rfl) (pe_var rfl)) (pe_t2 (pe_var rfl) (pe_var rfl)) (pe_t2 (pe_var rfl) (pe_t1 pe_c)) (pe_t2 (pe_var rfl) (pe_t2 pe_c pe_c))
  refine seq_asg (y := frD N (fr46 n w)) (pe_b (pa_cons (pe_b (z := .lst ((fr46 n w).map (pairF N))) (pa_cons pl pa_nil) fun P q => sort_frame rise hp rfl (by decide) q) pa_nil) fun P q => q) ?_
  show wSeq _ _ _ (rhoL N x0 x1 (kindsD [.no, .nu, .wo]) x4 u v n w [y10, y11, y12, y13, y14, y15, y16, y17]) μ3
  let R : Unit → Rho → Mh → Prop := fun _ ρ _ => ∃ y10 y11 y12 y13 y14 y15 y16 y17, ρ = rhoL N x0 x1 (kindsD [.no, .nu, .wo]) x4 u v n w [y10, y11, y12, y13, y14, y15, y16, y17]
  refine seq_for (xs := (good u v n w).map (setD1 N)) (pi_lst (pe_call (pa_cons (pe_var rfl) (pa_cons (pe_var rfl) (pa_cons (pe_var rfl) (pa_cons (pe_var rfl) pa_nil)))) rfl fun P q => ⟨N, u, v, n, w, rfl, q⟩)) (for_fold (setD1 N) (fun _ _ => ()) R (good u v n w) () _ _ (fun s hm _ ρ μ' F hR hrt _ hnx _ => ?_) ⟨_, _, _, _, _, _, _, _, rfl⟩ fun ρ' μ' hR => ?_)
  · obtain ⟨y10, y11, y12, y13, y14, y15, y16, y17, rfl⟩ := hR
    have h := List.all_eq_true.mp hg s hm
    simp only [Bool.and_eq_true, decide_eq_true_eq, Bool.not_eq_true'] at h
    obtain ⟨⟨⟨⟨⟨g1, g2⟩, g3⟩, g4⟩, g5⟩, g6⟩ := h
    cases es : solution (fr46 n w) (pad s) with
    | none => rw [es] at g6; cases g6
    | some l =>
      rw [es] at g6
      have g6 : (decide (l.map (·.1) = [0, 1, 2, 3]) && (match lk l n with | some (.num _) => true | _ => false)) = true := g6
      simp only [Bool.and_eq_true, decide_eq_true_eq] at g6
      obtain ⟨g7, g8⟩ := g6
      cases el : lk l n with
      | none => rw [el] at g8; cases g8
      | some z =>
        rw [el] at g8
        cases z with
        | num i => exact good_turn g1 g2 g3 g4 g5 es g7 el fun _ _ _ _ μ'' => hnx _ _ ⟨_, _, _, _, _, _, _, _, rfl⟩
        | non => cases g8
        | word _ => cases g8
  · obtain ⟨y10, y11, y12, y13, y14, y15, y16, y17, rfl⟩ := hR
    dsimp only
    refine seq_for (xs := (bad u v n w).map (setD1 N)) (pi_lst (pe_call (pa_cons (pe_var rfl) (pa_cons (pe_var rfl) (pa_cons (pe_var rfl) (pa_cons (pe_var rfl) pa_nil)))) rfl fun P q => ⟨N, u, v, n, w, rfl, q⟩)) (for_fold (setD1 N) (fun _ _ => ()) R (bad u v n w) () _ _ (fun s hm _ ρ μ' F hR hrt _ hnx _ => ?_) ⟨_, _, _, _, _, _, _, _, rfl⟩ fun ρ' μ' hR => ?_)
    · obtain ⟨y10, y11, y12, y13, y14, y15, y16, y17, rfl⟩ := hR
      have h := List.all_eq_true.mp hb s hm
      simp only [Bool.and_eq_true, decide_eq_true_eq] at h
      obtain ⟨⟨⟨⟨⟨⟨⟨⟨g1, g2⟩, g3⟩, g4⟩, g5⟩, g6⟩, g7⟩, g8⟩, g9⟩ := h
      exact bad_turn g1 g2 g3 g5 g6 g7 g8 g9 n4 fun _ _ μ'' => hnx _ _ ⟨_, _, _, _, _, _, _, _, rfl⟩
    · obtain ⟨y10, y11, y12, y13, y14, y15, y16, y17, rfl⟩ := hR
      dsimp only
      exact tests_end ht q
end
end K46

set_option Elab.async false
set_option linter.all false
set_option maxRecDepth 100000
set_option maxHeartbeats 2000000
/-! K46f: the law. -/
namespace K46
open PySem L2 Dz Am

theorem seq_unl4 {ρ : Rho} {μ : Mh} {E : DEnds} {rest : WS} {wa : WE} {x y z t : DV} (h : PEv wa ρ μ (.lst [x, y, z, t])) (k : rest E ((((ρ.set 5 (some x)).set 6 (some y)).set 7 (some z)).set 8 (some t)) μ) :
    wSeq (wAsg wa (wgLst 4 (wgCons (wgName 5) (wgCons (wgName 6) (wgCons (wgName 7) (wgCons (wgName 8) wgNil)))))) rest E ρ μ := h _ ⟨rfl, rfl, k⟩
theorem p_law {hs : NestedKey → Int} (ds : List DV) (μ : Mh) (Q : DV → Mh → Prop) (hl : ds.length = 1) (h : wfLaw ds μ Q) :
    w_law_main hs (wfDeck "total") wfUnks (wfDraw "total") wfGood (wfAsked hs) wfIsC wfBad wfSettled wfTests { nx := fun _ μ' => Q .none μ', rt := Q } (ds.map some ++ List.replicate 17 none) μ := by
  obtain ⟨ns, rfl, q⟩ := h
  unfold w_law_main
  refine seq_ (pa_cons (pe_var rfl) pa_nil _ ⟨rfl, ns, rfl, fun a c μ1 ha hc hd on => ?_⟩)
  refine seq_ (pa_cons (pe_var rfl) (pa_cons pe_c pa_nil) _ ⟨rfl, a, c, 10, 4, rfl, by decide, hd.le (by decide), fun N μ2 hd2 kp rise => ?_⟩)
  refine seq_asg (y := kindsD [.no, .nu, .wo]) (pe_t3 pe_c pe_c pe_c) ?_
  refine seq_ (pa_cons (pe_var rfl) (pa_cons pe_c pa_nil) _ ⟨rfl, a, c, 9, 4, rfl, by decide, by decide, hd2, fun r μ3 r0 r1 hd3 on3 => ?_⟩)
  obtain ⟨r, rfl⟩ := Int.eq_ofNat_of_zero_le r0
  have hr : r < 4 := by omega
  match r, hr with
  | 0, _ =>
    have k : ∀ (ρ : Rho) (μ : Mh), ρ[2]? = some (some (spotsD N)) → ρ[4]? = some (some (.int 0)) → PEv (wBin wAdd (wSl (wVar 2) (wPart (wVar 4)) wNoPart) (wSl (wVar 2) wNoPart (wPart (wVar 4)))) ρ μ (.lst ([N.v 0, N.v 1, N.v 2, N.v 3] ++ [])) := fun ρ μ h2 h4 =>
      pe_catL (pe_slFrom (pe_var h2) (pe_var h4) rfl) (pe_slTo (pe_var h2) (pe_var h4) rfl) (sl (Nat.le_of_ble_eq_true rfl))
    refine seq_unl4 (k _ _ rfl rfl) ?_
    exact law_rest rise q _ 0 1 2 3 _ _ _ _ _ _ _ _ _ _ _ _ _ (good_ok 0) (bad_ok 0) (tests_ok 0) (by decide) rfl (by decide)
  | 1, _ =>
    have k : ∀ (ρ : Rho) (μ : Mh), ρ[2]? = some (some (spotsD N)) → ρ[4]? = some (some (.int 1)) → PEv (wBin wAdd (wSl (wVar 2) (wPart (wVar 4)) wNoPart) (wSl (wVar 2) wNoPart (wPart (wVar 4)))) ρ μ (.lst ([N.v 1, N.v 2, N.v 3] ++ [N.v 0])) := fun ρ μ h2 h4 =>
      pe_catL (pe_slFrom (pe_var h2) (pe_var h4) rfl) (pe_slTo (pe_var h2) (pe_var h4) rfl) (sl (Nat.le_of_ble_eq_true rfl))
    refine seq_unl4 (k _ _ rfl rfl) ?_
    exact law_rest rise q _ 1 2 3 0 _ _ _ _ _ _ _ _ _ _ _ _ _ (good_ok 1) (bad_ok 1) (tests_ok 1) (by decide) rfl (by decide)
  | 2, _ =>
    have k : ∀ (ρ : Rho) (μ : Mh), ρ[2]? = some (some (spotsD N)) → ρ[4]? = some (some (.int 2)) → PEv (wBin wAdd (wSl (wVar 2) (wPart (wVar 4)) wNoPart) (wSl (wVar 2) wNoPart (wPart (wVar 4)))) ρ μ (.lst ([N.v 2, N.v 3] ++ [N.v 0, N.v 1])) := fun ρ μ h2 h4 =>
      pe_catL (pe_slFrom (pe_var h2) (pe_var h4) rfl) (pe_slTo (pe_var h2) (pe_var h4) rfl) (sl (Nat.le_of_ble_eq_true rfl))
    refine seq_unl4 (k _ _ rfl rfl) ?_
    exact law_rest rise q _ 2 3 0 1 _ _ _ _ _ _ _ _ _ _ _ _ _ (good_ok 2) (bad_ok 2) (tests_ok 2) (by decide) rfl (by decide)
  | 3, _ =>
    have k : ∀ (ρ : Rho) (μ : Mh), ρ[2]? = some (some (spotsD N)) → ρ[4]? = some (some (.int 3)) → PEv (wBin wAdd (wSl (wVar 2) (wPart (wVar 4)) wNoPart) (wSl (wVar 2) wNoPart (wPart (wVar 4)))) ρ μ (.lst ([N.v 3] ++ [N.v 0, N.v 1, N.v 2])) := fun ρ μ h2 h4 =>
      pe_catL (pe_slFrom (pe_var h2) (pe_var h4) rfl) (pe_slTo (pe_var h2) (pe_var h4) rfl) (sl (Nat.le_of_ble_eq_true rfl))
    refine seq_unl4 (k _ _ rfl rfl) ?_
    exact law_rest rise q _ 3 0 1 2 _ _ _ _ _ _ _ _ _ _ _ _ _ (good_ok 3) (bad_ok 3) (tests_ok 3) (by decide) rfl (by decide)
end K46

set_option Elab.async false
set_option linter.all false
set_option maxRecDepth 100000
set_option maxHeartbeats 1000000
/-! K46z: the defs put together (printed by mkz.py). -/
namespace K46
open PySem L2 Dz
section
variable {P : Program} {w0 : World} {K : PySem.W.Frag} {mg : Str → Option Value} {base : Heap}
theorem D_unknowns_of (T : Tops K mg base w0) : Def P w0 K mg base 1 "unknowns_of" s_unknowns_of ["atom"] (Am.wfUnk) := def_of T.a_unknowns_of sc_unknowns_of (dv_unknowns_of T) (Am.p_unknowns_of)
theorem D_kind_asked (T : Tops K mg base w0) : Def P w0 K mg base 1 "kind_asked" s_kind_asked ["atom"] (Am.wfKa) := def_of T.a_kind_asked sc_kind_asked (dv_kind_asked T) (Am.p_kind_asked)
theorem D_kinds_left (T : Tops K mg base w0) : Def P w0 K mg base 2 "kinds_left" s_kinds_left ["frame", "atoms"] (Am.wfLeft (hsW w0)) := def_of T.a_kinds_left sc_kinds_left (dv_kinds_left T (D_kind_asked T) (D_unknowns_of T)) (Am.p_kinds_left)
theorem D_edges_of (T : Tops K mg base w0) : Def P w0 K mg base 1 "edges_of" s_edges_of ["numbers", "atoms"] (Am.wfEdges) := def_of T.a_edges_of sc_edges_of (dv_edges_of T) (Am.p_edges_of)
theorem D_numbers_solved (T : Tops K mg base w0) : Def P w0 K mg base 2 "numbers_solved" s_numbers_solved ["numbers", "atoms"] (Am.wfNums (hsW w0)) := def_of T.a_numbers_solved sc_numbers_solved (dv_numbers_solved T (D_edges_of T)) (Am.p_numbers_solved)
theorem D_classes_of (T : Tops K mg base w0) : Def P w0 K mg base 1 "classes_of" s_classes_of ["words", "atoms"] (Am.wfClasses (hsW w0)) := def_of T.a_classes_of sc_classes_of (dv_classes_of T) (Am.p_classes_of)
theorem D_words_told (T : Tops K mg base w0) : Def P w0 K mg base 1 "words_told" s_words_told ["head", "atoms"] (Am.wfTold (hsW w0)) := def_of T.a_words_told sc_words_told (dv_words_told T) (Am.p_words_told)
theorem D_are_unlike (T : Tops K mg base w0) : Def P w0 K mg base 1 "are_unlike" s_are_unlike ["head", "told", "atoms"] (Am.wfUnl (hsW w0)) := def_of T.a_are_unlike sc_are_unlike (dv_are_unlike T) (Am.p_are_unlike)
theorem D_word_of (T : Tops K mg base w0) : Def P w0 K mg base 1 "word_of" s_word_of ["number"] (Am.wfWord) := def_of T.a_word_of sc_word_of (dv_word_of T) (Am.p_word_of)
theorem D_words_solved (T : Tops K mg base w0) : Def P w0 K mg base 2 "words_solved" s_words_solved ["words", "atoms"] (Am.wfWords (hsW w0)) := def_of T.a_words_solved sc_words_solved (dv_words_solved T (D_classes_of T) (D_words_told T) (D_are_unlike T) (D_word_of T)) (Am.p_words_solved)
theorem D_values_solved (T : Tops K mg base w0) : Def P w0 K mg base 3 "values_solved" s_values_solved ["frame", "atoms"] (Am.wfValues (hsW w0)) := def_of T.a_values_solved sc_values_solved (dv_values_solved T (D_kinds_left T) (D_numbers_solved T) (D_words_solved T)) (Am.p_values_solved)
theorem D_solution (T : Tops K mg base w0) : DefS P w0 K mg base 4 "solution" s_solution (wfSolS (hsW w0)) := defS_of (ps := ["frame"]) T.a_solution sc_solution (fun kV doc pm an cdv ct us rest h => match us, h, rest with | [_], _, [] => rfl | [_], _, _ :: _ => rfl) (dv_solution T (D_values_solved T)) few_sol (p_solutionS)
theorem D_is_contradiction (T : Tops K mg base w0) : Def P w0 K mg base 4 "is_contradiction" s_is_contradiction ["frame", "atoms"] (Am.wfIsC) := def_of T.a_is_contradiction sc_is_contradiction (dv_is_contradiction T (D_values_solved T)) (Am.p_is_contradiction)
theorem D_contradiction (T : Tops K mg base w0) : DefS P w0 K mg base 5 "contradiction" s_contradiction (wfContS) := defS_of (ps := ["frame"]) T.a_contradiction sc_contradiction (fun kV doc pm an cdv ct us rest h => match us, h, rest with | [_], _, [] => rfl | [_], _, _ :: _ => rfl) (dv_contradiction T (D_is_contradiction T)) few_cont (p_contradictionS (hs := hsW w0))
theorem D_other_kinds (T : Tops K mg base w0) : Def P w0 K mg base 1 "other_kinds" s_other_kinds ["unknown", "kind"] (Am.wfOther) := def_of T.a_other_kinds sc_other_kinds (dv_other_kinds T) (Am.p_other_kinds)
theorem D_negations (T : Tops K mg base w0) : Def P w0 K mg base 2 "negations" s_negations ["atom"] (Am.wfNeg) := def_of T.a_negations sc_negations (dv_negations T (D_other_kinds T) (D_unknowns_of T) (D_kind_asked T)) (Am.p_negations)
theorem D_settled (T : Tops K mg base w0) : Def P w0 K mg base 5 "settled" s_settled ["frame", "atoms", "test"] (Am.wfSettled) := def_of T.a_settled sc_settled (dv_settled T (D_is_contradiction T) (D_negations T)) (Am.p_settled)
theorem D_law_deck (T : Tops K mg base w0) : Def P w0 K mg base 1 "_law_deck" s_law_deck ["_law_script"] (wfDeck "total") := def_of T.a_law_deck sc_law_deck (dv_law_deck T) (fun ds μ Q hl h => deck_ok (S := 71081) (B := 16807) (A := 2147483629) (C := 61) (M := 2147483587) (by decide) (by decide) (by decide) (by decide) (by decide) ds μ Q hl h)
theorem D_law_draw (T : Tops K mg base w0) : Def P w0 K mg base 1 "_law_draw" s_law_draw ["_law_deck_here", "_law_many"] (wfDraw "total") := def_of T.a_law_draw sc_law_draw (dv_law_draw T) (fun ds μ Q hl h => draw_ok (A := 2147483629) (B := 60317) (C := 47) (D := 48271) (E := 2147483647) (F := 69827) (G := 31) (I := 2147483587) (J := 39373) (L := 2147483563) (M := 64) (by decide) (by decide) (by decide) (by decide) (by decide) (by decide) (by decide) (by decide) (by decide) ds μ Q hl h)
theorem D_law_unknowns (T : Tops K mg base w0) : Def P w0 K mg base 2 "_law_unknowns" s_law_unknowns ["_law_deck_here", "_law_many"] (Am.wfUnks) := def_of T.a_law_unknowns sc_law_unknowns (dv_law_unknowns T (D_law_draw T)) (Am.p_law_unknowns)
theorem D_law_asked (T : Tops K mg base w0) : Def P w0 K mg base 6 "_law_asked" s_law_asked ["_law_around", "_law_some"] (wfAsked (hsW w0)) := def_of T.a_law_asked sc_law_asked (dv_law_asked T (D_solution T) (D_contradiction T)) (p_law_asked)
theorem D_law_good (T : Tops K mg base w0) : Def P w0 K mg base 1 "_law_good" s_law_good ["_law_u", "_law_v", "_law_n", "_law_w"] (wfGood) := def_of T.a_law_good sc_law_good (dv_law_good T) (p_law_good)
theorem D_law_bad (T : Tops K mg base w0) : Def P w0 K mg base 1 "_law_bad" s_law_bad ["_law_u", "_law_v", "_law_n", "_law_w"] (wfBad) := def_of T.a_law_bad sc_law_bad (dv_law_bad T) (p_law_bad)
theorem D_law_tests (T : Tops K mg base w0) : Def P w0 K mg base 1 "_law_tests" s_law_tests ["_law_u", "_law_v", "_law_n", "_law_w"] (wfTests) := def_of T.a_law_tests sc_law_tests (dv_law_tests T) (p_law_tests)
theorem law_end {h : Heap} {fa : Addr} (_ : K.In h) (_ : h.Ns mainGlobals mg) (_ : ∃ o, h.get? sysModules = some o) (hfa : mg "law" = some (.ref fa)) (T0 : Tops K mg h w0) :
    ∃ fd : FuncData, (∀ (s : Shared) (u : Value), BindsTo s fd ⟨[u], []⟩ [("_law_script", u)]) ∧ ∀ base : Heap, K.In base → base.Ns mainGlobals mg → (∃ o, base.get? sysModules = some o) → FnG P w0 K mg base 7 fa fd ["_law_script"] (spD K 1 wfLaw) := by
  obtain ⟨f, fd, h1, F⟩ := T0.a_law_main
  have e := hfa.symm.trans h1
  cases e
  refine ⟨fd, fun s u => ?_, fun base _ _ hsm => ?_⟩
  · obtain ⟨oc, od, kV, doc, pm, an, cdv, ct, osl, rfl, lk, hcd⟩ := F.ex
    exact .of_eq rfl
  · have T : Tops K mg base w0 := { T0 with sm := hsm }
    exact fn_dat F sc_law_main rfl (dv_law_main T (D_law_deck T) (D_law_unknowns T) (D_law_draw T) (D_law_good T) (D_law_asked T) (D_is_contradiction T) (D_law_bad T) (D_settled T) (D_law_tests T) fa) p_law
end
end K46

set_option Elab.async false
set_option linter.all false
set_option maxRecDepth 100000
set_option maxHeartbeats 0
/-! K46h: the end. -/
open PySem PySem.W PyProof.Rows

theorem PySem.Challenge.cw_failsalike_k46_atoms_by_hand_holds : PySem.Challenge.rw_failsalike_k46_atoms_by_hand.Holds := by
  w_on; o_law; k_head; (case hw => w_witness2)
  k_fill
  refine Dz.walk_ofG (l := PySem.Challenge.rw_failsalike_k46_atoms_by_hand) (n := 63) (k := 7) (x := "_law_script") (sp := fun K => Dz.spD K 1 K46.wfLaw) rfl (by decide) (by decide +kernel) rfl ⟨rfl, by decide, by decide⟩ (fun w h Y => PySem.W.kIn_of Y) ?F ?hsp
  case hsp => exact fun K H a ns _ _ hS => Dz.law_start (fun μ P hq => ⟨ns, rfl, hq⟩) hS
  case F =>
    intro w mg fa h KX G hsm hmg
    refine' K46.law_end KX G hsm hmg ?T
    case T =>
      refine' K46.Tops.mk ?t0 ?t1 ?t2 ?t3 ?t4 ?t5 ?t6 ?t7 ?t8 ?t9 ?t10 ?t11 ?t12 ?t13 ?t14 ?t15 ?t16 ?t17 ?t18 ?t19 ?t20 ?t21 ?t22 ?t23 ?t24 ?t25 ?t26 ?t27 ?t28 ?t29 ?t30 ?t31 ?t32 ?t33 ?t34 ?t35 ?t36 ?t37 ?t38 ?t39 ?t40 ?t41 ?t42
      case t0 =>
        refine' Dz.at1_of KX G ?a ?l ?c ?k
        (case a => k_is); (case l => k_is); (case c => k_is); (case k => k_is)
      case t1 =>
        refine' Dz.at1_of KX G ?a ?l ?c ?k
        (case a => k_is); (case l => k_is); (case c => k_is); (case k => k_is)
      case t2 =>
        refine' Dz.at1_of KX G ?a ?l ?c ?k
        (case a => k_is); (case l => k_is); (case c => k_is); (case k => k_is)
      case t3 =>
        refine' Dz.at1_of KX G ?a ?l ?c ?k
        (case a => k_is); (case l => k_is); (case c => k_is); (case k => k_is)
      case t4 =>
        refine' Dz.at1_of KX G ?a ?l ?c ?k
        (case a => k_is); (case l => k_is); (case c => k_is); (case k => k_is)
      case t5 =>
        refine' Dz.at1_of KX G ?a ?l ?c ?k
        (case a => k_is); (case l => k_is); (case c => k_is); (case k => k_is)
      case t6 =>
        refine' Dz.at1_of KX G ?a ?l ?c ?k
        (case a => k_is); (case l => k_is); (case c => k_is); (case k => k_is)
      case t7 =>
        refine' Dz.at1_of KX G ?a ?l ?c ?k
        (case a => k_is); (case l => k_is); (case c => k_is); (case k => k_is)
      case t8 =>
        refine' Dz.at1_of KX G ?a ?l ?c ?k
        (case a => k_is); (case l => k_is); (case c => k_is); (case k => k_is)
      case t9 =>
        refine' Dz.at1_of KX G ?a ?l ?c ?k
        (case a => k_is); (case l => k_is); (case c => k_is); (case k => k_is)
      case t10 =>
        refine' Dz.at1_of KX G ?a ?l ?c ?k
        (case a => k_is); (case l => k_is); (case c => k_is); (case k => k_is)
      case t11 =>
        refine' Dz.at1_of KX G ?a ?l ?c ?k
        (case a => k_is); (case l => k_is); (case c => k_is); (case k => k_is)
      case t12 =>
        refine' Dz.at1_of KX G ?a ?l ?c ?k
        (case a => k_is); (case l => k_is); (case c => k_is); (case k => k_is)
      case t13 =>
        refine' Dz.at1_of KX G ?a ?l ?c ?k
        (case a => k_is); (case l => k_is); (case c => k_is); (case k => k_is)
      case t14 =>
        refine' Dz.at1_of KX G ?a ?l ?c ?k
        (case a => k_is); (case l => k_is); (case c => k_is); (case k => k_is)
      case t15 =>
        refine' Dz.at1_of KX G ?a ?l ?c ?k
        (case a => k_is); (case l => k_is); (case c => k_is); (case k => k_is)
      case t16 =>
        refine' Dz.at1_of KX G ?a ?l ?c ?k
        (case a => k_is); (case l => k_is); (case c => k_is); (case k => k_is)
      case t17 =>
        refine' Dz.at1_of KX G ?a ?l ?c ?k
        (case a => k_is); (case l => k_is); (case c => k_is); (case k => k_is)
      case t18 =>
        refine' Dz.at1_of KX G ?a ?l ?c ?k
        (case a => k_is); (case l => k_is); (case c => k_is); (case k => k_is)
      case t19 =>
        refine' Dz.at1_of KX G ?a ?l ?c ?k
        (case a => k_is); (case l => k_is); (case c => k_is); (case k => k_is)
      case t20 =>
        refine' Dz.at1_of KX G ?a ?l ?c ?k
        (case a => k_is); (case l => k_is); (case c => k_is); (case k => k_is)
      case t21 =>
        refine' Dz.at1_of KX G ?a ?l ?c ?k
        (case a => k_is); (case l => k_is); (case c => k_is); (case k => k_is)
      case t22 =>
        refine' Dz.at1_of KX G ?a ?l ?c ?k
        (case a => k_is); (case l => k_is); (case c => k_is); (case k => k_is)
      case t23 =>
        refine' Dz.at1_of KX G ?a ?l ?c ?k
        (case a => k_is); (case l => k_is); (case c => k_is); (case k => k_is)
      case t24 =>
        refine' Dz.at1_of KX G ?a ?l ?c ?k
        (case a => k_is); (case l => k_is); (case c => k_is); (case k => k_is)
      case t25 =>
        refine' PySem.W.mg_none_of KX G ?z
        (case z => k_is)
      case t26 =>
        refine' PySem.W.mg_none_of KX G ?z
        (case z => k_is)
      case t27 =>
        refine' PySem.W.mg_none_of KX G ?z
        (case z => k_is)
      case t28 =>
        refine' PySem.W.mg_none_of KX G ?z
        (case z => k_is)
      case t29 =>
        refine' PySem.W.mg_none_of KX G ?z
        (case z => k_is)
      case t30 =>
        refine' PySem.W.mg_none_of KX G ?z
        (case z => k_is)
      case t31 =>
        refine' PySem.W.mg_none_of KX G ?z
        (case z => k_is)
      case t32 =>
        refine' PySem.W.mg_none_of KX G ?z
        (case z => k_is)
      case t33 =>
        refine' PySem.W.mg_none_of KX G ?z
        (case z => k_is)
      case t34 =>
        refine' PySem.W.mg_none_of KX G ?z
        (case z => k_is)
      case t35 =>
        refine' Dz.dct_of KX G ?a ?l ?hk (Dz.ea_cons ?n0 (Dz.ci_str) (Dz.ea_cons ?n1 (Dz.ci_str) (Dz.ea_cons ?n2 (Dz.ci_str) (Dz.ea_cons ?n3 (Dz.ci_str) Dz.ea_nil))))
        (case a => k_is); (case l => k_is); (case hk => exact ⟨⟨_, _, rfl, rfl⟩, ⟨_, _, rfl, rfl⟩, ⟨_, _, rfl, rfl⟩, ⟨_, _, rfl, rfl⟩, trivial⟩)
        (case n0 => k_is)
        (case n1 => k_is)
        (case n2 => k_is)
        (case n3 => k_is)
      case t36 =>
        refine' Dz.glob_of KX G ?a (Dz.ci_tup ?l0 ?z0 ?v0)
        (case a => k_is)
        (case l0 => k_is); (case z0 => exact Nat.le_trans (Nat.le_of_ble_eq_true (show Nat.ble _ 100 = true from rfl)) (by rw [PySem.sizeLine_eq]; omega))
        (case v0 => exact (Dz.CIs.cons (Dz.ci_str) (Dz.CIs.cons (Dz.ci_str) (Dz.CIs.cons (Dz.ci_str) Dz.CIs.nil))))
      case t37 =>
        refine' ⟨_, PySem.W.mg_of KX G ?a, ?b⟩
        (case a => k_is); (case b => exact ⟨_, rfl⟩)
      case t38 =>
        refine' ⟨_, PySem.W.mg_of KX G ?a, ?b⟩
        (case a => k_is); (case b => exact ⟨_, rfl⟩)
      case t39 =>
        refine' ⟨_, PySem.W.mg_of KX G ?a, ?b⟩
        (case a => k_is); (case b => exact ⟨_, rfl⟩)
      case t40 =>
        refine' ⟨_, PySem.W.mg_of KX G ?a, ?b⟩
        (case a => k_is); (case b => exact ⟨_, rfl⟩)
      case t41 =>
        refine' Dz.glob_of KX G ?a (Dz.ci_tup ?l0 ?z0 ?v0)
        (case a => k_is)
        (case l0 => k_is); (case z0 => exact Nat.le_trans (Nat.le_of_ble_eq_true (show Nat.ble _ 100 = true from rfl)) (by rw [PySem.sizeLine_eq]; omega))
        (case v0 => exact Dz.CIs.nil)
      case t42 =>
        exact hsm
