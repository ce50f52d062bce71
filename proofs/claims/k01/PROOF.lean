import PyProof.Rows.All
import Wide.All
import OpenK.AllK
import Wide.FinOn
import HandS.ForMost
import HandS.IsInst
import HandS.TupLe
import HandS.TupAny
import HandS.Deep
import HandS.Wide
import HandS.Lambda
import HandS.ExcInit
import KE.KeyNested
import HandS.Style
import PyProof.ReprBulk
import PyProof.FitsInt
import PyProof.Rows.StrReprJoin
import HandS.Star
import HandS.Iter
import KE.SortData
import KE.GoesMore
import KE.GoesEnum
import PyProof.EnumMake
import PyProof.Draws
import PyProof.RulesMatch
import HandS.More
import HandS.Set
import HandS.SetTxt0
import HandS.SetBool
import HandS.NoneIn
import PyProof.AutoSeq1
import HandS.Small
import HandS.TupMul
import HandS.Strs
import KE.KDictPairs
import KE.KDictCopyH
import HandS.DictTup
import HandS.ReCall
import PyProof.Rows.TupDisplay
import HandS.SlotsOwn
import HandS.FStr
import HandS.MethStar
import HandS.Replace
import HandS.ExcOwn
import HandS.Defaults
import HandS.Property
import HandS.MakeKwOnly
import HandS.ExcField
import HandS.ClsMeth
import KE.KExcInit
import HandS.TryMany
import HandS.DictComp
import KE.KDictWalk
import HandS.TupLen
import HandS.Conv
import PyProof.DictMoreH
import HandS.SetFor
import HandS.WordsDict
import PyProof.IsRules
import HandS.DictEq
import KE.KRevSl
import PyProof.NeKinds
import KE.SortKeyed
import KE.KLam
import KE.KNestM
import PyProof.ExcBaseAll.Exception
import HandS.Text
import PyProof.Rows.IntBool
import PyProof.Rows.FloatCmp
import KE.KExcIs
import HandS.ExcIs
import HandS.ExcValue
import HandS.HotCalls
import PySem.Challenge.RW_failsalike_k01_errors
import PyProof.StrLawsChain
import PyProof.Rows.ReprOcc
import KE.KExcLine
import KE.RegKTryMore
set_option Elab.async false
set_option linter.all false
set_option maxRecDepth 100000
set_option maxHeartbeats 4000000
namespace Dz
open PySem PySem.Spec L2 PyProof.Rows
/-- a new tuple's object: of the class tuple, without a dict of its own -/
def NewT (o : Obj) : Prop := o.cls = .type "tuple" ∧ o.dict = none
/-- a tuple known to have no dict of its own -/
def SqN (K : PySem.W.Frag) (H : Hp) (a : Addr) (xs : List V) : Prop :=
  (∃ o : Obj, H a = some (.frz o (.tup xs)) ∧ NewT o) ∨
    ∃ (o : Obj) (its : Array Value) (n : Nat), K.lookup a = some o ∧ NewT o ∧ o.data = .seq its n ∧ its.size ≤ sizeLine ∧ Vals xs its.toList
theorem SqN.t {K : PySem.W.Frag} {H : Hp} {a : Addr} {xs : List V} (h : SqN K H a xs) : SqT K H a xs := by
  rcases h with ⟨o, h, _⟩ | ⟨o, its, n, h1, h2, h3⟩
  · exact .inl (.inr ⟨o, h⟩)
  · exact .inr ⟨o, its, n, h1, h2.1, h3⟩
section
variable {X : Cx}
theorem newT_ok {P : Program} {w : World} {H : Hp} {h : Heap} {us : List Value} {xs : List V} (r : Vals xs us) (z : xs.length ≤ sizeLine) :
    ObjOk P w H (h.push { cls := .type "tuple", data := .seq us.toArray }) h.objs.size (.frz { cls := .type "tuple", data := .seq us.toArray } (.tup xs)) :=
  ⟨Heap.get?_push_size _ rfl, z, us, r, ⟨_, Heap.get?_push_size _ rfl, rfl, _, rfl⟩⟩
variable {e : Expr} {es : List Expr} {te : TE} {t : TA} {pos : Pos}
def tTupN (t : TA) : TE := fun σ H Q => t σ H fun xs H1 => xs.length ≤ sizeLine ∧ ∀ p o, H1 p = none → NewT o → Q (.ref p) (upd H1 p (.frz o (.tup xs)))
theorem pe_tupN {x1} (h : PA X es t) : PE X (.Tuple es x1 pos) (tTupN t) := by
  refine ⟨fun pins s σ H Q I hq => ?_⟩
  refine wpAny_Tuple_spliced (thn (h.run pos pins s σ H _ I hq) fun us s1 ⟨xs, H1, I1, r, z, q⟩ => ⟨by rw [← r.length]; exact z, ?_⟩)
  have hf : H1 s1.heap.objs.size = none := I1.hok.fresh (Nat.le_refl _)
  exact ⟨.ref s1.heap.objs.size, upd H1 s1.heap.objs.size (.frz { cls := .type "tuple", data := .seq us.toArray } (.tup xs)), I1.laid (t' := s1.toks) (fun b u e => Heap.get?_push_of_some _ e) (Nat.le_refl _) (newT_ok r z), rfl, q _ _ hf ⟨rfl, rfl⟩⟩
theorem call_tupleN : CallR X (.type "tuple") (fun xs H Q => ∃ p ys, xs = [.ref p] ∧ ((SqL X.K H p ys ∧ ∀ l o, H l = none → NewT o → Q (.ref l) (upd H l (.frz o (.tup ys)))) ∨ (SqT X.K H p ys ∧ Q (.ref p) H))) := by
  intro pins s σ H xs us Q I r h
  obtain ⟨p, ys, rfl, h⟩ := h
  obtain ⟨u, rfl, rx⟩ := vals1 r
  cases rx
  rcases h with ⟨hq, q⟩ | ⟨hq, q⟩
  · obtain ⟨its, r', pl, hz⟩ := I.list hq
    have hlen := r'.length
    refine call_tuple_list pl.isList (fun h' kp => ?_) (by simp only [List.size_toArray] <;> omega)
    have I1 : Inv X pins σ H { s with heap := h' } := I.kept (t' := s.toks) kp
    exact ⟨.ref h'.objs.size, _, I1.laid (t' := s.toks) (fun b o e => Heap.get?_push_of_some _ e) (Nat.le_refl _) (newT_ok r' hz), rfl, q _ _ (I1.hok.fresh (Nat.le_refl _)) ⟨rfl, rfl⟩⟩
  · obtain ⟨its, r', pl, hz⟩ := I.tuple hq
    exact call_tuple_same pl ⟨.ref p, H, I, rfl, q⟩
/-- t + u -/
def rCatN (K : PySem.W.Frag) : R2 := fun x y H Q => ∃ a b xs ys, x = .ref a ∧ y = .ref b ∧ SqT K H a xs ∧ SqT K H b ys ∧ xs.length + ys.length ≤ sizeLine ∧
  (xs = [] → Q (.ref b) H) ∧ (xs ≠ [] → ys = [] → Q (.ref a) H) ∧ (xs ≠ [] → ys ≠ [] → ∀ p o, H p = none → NewT o → Q (.ref p) (upd H p (.frz o (.tup (xs ++ ys)))))
theorem op_catN : OpR X (binaryOp .Add) (rCatN X.K) := by
  intro pins s σ H x y v u Q I rx ry h
  obtain ⟨a, b, xs, ys, rfl, rfl, ha, hb, hz, q0, q1, q2⟩ := h
  cases rx
  cases ry
  obtain ⟨its, r1, p1, _⟩ := I.tuple ha
  obtain ⟨its2, r2, p2, _⟩ := I.tuple hb
  by_cases hx : xs = []
  · subst hx
    cases r1
    exact cat_tup0 p1 p2 ⟨.ref b, H, I, rfl, q0 rfl⟩
  · refine HT.cat_tup p1 p2 (fun z => hx (r1.nil_iff.mp z)) (fun z => ⟨.ref a, H, I, rfl, q1 hx (r2.nil_iff.mp z)⟩) (fun z => ?_) (by rw [← r1.length, ← r2.length]; exact hz)
    exact ⟨.ref s.heap.objs.size, _, I.laid (t' := s.toks) (fun b ob q => Heap.get?_push_of_some _ q) (Nat.le_refl _) (newT_ok (r1.append r2) (by rw [List.length_append]; exact hz)), rfl, q2 hx (fun w => z (r2.nil_iff.mpr w)) _ _ (I.hok.fresh (Nat.le_refl _)) ⟨rfl, rfl⟩⟩
/-- t[lo:hi]: the whole of it is t itself -/
def rSlN (K : PySem.W.Frag) : V → Option Int → Option Int → Hp → VK → Prop := fun x lo hi H Q => ∃ a xs, x = .ref a ∧ SqT K H a xs ∧
  (HT.sIx xs.length 0 lo = 0 ∧ HT.sIx xs.length xs.length hi = xs.length → Q (.ref a) H) ∧ (¬ (HT.sIx xs.length 0 lo = 0 ∧ HT.sIx xs.length xs.length hi = xs.length) → ∀ p o, H p = none → NewT o → Q (.ref p) (upd H p (.frz o (.tup (cutV xs lo hi)))))
theorem sl_tupN : SlR X (rSlN X.K) := by
  intro pins s σ H x v vl vu lo hi sl Q I rx hs pl pu h
  obtain ⟨a, xs, rfl, hx, q1, q2⟩ := h
  cases rx
  obtain ⟨its, r, ht, hz⟩ := I.tuple hx
  have hlen : its.toArray.size = xs.length := by rw [List.size_toArray]; exact r.length.symm
  refine ⟨"tuple", _, PyProof.Rows.slot_tuple_getitem.lookup, ht.typeIs, ?_⟩
  by_cases hw : HT.sIx xs.length 0 lo = 0 ∧ HT.sIx xs.length xs.length hi = xs.length
  · exact getItem_tuple_whole ht hs pl pu (by rw [hlen]; exact hw) ⟨.ref a, H, I, rfl, q1 hw⟩
  · refine HT.getItem_tuple_cut ht hs pl pu (by rw [hlen]; exact hw) ?_ (by rw [hlen]; exact hz)
    rw [hlen]
    exact ⟨.ref s.heap.objs.size, _, I.laid (t' := s.toks) (fun b ob q => Heap.get?_push_of_some _ q) (Nat.le_refl _) (newT_ok ((r.drop (HT.sIx xs.length 0 lo)).take (HT.sIx xs.length xs.length hi - HT.sIx xs.length 0 lo)) (Nat.le_trans (cutV_length xs lo hi) hz)), rfl, q2 hw _ _ (I.hok.fresh (Nat.le_refl _)) ⟨rfl, rfl⟩⟩
end
end Dz
set_option Elab.async false
set_option linter.all false
set_option maxRecDepth 100000
set_option maxHeartbeats 4000000
namespace Dz
open PySem L2
/-- plain data; obj: an object that may change, by its address -/
inductive DV where
  | none | bool (b : Bool) | int (i : Int) | str (x : Str)
  | tup (ds : List DV) | lst (ds : List DV) | dct (kvs : List (Key × DV)) | obj (a : Addr)
  /-- a list that is read alone (the script) -/
  | fix (ds : List DV)
  /-- a dict that changes no more, whose keys are of any depth; hs: the keys' hash, as this run has it -/
  | dn (hs : NestedKey → Int) (ks vs : List DV)
mutual
/-- data that can be a key of any depth -/
def nkey : DV → Option NestedKey
  | .none => some .none
  | .int i => some (.num i)
  | .str x => some (.text x)
  | .tup ds => (nkeys ds).map .tup
  | _ => none
def nkeys : List DV → Option (List NestedKey)
  | [] => some []
  | d :: ds => match nkey d, nkeys ds with
    | some k, some ks => some (k :: ks)
    | _, _ => none
end
/-- the object of a dict with keys at addresses -/
def rawN (a : Addr) (hs : NestedKey → Int) (es : List (NestedKey × Addr × V)) : HO := .ext fun h => es.length ≤ sizeLine ∧ (a == sysModules) = false ∧ ∃ xs : List (NestedKey × Addr × Value),
  xs.map (fun x => (x.1, x.2.1)) = es.map (fun e => (e.1, e.2.1)) ∧ Vals (es.map (·.2.2)) (xs.map (·.2.2)) ∧
  ∃ o ds ep, h.get? a = some o ∧ o.ExactDict ∧ o.data = .dict ds ep ∧ ds.toList = xs.map fun x => ⟨hs x.1, .ref x.2.1, x.2.2⟩
mutual
/-- the value v is the data d, as the heap stands -/
inductive Is (K : PySem.W.Frag) (H : Hp) : V → DV → Prop
  | none : Is K H .non .none
  | bool (b : Bool) : Is K H (.bl b) (.bool b)
  | int (i : Int) : Is K H (.int i) (.int i)
  | str (x : Str) : Is K H (.str x) (.str x)
  | tup {a : Addr} {xs : List V} {ds : List DV} : SqN K H a xs → Iss K H xs ds → Is K H (.ref a) (.tup ds)
  | lst {a : Addr} {xs : List V} {ds : List DV} : H a = some (.lst xs) → Iss K H xs ds → Is K H (.ref a) (.lst ds)
  | dct {a : Addr} {kvs : List (Key × V)} {ds : List (Key × DV)} : H a = some (.dK kvs) → kvs.map (·.1) = ds.map (·.1) → Iss K H (kvs.map (·.2)) (ds.map (·.2)) → Is K H (.ref a) (.dct ds)
  | obj (a : Addr) : Is K H (.ref a) (.obj a)
  | fix {a : Addr} {xs : List V} {ds : List DV} : SqL K H a xs → Iss K H xs ds → Is K H (.ref a) (.fix ds)
  | dn {a : Addr} {o : Obj} {hs : NestedKey → Int} {es : List (NestedKey × Addr × V)} {ks vs : List DV} : H a = some (.frz o (rawN a hs es)) → nkeys ks = some (es.map (·.1)) → (∀ e ∈ es, e.1.depth ≤ 8) → (es.map (·.1)).Nodup → Iss K H (es.map fun e => .ref e.2.1) ks → Iss K H (es.map (·.2.2)) vs → Is K H (.ref a) (.dn hs ks vs)
inductive Iss (K : PySem.W.Frag) (H : Hp) : List V → List DV → Prop
  | nil : Iss K H [] []
  | cons {v : V} {vs : List V} {d : DV} {ds : List DV} : Is K H v d → Iss K H vs ds → Iss K H (v :: vs) (d :: ds)
end
theorem Same.seqT {K : PySem.W.Frag} {H H' : Hp} {a : Addr} {xs : List V} (e : Same H H') (h : SqT K H a xs) : SqT K H' a xs := by
  rcases h with (h | ⟨o, h⟩) | h
  · exact .inl (.inl (e _ _ h))
  · exact .inl (.inr ⟨o, e _ _ h⟩)
  · exact .inr h
theorem Same.seqN {K : PySem.W.Frag} {H H' : Hp} {a : Addr} {xs : List V} (e : Same H H') (h : SqN K H a xs) : SqN K H' a xs := by
  rcases h with ⟨o, h, n⟩ | h
  · exact .inl ⟨o, e _ _ h, n⟩
  · exact .inr h
mutual
theorem Is.mono {K : PySem.W.Frag} {H H' : Hp} (e : Same H H') : ∀ {v : V} {d : DV}, Is K H v d → Is K H' v d
  | _, _, .none => .none
  | _, _, .bool b => .bool b
  | _, _, .int i => .int i
  | _, _, .str x => .str x
  | _, _, .tup h r => .tup (Same.seqN e h) (Iss.mono e r)
  | _, _, .lst h r => .lst (e _ _ h) (Iss.mono e r)
  | _, _, .dct h k r => .dct (e _ _ h) k (Iss.mono e r)
  | _, _, .obj a => .obj a
  | _, _, .fix h r => .fix (e.seq h) (Iss.mono e r)
  | _, _, .dn h n dp nd r r2 => .dn (e _ _ h) n dp nd (Iss.mono e r) (Iss.mono e r2)
theorem Iss.mono {K : PySem.W.Frag} {H H' : Hp} (e : Same H H') : ∀ {vs : List V} {ds : List DV}, Iss K H vs ds → Iss K H' vs ds
  | _, _, .nil => .nil
  | _, _, .cons h r => .cons (Is.mono e h) (Iss.mono e r)
end
theorem Iss.length {K : PySem.W.Frag} {H : Hp} : ∀ {vs : List V} {ds : List DV}, Iss K H vs ds → vs.length = ds.length
  | _, _, .nil => rfl
  | _, _, .cons _ r => congrArg (· + 1) (Iss.length r)
theorem Iss.append {K : PySem.W.Frag} {H : Hp} : ∀ {vs us : List V} {ds es : List DV}, Iss K H vs ds → Iss K H us es → Iss K H (vs ++ us) (ds ++ es)
  | _, _, _, _, .nil, s => s
  | _, _, _, _, .cons h r, s => .cons h (Iss.append r s)
theorem Iss.take {K : PySem.W.Frag} {H : Hp} : ∀ {vs : List V} {ds : List DV} (n : Nat), Iss K H vs ds → Iss K H (vs.take n) (ds.take n)
  | _, _, 0, _ => .nil
  | _, _, _ + 1, .nil => .nil
  | _, _, n + 1, .cons h r => .cons h (Iss.take n r)
theorem Iss.drop {K : PySem.W.Frag} {H : Hp} : ∀ {vs : List V} {ds : List DV} (n : Nat), Iss K H vs ds → Iss K H (vs.drop n) (ds.drop n)
  | _, _, 0, r => r
  | _, _, _ + 1, .nil => .nil
  | _, _, n + 1, .cons _ r => Iss.drop n r
theorem Iss.get {K : PySem.W.Frag} {H : Hp} : ∀ {vs : List V} {ds : List DV} {i : Nat} {d : DV}, Iss K H vs ds → ds[i]? = some d → ∃ v, vs[i]? = some v ∧ Is K H v d
  | _, _, _, _, .nil, e => by simp at e
  | _, _, 0, d, .cons h _, e => by simp at e; subst e; exact ⟨_, rfl, h⟩
  | _, _, i + 1, d, .cons _ r, e => by
    obtain ⟨v, h1, h2⟩ := Iss.get (i := i) (d := d) r (by simpa using e)
    exact ⟨v, by simpa using h1, h2⟩
theorem Iss.getV {K : PySem.W.Frag} {H : Hp} : ∀ {vs : List V} {ds : List DV} {i : Nat} {v : V}, Iss K H vs ds → vs[i]? = some v → ∃ d, ds[i]? = some d ∧ Is K H v d
  | _, _, _, _, .nil, e => by simp at e
  | _, _, 0, v, .cons h _, e => by simp at e; subst e; exact ⟨_, rfl, h⟩
  | _, _, i + 1, v, .cons _ r, e => by
    obtain ⟨d, h1, h2⟩ := Iss.getV (i := i) (v := v) r (by simpa using e)
    exact ⟨d, by simpa using h1, h2⟩
theorem Iss.set {K : PySem.W.Frag} {H : Hp} {v : V} {d : DV} (h : Is K H v d) : ∀ {vs : List V} {ds : List DV} (i : Nat), Iss K H vs ds → Iss K H (vs.set i v) (ds.set i d)
  | _, _, _, .nil => .nil
  | _, _, 0, .cons _ r => .cons h r
  | _, _, i + 1, .cons q r => .cons q (Iss.set h i r)
theorem Iss.replicate {K : PySem.W.Frag} {H : Hp} {vs : List V} {ds : List DV} (r : Iss K H vs ds) : ∀ n : Nat, Iss K H (List.replicate n vs).flatten (List.replicate n ds).flatten
  | 0 => .nil
  | n + 1 => by
    rw [List.replicate_succ, List.replicate_succ, List.flatten_cons, List.flatten_cons]
    exact r.append (Iss.replicate r n)
theorem Iss.reverse {K : PySem.W.Frag} {H : Hp} : ∀ {vs : List V} {ds : List DV}, Iss K H vs ds → Iss K H vs.reverse ds.reverse
  | _, _, .nil => .nil
  | _, _, .cons h r => by
    rw [List.reverse_cons, List.reverse_cons]
    exact (Iss.reverse r).append (.cons h .nil)
inductive MO where
  /-- a dict whose keys are tuples, of any depth; hs: the keys' hash, as this run has it -/
  | dcN (hs : NestedKey → Int) (kvs : List (NestedKey × DV))
  | lst (ds : List DV) | dct (kvs : List (Key × DV)) | ins (C : Addr) (fs : List (Str × DV))
  /-- an object of which only φ is known: it stays so as long as it and the addresses near stay -/
  | ext (near : List Addr) (φ : Hp → Prop)
  /-- an object that belongs to another one -/
  | inner
  /-- a dict that is walked: its very object, as it stands -/
  | lck (od : Obj) (xs : List (Key × V)) (kvs : List (Key × DV))
  /-- the table of a def's code object; q: the name of the functions that it knows -/
  | tab (q : Str)
  /-- an exception that is held, not raised: its class, its fields -/
  | xo (C : Addr) (fs : List (Str × DV))
abbrev Mh := Addr → Option MO
def updM (μ : Mh) (a : Addr) (o : MO) : Mh := fun b => if b = a then some o else μ b
theorem updM_same {μ : Mh} {a : Addr} {o : MO} : updM μ a o a = some o := by unfold updM; rw [if_pos rfl]
theorem updM_ne {μ : Mh} {a b : Addr} {o : MO} (h : b ≠ a) : updM μ a o b = μ b := by unfold updM; rw [if_neg h]
/-- what is neither framed nor an object -/
def hid (R : Hp) (μ : Mh) (H : Hp) : Hp := fun a => if (R a).isNone = true ∧ (μ a).isNone = true then H a else none
theorem hid_at {R : Hp} {μ : Mh} {H : Hp} {a : Addr} (h1 : R a = none) (h2 : μ a = none) : hid R μ H a = H a := by
  unfold hid
  rw [if_pos ⟨by rw [h1]; rfl, by rw [h2]; rfl⟩]
theorem hid_some {R : Hp} {μ : Mh} {H : Hp} {a : Addr} {o : HO} (h : hid R μ H a = some o) : R a = none ∧ μ a = none ∧ H a = some o := by
  unfold hid at h
  split at h
  · rename_i c
    exact ⟨by simpa using c.1, by simpa using c.2, h⟩
  · cases h
theorem hid_le {R : Hp} {μ : Mh} {H : Hp} : Same (hid R μ H) H := fun _ _ h => (hid_some h).2.2
def MOk (K : PySem.W.Frag) (Hm H : Hp) (μ : Mh) (a : Addr) : MO → Prop
  | .dcN hs ks => ∃ es : List (NestedKey × Addr × V), H a = some (rawN a hs es) ∧ (∀ e ∈ es, e.1.depth ≤ 8 ∧ ∃ d, Is K Hm (.ref e.2.1) d ∧ nkey d = some e.1) ∧ (es.map (·.1)).Nodup ∧ es.map (·.1) = ks.map (·.1) ∧ Iss K Hm (es.map (·.2.2)) (ks.map (·.2))
  | .lst ds => ∃ xs, H a = some (.lst xs) ∧ Iss K Hm xs ds
  | .dct ks => ∃ kvs : List (Key × V), H a = some (.dK kvs) ∧ kvs.map (·.1) = ks.map (·.1) ∧ Iss K Hm (kvs.map (·.2)) (ks.map (·.2))
  | .ins C fs => ∃ dx gs, H a = some (.ins C dx gs) ∧ gs.map (·.1) = fs.map (·.1) ∧ Iss K Hm (gs.map (·.2)) (fs.map (·.2))
  | .ext near φ => φ H ∧ (∃ o, H a = some o) ∧ (∀ b ∈ near, μ b = some .inner) ∧ ∀ H1 H2 : Hp, φ H1 → (∀ b, b = a ∨ b ∈ near → H2 b = H1 b) → φ H2
  | .inner => ∃ o, H a = some o
  | .lck od xs ks => H a = some (.frz od (.dK xs)) ∧ xs.map (·.1) = ks.map (·.1) ∧ Iss K Hm (xs.map (·.2)) (ks.map (·.2))
  | .tab q => ∃ ps : Array Value, H a = some (.tbl ps) ∧ TriplesOk ps.toList ∧ ∀ (pos : Pos) (cv : Value), codeAmong pos ps.toList = some cv → ∃ c, cv = .ref c ∧ Hm c = some (LamX.CodeO c q)
  | .xo C fs => (fs = [] ∧ H a = some (exo a C none)) ∨ ∃ dx gs, H a = some (exo a C (some dx)) ∧ Hm dx = some (exd dx gs) ∧ gs.map (·.1) = fs.map (·.1) ∧ Iss K Hm (gs.map (·.2)) (fs.map (·.2))
/-- what those who catch an exception must find again: the frames, and what was seen, when they began -/
class Gd where
  R : Hp
  S : Hp
/-- nothing -/
@[reducible] def Gd.non : Gd := ⟨fun _ => none, fun _ => none⟩
structure OkG (γ : Gd) (K : PySem.W.Frag) (R : Hp) (μ : Mh) (H : Hp) : Prop where
  fr : ∀ a o, R a = some o → H a = some o
  dj : ∀ a o, R a = some o → μ a = none
  ob : ∀ a o, μ a = some o → MOk K (hid R μ H) H μ a o
  sub : ∀ a o, γ.R a = some o → R a = some o
  sam : Same γ.S (hid R μ H)
abbrev Ok [γ : Gd] (K : PySem.W.Frag) (R : Hp) (μ : Mh) (H : Hp) : Prop := OkG γ K R μ H
theorem MOk.here {K : PySem.W.Frag} {Hm H : Hp} {μ : Mh} {a : Addr} : ∀ {o : MO}, MOk K Hm H μ a o → ∃ u, H a = some u
  | .dcN _ _, h => let ⟨_, e, _⟩ := h; ⟨_, e⟩
  | .lst _, h => let ⟨_, e, _⟩ := h; ⟨_, e⟩
  | .dct _, h => let ⟨_, e, _⟩ := h; ⟨_, e⟩
  | .ins _ _, h => let ⟨_, _, e, _⟩ := h; ⟨_, e⟩
  | .ext _ _, h => h.2.1
  | .inner, h => h
  | .lck _ _ _, h => ⟨_, h.1⟩
  | .tab _, h => let ⟨_, e, _⟩ := h; ⟨_, e⟩
  | .xo _ _, h => by
    rcases h with ⟨_, e⟩ | ⟨_, _, e, _⟩
    · exact ⟨_, e⟩
    · exact ⟨_, e⟩
variable [γ : Gd]
section
variable {K : PySem.W.Frag} {R : Hp} {μ μ' : Mh} {H H' : Hp} {p : Addr} {o : HO}
theorem Ok.freeM (k : Ok K R μ H) (h : H p = none) : μ p = none := by
  cases e : μ p with
  | none => rfl
  | some q => obtain ⟨u, z⟩ := (k.ob p q e).here; rw [h] at z; cases z
theorem Ok.freeR (k : Ok K R μ H) (h : H p = none) : R p = none := by
  cases e : R p with
  | none => rfl
  | some q => have z := k.fr p q e; rw [h] at z; cases z
theorem Ok.freeG (k : Ok K R μ H) (h : H p = none) : γ.R p = none := by
  cases e : γ.R p with
  | none => rfl
  | some q => have z := k.fr p q (k.sub p q e); rw [h] at z; cases z
theorem Ok.subOff {D : Addr} {u : HO} (k : Ok K (upd R D u) μ H) (ng : γ.R D = none) : ∀ a v, γ.R a = some v → R a = some v := fun a v h => by
  have ne : a ≠ D := fun z => by subst z; rw [ng] at h; cases h
  have := k.sub a v h
  rw [upd_ne ne] at this
  exact this
theorem Ok.hidNew (k : Ok K R μ H) (h : H p = none) : hid R μ (upd H p o) = upd (hid R μ H) p o := by
  funext b
  by_cases e : b = p
  · subst e
    rw [upd_same, hid_at (k.freeR h) (k.freeM h), upd_same]
  · unfold hid
    rw [upd_ne e, upd_ne e]
theorem Ok.sameNew (k : Ok K R μ H) (h : H p = none) : Same (hid R μ H) (hid R μ (upd H p o)) := fun b u e => by
  rw [k.hidNew h, upd_ne (fun z => ?_)]
  · exact e
  · subst z
    have := hid_le b u e
    rw [h] at this
    cases this
theorem MOk.mono {Hm Hm' : Hp} {a : Addr} (s : Same Hm Hm') (e : H' a = H a) (en : ∀ b ∈ (match μ a with | some (.ext near _) => near | _ => []), H' b = H b) : ∀ {o : MO}, μ a = some o → (∀ b, μ b = some .inner → μ' b = some .inner) → MOk K Hm H μ a o → MOk K Hm' H' μ' a o
  | .dcN _ _, _, _, ⟨es, h, ks, nd, q, r⟩ => ⟨es, e.trans h, fun x hx => let ⟨z, d, i, n⟩ := ks x hx; ⟨z, d, i.mono s, n⟩, nd, q, r.mono s⟩
  | .lst _, _, _, ⟨xs, h, r⟩ => ⟨xs, e.trans h, r.mono s⟩
  | .dct _, _, _, ⟨xs, h, q, r⟩ => ⟨xs, e.trans h, q, r.mono s⟩
  | .ins _ _, _, _, ⟨dx, gs, h, q, r⟩ => ⟨dx, gs, e.trans h, q, r.mono s⟩
  | .ext near φ, hm, hi, ⟨h, ⟨u, hu⟩, hn, st⟩ => by
    rw [hm] at en
    refine ⟨st H H' h (fun b hb => ?_), ⟨u, e.trans hu⟩, fun b hb => hi b (hn b hb), st⟩
    rcases hb with rfl | hb
    · exact e
    · exact en b hb
  | .inner, _, _, ⟨u, h⟩ => ⟨u, e.trans h⟩
  | .lck _ _ _, _, _, ⟨h, q, r⟩ => ⟨e.trans h, q, r.mono s⟩
  | .tab _, _, _, ⟨ps, h, t, r⟩ => ⟨ps, e.trans h, t, fun pos cv hc => let ⟨c, e1, e2⟩ := r pos cv hc; ⟨c, e1, s _ _ e2⟩⟩
  | .xo _ _, _, _, .inl ⟨q, h⟩ => .inl ⟨q, e.trans h⟩
  | .xo _ _, _, _, .inr ⟨dx, gs, h, h2, q, r⟩ => .inr ⟨dx, gs, e.trans h, s _ _ h2, q, r.mono s⟩
/-- a new thing, not an object that changes -/
theorem Ok.new (k : Ok K R μ H) (h : H p = none) : Ok K R μ (upd H p o) := by
  have ne : ∀ {b u}, H b = some u → b ≠ p := fun e z => by subst z; rw [h] at e; cases e
  refine ⟨fun a u e => ?_, k.dj, fun a u e => ?_, k.sub, k.sam.trans (k.sameNew h)⟩
  · rw [upd_ne (ne (k.fr a u e))]
    exact k.fr a u e
  · obtain ⟨w, hw⟩ := (k.ob a u e).here
    refine (k.ob a u e).mono (k.sameNew h) (upd_ne (ne hw)) (fun b hb => ?_) e (fun _ z => z)
    rw [e] at hb
    cases u with
    | ext near φ =>
      obtain ⟨_, _, hn, _⟩ := k.ob a _ e
      obtain ⟨v, hv⟩ := (k.ob b _ (hn b hb)).here
      exact upd_ne (ne hv)
    | _ => cases hb
/-- a new object that may change -/
theorem Ok.newM {m : MO} (k : Ok K R μ H) (h : H p = none) (hm : MOk K (hid R (updM μ p m) (upd H p o)) (upd H p o) (updM μ p m) p m) (hne : m ≠ .inner) : Ok K R (updM μ p m) (upd H p o) ∧ Same (hid R μ H) (hid R (updM μ p m) (upd H p o)) := by
  have ne : ∀ {b u}, H b = some u → b ≠ p := fun e z => by subst z; rw [h] at e; cases e
  have fm := k.freeM h
  have hs : Same (hid R μ H) (hid R (updM μ p m) (upd H p o)) := fun b u e => by
    obtain ⟨e1, e2, e3⟩ := hid_some e
    rw [hid_at e1 (by rw [updM_ne (ne e3)]; exact e2), upd_ne (ne e3)]
    exact e3
  refine ⟨⟨fun a u e => ?_, fun a u e => ?_, fun a u e => ?_, k.sub, k.sam.trans hs⟩, hs⟩
  · rw [upd_ne (ne (k.fr a u e))]
    exact k.fr a u e
  · rw [updM_ne (ne (k.fr a u e))]
    exact k.dj a u e
  · by_cases z : a = p
    · subst z
      rw [updM_same] at e
      cases e
      exact hm
    · rw [updM_ne z] at e
      refine (k.ob a u e).mono hs (upd_ne z) (fun b hb => ?_) e (fun b q => ?_)
      · rw [e] at hb
        cases u with
        | ext near φ =>
          obtain ⟨_, _, hn, _⟩ := k.ob a _ e
          obtain ⟨v, hv⟩ := (k.ob b _ (hn b hb)).here
          exact upd_ne (ne hv)
        | _ => cases hb
      · rw [updM_ne (fun w => by subst w; rw [fm] at q; cases q)]
        exact q
end
abbrev Rho := List (Option DV)
structure Sl (K : PySem.W.Frag) (H : Hp) (σ : St) (ρ : Rho) : Prop where
  len : σ.length = ρ.length
  at_ : ∀ (i : Nat) (d : DV), ρ[i]? = some (some d) → ∃ v, σ[i]? = some (some v) ∧ Is K H v d
section
variable {K : PySem.W.Frag} {H H' : Hp} {σ : St} {ρ : Rho}
theorem Sl.mono (s : Same H H') (h : Sl K H σ ρ) : Sl K H' σ ρ := ⟨h.len, fun i d e => let ⟨v, a, b⟩ := h.at_ i d e; ⟨v, a, b.mono s⟩⟩
theorem Sl.set {v : V} {d : DV} (h : Sl K H σ ρ) (i : Nat) (r : Is K H v d) : Sl K H (σ.set i (some v)) (ρ.set i (some d)) := by
  refine ⟨by rw [List.length_set, List.length_set, h.len], fun j e he => ?_⟩
  by_cases z : i = j
  · subst z
    by_cases hl : i < ρ.length
    · rw [List.getElem?_set_self hl] at he
      cases he
      exact ⟨v, by rw [List.getElem?_set_self (by rw [h.len]; exact hl)], r⟩
    · rw [List.getElem?_eq_none (by rw [List.length_set]; omega)] at he
      cases he
  · rw [List.getElem?_set_ne z] at he ⊢
    exact h.at_ j e he
theorem Sl.unset (h : Sl K H σ ρ) (i : Nat) : Sl K H (σ.set i none) (ρ.set i none) := by
  refine ⟨by rw [List.length_set, List.length_set, h.len], fun j e he => ?_⟩
  by_cases z : i = j
  · subst z
    by_cases hl : i < ρ.length
    · rw [List.getElem?_set_self hl] at he
      cases he
    · rw [List.getElem?_eq_none (by rw [List.length_set]; omega)] at he
      cases he
  · rw [List.getElem?_set_ne z] at he ⊢
    exact h.at_ j e he
/-- the slots of a block's own names forgotten -/
def wipeD (ρ : Rho) : List Nat → Rho
  | [] => ρ
  | v :: vs => (wipeD ρ vs).set v none
theorem Sl.wipe (h : Sl K H σ ρ) : ∀ vs : List Nat, Sl K H (L2.wipe σ vs) (wipeD ρ vs)
  | [] => h
  | v :: vs => (Sl.wipe h vs).unset v
theorem Sl.start {N : List Str} {vs : List V} {ds : List DV} (h : Iss K H vs ds) : Sl K H (L2.start N vs) (ds.map some ++ List.replicate (N.length - ds.length) none) := by
  have hl := h.length
  unfold L2.start
  refine ⟨by simp [hl], fun i d e => ?_⟩
  by_cases hi : i < ds.length
  · rw [List.getElem?_append_left (by simpa using hi), List.getElem?_map] at e
    cases q : ds[i]? with
    | none => rw [q] at e; cases e
    | some d' =>
      rw [q] at e
      cases e
      obtain ⟨v, h1, h2⟩ := h.get q
      refine ⟨v, ?_, h2⟩
      rw [List.getElem?_append_left (by simp; omega), List.getElem?_map, h1]
      rfl
  · rw [List.getElem?_append_right (by simpa using hi), List.getElem?_replicate] at e
    split at e <;> cases e
end
abbrev WE := Rho → Mh → (DV → Mh → Prop) → Prop
abbrev WT := Rho → Mh → (Bool → Mh → Prop) → Prop
abbrev WA := Rho → Mh → (List DV → Mh → Prop) → Prop
structure DEnds where
  nx : Rho → Mh → Prop
  rt : DV → Mh → Prop
  bk : Rho → Mh → Prop := fun _ _ => False
  ct : Rho → Mh → Prop := fun _ _ => False
abbrev WS := DEnds → Rho → Mh → Prop
/-- a def over data -/
abbrev WF := List DV → Mh → (DV → Mh → Prop) → Prop
/-- a target -/
abbrev WG := DV → Rho → (Rho → Prop) → Prop
structure At (K : PySem.W.Frag) (R : Hp) (σ : St) (ρ : Rho) (μ : Mh) (H : Hp) : Prop where
  ok : Ok K R μ H
  sl : Sl K (hid R μ H) σ ρ
def Nxt (K : PySem.W.Frag) (R : Hp) (μ : Mh) (H : Hp) (P : DV → Mh → Prop) (Q : VK) : Prop :=
  ∀ d μ' v H', P d μ' → Ok K R μ' H' → Same (hid R μ H) (hid R μ' H') → Is K (hid R μ' H') v d → Q v H'
def NxtT (K : PySem.W.Frag) (R : Hp) (μ : Mh) (H : Hp) (P : Bool → Mh → Prop) (Q : Bool → Hp → Prop) : Prop :=
  ∀ b μ' H', P b μ' → Ok K R μ' H' → Same (hid R μ H) (hid R μ' H') → Q b H'
def NxtA (K : PySem.W.Frag) (R : Hp) (μ : Mh) (H : Hp) (P : List DV → Mh → Prop) (Q : List V → Hp → Prop) : Prop :=
  ∀ ds μ' vs H', P ds μ' → Ok K R μ' H' → Same (hid R μ H) (hid R μ' H') → Iss K (hid R μ' H') vs ds → Q vs H'
def NxtS (K : PySem.W.Frag) (R : Hp) (μ : Mh) (H : Hp) (P : Rho → Mh → Prop) (Q : St → Hp → Prop) : Prop :=
  ∀ ρ' μ' σ' H', P ρ' μ' → At K R σ' ρ' μ' H' → Same (hid R μ H) (hid R μ' H') → Q σ' H'
section
variable {K : PySem.W.Frag} {R : Hp} {μ μ' : Mh} {H H' : Hp} {σ : St} {ρ : Rho}
theorem At.step (a : At K R σ ρ μ H) (k : Ok K R μ' H') (s : Same (hid R μ H) (hid R μ' H')) : At K R σ ρ μ' H' := ⟨k, a.sl.mono s⟩
theorem Nxt.step {P : DV → Mh → Prop} {Q : VK} (k : Nxt K R μ H P Q) (s : Same (hid R μ H) (hid R μ' H')) : Nxt K R μ' H' P Q := fun d m v h p o s' i => k d m v h p o (s.trans s') i
theorem NxtT.step {P : Bool → Mh → Prop} {Q : Bool → Hp → Prop} (k : NxtT K R μ H P Q) (s : Same (hid R μ H) (hid R μ' H')) : NxtT K R μ' H' P Q := fun d m h p o s' => k d m h p o (s.trans s')
theorem NxtA.step {P : List DV → Mh → Prop} {Q : List V → Hp → Prop} (k : NxtA K R μ H P Q) (s : Same (hid R μ H) (hid R μ' H')) : NxtA K R μ' H' P Q := fun d m v h p o s' i => k d m v h p o (s.trans s') i
theorem NxtS.step {P : Rho → Mh → Prop} {Q : St → Hp → Prop} (k : NxtS K R μ H P Q) (s : Same (hid R μ H) (hid R μ' H')) : NxtS K R μ' H' P Q := fun d m v h p o s' => k d m v h p o (s.trans s')
end
def tD (K : PySem.W.Frag) (w : WE) : TE := fun σ H Q => ∃ R ρ μ P, At K R σ ρ μ H ∧ w ρ μ P ∧ Nxt K R μ H P Q
def tDT (K : PySem.W.Frag) (w : WT) : TT := fun σ H Q => ∃ R ρ μ P, At K R σ ρ μ H ∧ w ρ μ P ∧ NxtT K R μ H P Q
def tDA (K : PySem.W.Frag) (w : WA) : TA := fun σ H Q => ∃ R ρ μ P, At K R σ ρ μ H ∧ w ρ μ P ∧ NxtA K R μ H P Q
structure NxtD (K : PySem.W.Frag) (R : Hp) (μ : Mh) (H : Hp) (E : DEnds) (D : Ends) : Prop where
  nx : NxtS K R μ H E.nx D.nx
  rt : Nxt K R μ H E.rt D.rt
  bk : NxtS K R μ H E.bk D.bk
  ct : NxtS K R μ H E.ct D.ct
theorem NxtD.step {K : PySem.W.Frag} {R : Hp} {μ μ' : Mh} {H H' : Hp} {E : DEnds} {D : Ends} (k : NxtD K R μ H E D) (s : Same (hid R μ H) (hid R μ' H')) : NxtD K R μ' H' E D := ⟨k.nx.step s, k.rt.step s, k.bk.step s, k.ct.step s⟩
def tDS (K : PySem.W.Frag) (w : WS) : TS := fun D σ H => ∃ R ρ μ E, At K R σ ρ μ H ∧ w E ρ μ ∧ NxtD K R μ H E D
/-- the promise of a def over data, n its parameters -/
def spD (K : PySem.W.Frag) (n : Nat) (w : WF) : Sp := fun vs H Q _ => ∃ R ds μ P, OkG Gd.non K R μ H ∧ Iss K (hid R μ H) vs ds ∧ ds.length = n ∧ w ds μ P ∧ @Nxt Gd.non K R μ H P Q
section
variable {K : PySem.W.Frag} {R : Hp} {μ μ' : Mh} {H H' : Hp}
/-- seen by one who catches nothing -/
theorem Ok.non (k : Ok K R μ H) : OkG Gd.non K R μ H := ⟨k.fr, k.dj, k.ob, fun _ _ z => (by cases z), fun _ _ z => (by cases z)⟩
theorem Ok.back (k : Ok K R μ H) (k' : OkG Gd.non K R μ' H') (s : Same (hid R μ H) (hid R μ' H')) : Ok K R μ' H' := ⟨k'.fr, k'.dj, k'.ob, k.sub, k.sam.trans s⟩
theorem Nxt.non {P : DV → Mh → Prop} {Q : VK} (k : Nxt K R μ H P Q) (o : Ok K R μ H) : @Nxt Gd.non K R μ H P Q := fun d m v h p o' s i => k d m v h p (o.back o' s) s i
/-- the frames and what is seen now -/
@[reducible] def gd (R : Hp) (μ : Mh) (H : Hp) : Gd := ⟨R, hid R μ H⟩
theorem Ok.now (k : OkG Gd.non K R μ H) : OkG (gd R μ H) K R μ H := ⟨k.fr, k.dj, k.ob, fun _ _ z => z, Same.refl _⟩
end
section
variable {X : Cx}
theorem PE.imp {e : Expr} {t t' : TE} (h : PE X e t) (i : ∀ σ H Q, t' σ H Q → t σ H Q) : PE X e t' := ⟨fun pins s σ H Q I w => h.run pins s σ H Q I (i _ _ _ w)⟩
theorem PT.imp {e : Expr} {t t' : TT} (h : PT X e t) (i : ∀ σ H Q, t' σ H Q → t σ H Q) : PT X e t' := ⟨fun pins s σ H Q I w => h.run pins s σ H Q I (i _ _ _ w)⟩
theorem PW.imp {e : Expr} {t t' : TT} (h : PW X e t) (i : ∀ σ H Q, t' σ H Q → t σ H Q) : PW X e t' := ⟨fun wh pins s σ H Q I w => h.run wh pins s σ H Q I (i _ _ _ w)⟩
theorem PA.imp {es : List Expr} {t t' : TA} (h : PA X es t) (i : ∀ σ H Q, t' σ H Q → t σ H Q) : PA X es t' := ⟨fun pos pins s σ H Q I w => h.run pos pins s σ H Q I (i _ _ _ w)⟩
theorem PK.imp {es : List Keyword} {t t' : TA} (h : PK X es t) (i : ∀ σ H Q, t' σ H Q → t σ H Q) : PK X es t' := ⟨fun pos pins s σ H Q I w => h.run pos pins s σ H Q I (i _ _ _ w)⟩
theorem PS.imp {st : Stmt} {t t' : TS} (h : PS X st t) (i : ∀ D σ H, t' D σ H → t D σ H) : PS X st t' := ⟨fun pins s σ H D I w => h.run pins s σ H D I (i _ _ _ w)⟩
theorem PSs.imp {st : List Stmt} {t t' : TS} (h : PSs X st t) (i : ∀ D σ H, t' D σ H → t D σ H) : PSs X st t' := ⟨fun pins s σ H D I w => h.run pins s σ H D I (i _ _ _ w)⟩
end
end Dz
set_option Elab.async false
set_option linter.all false
set_option maxRecDepth 100000
set_option maxHeartbeats 4000000
namespace Dz
open PySem L2
variable [γ : Gd]
section
variable {K : PySem.W.Frag} {R : Hp} {μ μ' : Mh} {H H' : Hp} {σ : St} {ρ : Rho} {P : DV → Mh → Prop} {Q : VK} {d : DV} {v : V} {p : Addr}
theorem Nxt.val (k : Nxt K R μ H P Q) (o : Ok K R μ H) (h : P d μ) (i : Is K (hid R μ H) v d) : Q v H := k d μ v H h o (Same.refl _) i
theorem hid_new {o : HO} (k : Ok K R μ H) (h : H p = none) : hid R μ (upd H p o) p = some o := by rw [k.hidNew h, upd_same]
theorem isLst {xs : List V} {ds : List DV} (k : Ok K R μ H) (h : H p = none) (r : Iss K (hid R μ H) xs ds) : Is K (hid R μ (upd H p (.lst xs))) (.ref p) (.lst ds) :=
  .lst (hid_new k h) (r.mono (k.sameNew h))
theorem isTup {xs : List V} {ds : List DV} {t : Obj} (n : NewT t) (k : Ok K R μ H) (h : H p = none) (r : Iss K (hid R μ H) xs ds) : Is K (hid R μ (upd H p (.frz t (.tup xs)))) (.ref p) (.tup ds) :=
  .tup (.inl ⟨t, hid_new k h, n⟩) (r.mono (k.sameNew h))
theorem Nxt.lst {xs : List V} {ds : List DV} (k : Nxt K R μ H P Q) (o : Ok K R μ H) (h : P (.lst ds) μ) (r : Iss K (hid R μ H) xs ds) (n : H p = none) : Q (.ref p) (upd H p (.lst xs)) :=
  k _ μ _ _ h (o.new n) (o.sameNew n) (isLst o n r)
theorem Nxt.tup {xs : List V} {ds : List DV} {t : Obj} (k : Nxt K R μ H P Q) (nt : NewT t) (o : Ok K R μ H) (h : P (.tup ds) μ) (r : Iss K (hid R μ H) xs ds) (n : H p = none) : Q (.ref p) (upd H p (.frz t (.tup xs))) :=
  k _ μ _ _ h (o.new n) (o.sameNew n) (isTup nt o n r)
end
def wVar (i : Nat) : WE := fun ρ μ P => match ρ[i]? with | some (some d) => P d μ | _ => False
def wC (d : DV) : WE := fun _ μ P => P d μ
section
variable {X : Cx} {e a b : Expr} {pos : Pos} {w wa wb wc : WE}
theorem d_of_var {i : Nat} (h : PE X e (tVar i)) : PE X e (tD X.K (wVar i)) := PE.imp h fun σ H Q ⟨R, ρ, μ, P, a, w, k⟩ => by
  unfold wVar at w
  split at w
  · rename_i d e
    obtain ⟨v, h1, h2⟩ := a.sl.at_ i d e
    exact ⟨v, h1, k.val a.ok w h2⟩
  · exact w.elim
theorem d_of_c {v : V} {d : DV} (h : PE X e (tC v)) (i : ∀ H, Is X.K H v d) : PE X e (tD X.K (wC d)) := PE.imp h fun σ H Q ⟨R, ρ, μ, P, a, w, k⟩ => k.val a.ok w (i _)
theorem d_var (i : Nat) {x : Str} (hN : X.N[i]? = some x := by rfl) (hv : Vis X.env.scope x := by first | exact Or.inl rfl | exact Or.inr (Or.inl rfl) | exact Or.inr (Or.inr rfl)) (hd : (x == ("__debug__" : Str)) = false := by decide)
    (hcd : (x == ("__classdict__" : Str)) = false := by decide) : PE X (.Name x pos) (tD X.K (wVar i)) := d_of_var (pv i hN hv hd hcd)
theorem d_int {i : Int} {j} : PE X (.Constant (.int i) j pos) (tD X.K (wC (.int i))) := d_of_c pe_int fun _ => .int i
theorem d_bl {b : Bool} {j} : PE X (.Constant (.bool b) j pos) (tD X.K (wC (.bool b))) := d_of_c pe_bl fun _ => .bool b
theorem d_non {j} : PE X (.Constant .none j pos) (tD X.K (wC .none)) := d_of_c pe_non fun _ => .none
theorem d_str {x : Str} {j} : PE X (.Constant (.str x) j pos) (tD X.K (wC (.str x))) := d_of_c pe_str fun _ => .str x
abbrev W2 := DV → DV → Mh → (DV → Mh → Prop) → Prop
abbrev W1 := DV → Mh → (DV → Mh → Prop) → Prop
def R2D (K : PySem.W.Frag) (r : R2) (w : W2) : Prop := ∀ R μ H x y dx dy P Q, Ok K R μ H → Is K (hid R μ H) x dx → Is K (hid R μ H) y dy → w dx dy μ P → Nxt K R μ H P Q → r x y H Q
def R1D (K : PySem.W.Frag) (r : V → Hp → VK → Prop) (w : W1) : Prop := ∀ R μ H x dx P Q, Ok K R μ H → Is K (hid R μ H) x dx → w dx μ P → Nxt K R μ H P Q → r x H Q
def wBin (w2 : W2) (wa wb : WE) : WE := fun ρ μ P => wa ρ μ fun x μ1 => wb ρ μ1 fun y μ2 => w2 x y μ2 P
def wUn (w1 : W1) (wa : WE) : WE := fun ρ μ P => wa ρ μ fun x μ1 => w1 x μ1 P
theorem bin_imp {K : PySem.W.Frag} {r : R2} {w2 : W2} (hr : R2D K r w2) : ∀ σ H Q, tD K (wBin w2 wa wb) σ H Q → tOp r (tD K wa) (tD K wb) σ H Q := fun σ H Q ⟨R, ρ, μ, P, a, w, k⟩ =>
  ⟨R, ρ, μ, _, a, w, fun x μ1 v H1 p1 o1 s1 i1 => ⟨R, ρ, μ1, _, a.step o1 s1, p1, fun y μ2 u H2 p2 o2 s2 i2 => hr R μ2 H2 v u x y P Q o2 (i1.mono s2) i2 p2 (k.step (s1.trans s2))⟩⟩
theorem d_op {op : Operator} {r : R2} {w2 : W2} (ho : OpR X (binaryOp op) r) (hr : R2D X.K r w2) (ha : PE X a (tD X.K wa)) (hb : PE X b (tD X.K wb)) : PE X (.BinOp a op b pos) (tD X.K (wBin w2 wa wb)) :=
  PE.imp (pe_op ho ha hb) (bin_imp hr)
theorem d_un {op : UnaryOp} {r : V → Hp → VK → Prop} {w1 : W1} (ho : UnR X (unaryOp op) r) (hr : R1D X.K r w1) (ha : PE X a (tD X.K wa)) : PE X (.UnaryOp op a pos) (tD X.K (wUn w1 wa)) :=
  PE.imp (pe_un ho ha) fun σ H Q ⟨R, ρ, μ, P, a, w, k⟩ => ⟨R, ρ, μ, _, a, w, fun x μ1 v H1 p1 o1 s1 i1 => hr R μ1 H1 v x P Q o1 i1 p1 (k.step s1)⟩
theorem d_cmp {op : CmpOp} {r : R2} {w2 : W2} (ho : OpR X (compareOp op) r) (hr : R2D X.K r w2) (ha : PE X a (tD X.K wa)) (hb : PE X b (tD X.K wb)) (hm : behindInMarks op b = false) : PE X (.Compare a [op] [b] pos) (tD X.K (wBin w2 wa wb)) :=
  PE.imp (pe_cmpR ho ha hb hm) (bin_imp hr)
/-- a reading of a True or False as a test -/
def wTest (w : WE) : WT := fun ρ μ P => w ρ μ fun d μ1 => match d with | .bool b => P b μ1 | _ => False
theorem test_imp {K : PySem.W.Frag} {t : TE} {w : WE} (h : ∀ σ H Q, tD K w σ H Q → t σ H Q) : ∀ σ H Q, tDT K (wTest w) σ H Q → tTest t σ H Q := fun σ H Q ⟨R, ρ, μ, P, a, w, k⟩ =>
  h σ H _ ⟨R, ρ, μ, _, a, w, fun x μ1 v H1 p1 o1 s1 i1 => by
    cases i1 with
    | bool b => exact ⟨b, rfl, k b μ1 H1 p1 o1 s1⟩
    | _ => exact (show False from p1).elim⟩
theorem dt_cmp {op : CmpOp} {r : R2} {w2 : W2} (ho : OpR X (compareOp op) r) (hr : R2D X.K r w2) (ha : PE X a (tD X.K wa)) (hb : PE X b (tD X.K wb)) (hm : behindInMarks op b = false) : PT X (.Compare a [op] [b] pos) (tDT X.K (wTest (wBin w2 wa wb))) :=
  PT.imp (pt_cmpR ho ha hb hm) (test_imp (bin_imp hr))
theorem dt_val (h : PE X e (tD X.K w)) (he : ∀ whole, isTrue e X.env whole = (do let v ← whole; standAt e.pos; holding [v] (truthy v)) := by intro _; rfl) : PT X e (tDT X.K (wTest w)) :=
  PT.imp (pt_val h he) fun σ H Q ⟨R, ρ, μ, P, a, w, k⟩ => ⟨R, ρ, μ, _, a, w, fun x μ1 v H1 p1 o1 s1 i1 => by
    cases i1 with
    | bool b => exact ⟨b, rfl, k b μ1 H1 p1 o1 s1⟩
    | _ => exact (show False from p1).elim⟩
theorem Iss.isEmpty {K : PySem.W.Frag} {H : Hp} {vs : List V} {ds : List DV} (r : Iss K H vs ds) : vs.isEmpty = ds.isEmpty := by cases r <;> rfl
def wNotT (w : WT) : WT := fun ρ μ P => w ρ μ fun b μ1 => P (!b) μ1
def wAndT (wa wb : WT) : WT := fun ρ μ P => wa ρ μ fun b μ1 => match b with | true => wb ρ μ1 P | false => P false μ1
def wOrT (wa wb : WT) : WT := fun ρ μ P => wa ρ μ fun b μ1 => match b with | true => P true μ1 | false => wb ρ μ1 P
variable {ta tb : WT}
theorem dt_not (h : PT X a (tDT X.K ta)) : PT X (.UnaryOp .Not a pos) (tDT X.K (wNotT ta)) :=
  PT.imp (pt_not h) fun σ H Q ⟨R, ρ, μ, P, a, w, k⟩ => ⟨R, ρ, μ, _, a, w, fun b μ1 H1 p1 o1 s1 => k _ μ1 H1 p1 o1 s1⟩
theorem dw_and1 (h : PT X a (tDT X.K ta)) : PW X (.BoolOp .And [a] pos) (tDT X.K ta) := pw_and1 h
theorem dw_or1 (h : PT X a (tDT X.K ta)) : PW X (.BoolOp .Or [a] pos) (tDT X.K ta) := pw_or1 h
theorem dw_and {rest : List Expr} (h : PT X a (tDT X.K ta)) (h2 : PW X (.BoolOp .And (b :: rest) pos) (tDT X.K tb)) : PW X (.BoolOp .And (a :: b :: rest) pos) (tDT X.K (wAndT ta tb)) :=
  PW.imp (pw_and h h2) fun σ H Q ⟨R, ρ, μ, P, a, w, k⟩ => ⟨R, ρ, μ, _, a, w, fun c μ1 H1 p1 o1 s1 => by
    cases c with
    | true => exact iteT ⟨R, ρ, μ1, P, a.step o1 s1, p1, k.step s1⟩
    | false => exact iteF (k _ μ1 H1 p1 o1 s1)⟩
theorem dw_or {rest : List Expr} (h : PT X a (tDT X.K ta)) (h2 : PW X (.BoolOp .Or (b :: rest) pos) (tDT X.K tb)) : PW X (.BoolOp .Or (a :: b :: rest) pos) (tDT X.K (wOrT ta tb)) :=
  PW.imp (pw_or h h2) fun σ H Q ⟨R, ρ, μ, P, a, w, k⟩ => ⟨R, ρ, μ, _, a, w, fun c μ1 H1 p1 o1 s1 => by
    cases c with
    | true => exact iteT (k _ μ1 H1 p1 o1 s1)
    | false => exact iteF ⟨R, ρ, μ1, P, a.step o1 s1, p1, k.step s1⟩⟩
def wAndV (wa wb : WE) : WE := fun ρ μ P => wa ρ μ fun d μ1 => match d with | .bool true => wb ρ μ1 P | .bool false => P (.bool false) μ1 | _ => False
def wIf (t : WT) (wa wb : WE) : WE := fun ρ μ P => t ρ μ fun b μ1 => match b with | true => wa ρ μ1 P | false => wb ρ μ1 P
theorem d_one {op} (h : PE X a (tD X.K wa)) : PE X (.BoolOp op [a] pos) (tD X.K wa) := pe_one h
theorem d_and {rest : List Expr} (h : PE X a (tD X.K wa)) (h2 : PE X (.BoolOp .And (b :: rest) pos) (tD X.K wb)) : PE X (.BoolOp .And (a :: b :: rest) pos) (tD X.K (wAndV wa wb)) :=
  PE.imp (pe_and h h2) fun σ H Q ⟨R, ρ, μ, P, a, w, k⟩ => ⟨R, ρ, μ, _, a, w, fun x μ1 v H1 p1 o1 s1 i1 => by
    cases i1 with
    | bool c =>
      refine ⟨c, rfl, ?_⟩
      cases c with
      | true => exact iteT ⟨R, ρ, μ1, P, a.step o1 s1, p1, k.step s1⟩
      | false => exact iteF (k _ μ1 _ H1 p1 o1 s1 (.bool false))
    | _ => exact (show False from p1).elim⟩
theorem d_if {c : Expr} (hc : PT X c (tDT X.K ta)) (ha : PE X a (tD X.K wa)) (hb : PE X b (tD X.K wb)) : PE X (.IfExp c a b pos) (tD X.K (wIf ta wa wb)) :=
  PE.imp (pe_ifExp hc ha hb) fun σ H Q ⟨R, ρ, μ, P, a, w, k⟩ => ⟨R, ρ, μ, _, a, w, fun c μ1 H1 p1 o1 s1 => by
    cases c with
    | true => exact iteT ⟨R, ρ, μ1, P, a.step o1 s1, p1, k.step s1⟩
    | false => exact iteF ⟨R, ρ, μ1, P, a.step o1 s1, p1, k.step s1⟩⟩
def wNil : WA := fun _ μ P => P [] μ
def wCons (wa : WE) (wr : WA) : WA := fun ρ μ P => wa ρ μ fun x μ1 => wr ρ μ1 fun xs μ2 => P (x :: xs) μ2
variable {es : List Expr} {wr : WA}
theorem cons_imp {K : PySem.W.Frag} : ∀ σ H Q, tDA K (wCons wa wr) σ H Q → tCons (tD K wa) (tDA K wr) σ H Q := fun σ H Q ⟨R, ρ, μ, P, a, w, k⟩ =>
  ⟨R, ρ, μ, _, a, w, fun x μ1 v H1 p1 o1 s1 i1 => ⟨R, ρ, μ1, _, a.step o1 s1, p1, fun xs μ2 vs H2 p2 o2 s2 i2 => k _ μ2 _ H2 p2 o2 (s1.trans s2) (.cons (i1.mono s2) i2)⟩⟩
theorem nil_imp {K : PySem.W.Frag} : ∀ σ H Q, tDA K wNil σ H Q → tNil σ H Q := fun σ H Q ⟨R, ρ, μ, P, a, w, k⟩ => k [] μ [] H w a.ok (Same.refl _) .nil
theorem da_nil : PA X [] (tDA X.K wNil) := PA.imp pa_nil nil_imp
theorem da_cons (ha : PE X e (tD X.K wa)) (hr : PA X es (tDA X.K wr)) (hs : starEach (e :: es) X.env = (false, eval e X.env) :: starEach es X.env := by rfl) : PA X (e :: es) (tDA X.K (wCons wa wr)) :=
  PA.imp (pa_cons ha hr hs) cons_imp
theorem dk_nil : PK X [] (tDA X.K wNil) := PK.imp pk_nil nil_imp
theorem dk_cons {kws : List Keyword} {nm : Option Str} {kpos : Pos} (ha : PE X e (tD X.K wa)) (hr : PK X kws (tDA X.K wr)) : PK X (⟨nm, e, kpos⟩ :: kws) (tDA X.K (wCons wa wr)) := PK.imp (pk_cons ha hr) cons_imp
def wTup (wa : WA) : WE := fun ρ μ P => wa ρ μ fun ds μ1 => ds.length ≤ sizeLine ∧ P (.tup ds) μ1
def wLst (wa : WA) : WE := fun ρ μ P => wa ρ μ fun ds μ1 => ds.length ≤ sizeLine ∧ P (.lst ds) μ1
theorem d_tup {x1} (h : PA X es (tDA X.K wr)) : PE X (.Tuple es x1 pos) (tD X.K (wTup wr)) :=
  PE.imp (pe_tupN h) fun σ H Q ⟨R, ρ, μ, P, a, w, k⟩ => ⟨R, ρ, μ, _, a, w, fun ds μ1 vs H1 p1 o1 s1 i1 => ⟨by rw [i1.length]; exact p1.1, fun p t n nt => (k.step s1).tup nt o1 p1.2 i1 n⟩⟩
theorem d_lst (h : PA X es (tDA X.K wr)) : PE X (.List es pos) (tD X.K (wLst wr)) :=
  PE.imp (pe_lst h) fun σ H Q ⟨R, ρ, μ, P, a, w, k⟩ => ⟨R, ρ, μ, _, a, w, fun ds μ1 vs H1 p1 o1 s1 i1 => ⟨by rw [i1.length]; exact p1.1, fun p n => (k.step s1).lst o1 p1.2 i1 n⟩⟩
end
end Dz
set_option Elab.async false
set_option linter.all false
set_option maxRecDepth 100000
set_option maxHeartbeats 4000000
namespace Dz
open PySem L2
variable [γ : Gd]
def wAdd : W2
  | .int i, .int j, μ, P => P (.int (i + j)) μ
  | .str s, .str t, μ, P => s.length + t.length ≤ sizeLine ∧ P (.str (s ++ t)) μ
  | .lst xs, .lst ys, μ, P => xs.length + ys.length ≤ sizeLine ∧ P (.lst (xs ++ ys)) μ
  | .tup xs, .tup ys, μ, P => xs.length + ys.length ≤ sizeLine ∧ P (.tup (xs ++ ys)) μ
  | _, _, _, _ => False
def wSub : W2
  | .int i, .int j, μ, P => P (.int (i - j)) μ
  | _, _, _, _ => False
def strRep (x : Str) (n : Nat) : Str := ⟨(List.replicate n x.cps).foldl (· ++ ·) #[]⟩
def wMul : W2
  | .int i, .int j, μ, P => CMul i j ∧ P (.int (i * j)) μ
  | .lst xs, .int k, μ, P => 0 ≤ k ∧ k < 2 ^ 63 ∧ xs.length * k.toNat ≤ sizeLine ∧ P (.lst (List.replicate k.toNat xs).flatten) μ
  | .str x, .int k, μ, P => 2 ≤ k ∧ 0 < x.length ∧ x.length * k.toNat ≤ sizeLine ∧ P (.str (strRep x k.toNat)) μ
  | _, _, _, _ => False
def wDiv : W2
  | .int i, .int j, μ, P => CDivW i j ∧ P (.int (i / j)) μ
  | _, _, _, _ => False
def wMod : W2
  | .int i, .int j, μ, P => 0 < j ∧ P (.int (i % j)) μ
  | _, _, _, _ => False
def wPow : W2
  | .int i, .int j, μ, P => CPow i j ∧ P (.int (i ^ j.toNat)) μ
  | _, _, _, _ => False
def wNeg : W1
  | .int i, μ, P => P (.int (-i)) μ
  | _, _, _ => False
section
variable {K : PySem.W.Frag} {X : Cx}
def rAddD (K : PySem.W.Frag) : R2 := fun x y H Q => rI0 (fun i j => .int (i + j)) x y H Q ∨ (∃ i j, x = .str i ∧ y = .str j ∧ i.length + j.length ≤ sizeLine ∧ Q (.str (i ++ j)) H) ∨ rCat x y H Q ∨ rCatN K x y H Q
theorem op_addD : OpR X (binaryOp .Add) (rAddD X.K) := op_add.or (op_add_str.or (op_cat.or op_catN))
theorem add_rd : R2D K (rAddD K) wAdd := by
  intro R μ H x y dx dy P Q ok ix iy w k
  cases ix with
  | int i => cases iy with
    | int j => exact .inl ⟨i, j, rfl, rfl, k.val ok w (.int _)⟩
    | _ => exact (show False from w).elim
  | str s => cases iy with
    | str t => exact .inr (.inl ⟨s, t, rfl, rfl, w.1, k.val ok w.2 (.str _)⟩)
    | _ => exact (show False from w).elim
  | lst hx rx => cases iy with
    | lst hy ry => exact .inr (.inr (.inl ⟨_, _, _, _, rfl, rfl, hid_le _ _ hx, hid_le _ _ hy, by rw [rx.length, ry.length]; exact w.1, fun p n => k.lst ok w.2 (rx.append ry) n⟩))
    | _ => exact (show False from w).elim
  | @tup a xs ds hx rx => cases iy with
    | @tup b ys es hy ry =>
      refine .inr (.inr (.inr ⟨_, _, _, _, rfl, rfl, Same.seqT hid_le hx.t, Same.seqT hid_le hy.t, by rw [rx.length, ry.length]; exact w.1, fun z => ?_, fun _ z => ?_, fun _ _ p t n nt => k.tup nt ok w.2 (rx.append ry) n⟩))
      · subst z
        cases rx
        exact k.val ok w.2 (.tup hy ry)
      · subst z
        cases ry
        exact k.val ok (by have := w.2; rwa [List.append_nil] at this) (.tup hx rx)
    | _ => exact (show False from w).elim
  | _ => exact (show False from w).elim
theorem sub_rd : R2D K (rI0 fun i j => .int (i - j)) wSub := by
  intro R μ H x y dx dy P Q ok ix iy w k
  cases ix with
  | int i => cases iy with
    | int j => exact ⟨i, j, rfl, rfl, k.val ok w (.int _)⟩
    | _ => exact (show False from w).elim
  | _ => exact (show False from w).elim
theorem div_rd : R2D K (rI CDivW fun i j => .int (i / j)) wDiv := by
  intro R μ H x y dx dy P Q ok ix iy w k
  cases ix with
  | int i => cases iy with
    | int j => exact ⟨i, j, rfl, rfl, w.1, k.val ok w.2 (.int _)⟩
    | _ => exact (show False from w).elim
  | _ => exact (show False from w).elim
theorem mod_rd : R2D K (rI (fun _ j => 0 < j) fun i j => .int (i % j)) wMod := by
  intro R μ H x y dx dy P Q ok ix iy w k
  cases ix with
  | int i => cases iy with
    | int j => exact ⟨i, j, rfl, rfl, w.1, k.val ok w.2 (.int _)⟩
    | _ => exact (show False from w).elim
  | _ => exact (show False from w).elim
theorem pow_rd : R2D K (rI CPow fun i j => .int (i ^ j.toNat)) wPow := by
  intro R μ H x y dx dy P Q ok ix iy w k
  cases ix with
  | int i => cases iy with
    | int j => exact ⟨i, j, rfl, rfl, w.1, k.val ok w.2 (.int _)⟩
    | _ => exact (show False from w).elim
  | _ => exact (show False from w).elim
theorem neg_rd : R1D K (rU fun i => .int (-i)) wNeg := by
  intro R μ H x dx P Q ok ix w k
  cases ix with
  | int i => exact ⟨i, rfl, k.val ok w (.int _)⟩
  | _ => exact (show False from w).elim
def rRepS : R2 := fun x y H Q => ∃ (z : Str) (k : Int), x = .str z ∧ y = .int k ∧ 2 ≤ k ∧ 0 < z.length ∧ z.length * k.toNat ≤ sizeLine ∧ Q (.str (strRep z k.toNat)) H
theorem op_repS : OpR X (binaryOp .Mult) rRepS := by
  intro pins s σ H x y v u Q I rx ry h
  obtain ⟨z, k, rfl, rfl, h2, h0, hz, q⟩ := h
  obtain ⟨t, rfl⟩ := rx
  obtain ⟨t', rfl⟩ := ry
  have hs : sizeLine = 16777216 := sizeLine_eq
  have hk : k.toNat ≤ z.length * k.toNat := Nat.le_mul_of_pos_left _ h0
  have hzl : z.length ≤ z.length * k.toNat := Nat.le_mul_of_pos_right _ (by omega)
  refine PySem.P.mul_str (by rw [decide_eq_false (by omega), decide_eq_false (by omega)]; rfl) (fun _ _ => ?_) (fun _ _ => ?_) ?_
  · have h3 : (1 : Int) ≤ k := by omega
    have h4 : (z.length : Int) * k ≤ 16777216 := by
      have : ((z.length * k.toNat : Nat) : Int) ≤ ((16777216 : Nat) : Int) := Int.ofNat_le.mpr (by rw [← hs]; exact hz)
      rw [Int.natCast_mul] at this
      rw [Int.toNat_of_nonneg (by omega)] at this
      exact this
    have h5 : (z.length : Int) ≤ (2 ^ 63 - 1) / k := by
      rw [Int.le_ediv_iff_mul_le (by omega)]
      omega
    omega
  · unfold Builtin.Str.tooLong
    simp only [decide_eq_false_iff_not]
    omega
  · rw [if_neg (by omega)]
    have e : (k == 1 || z.length == 0) = false := by
      rw [Bool.or_eq_false_iff]
      exact ⟨beq_eq_false_iff_ne.mpr (by omega), beq_eq_false_iff_ne.mpr (by omega)⟩
    rw [e]
    refine ⟨?_, ⟨.str (strRep z k.toNat), H, I.tok _, ⟨_, rfl⟩, q⟩⟩
    have el : (⟨(List.replicate k.toNat z.cps).foldl (· ++ ·) #[]⟩ : Str).length = z.length * k.toNat := by
      unfold Str.length
      have : ∀ (n : Nat) (acc : Array Nat), ((List.replicate n z.cps).foldl (· ++ ·) acc).size = acc.size + z.cps.size * n := by
        intro n
        induction n with
        | zero => intro acc; simp
        | succ n ih => intro acc; rw [List.replicate_succ, List.foldl_cons, ih, Array.size_append, Nat.mul_succ]; omega
      rw [this]
      simp
    rw [el]
    exact hz
def rMulD : R2 := fun x y H Q => rI CMul (fun i j => .int (i * j)) x y H Q ∨ rRep x y H Q ∨ rRepS x y H Q
theorem op_mulD : OpR X (binaryOp .Mult) rMulD := op_mul.or (op_rep.or op_repS)
theorem mul_rd : R2D K rMulD wMul := by
  intro R μ H x y dx dy P Q ok ix iy w k
  cases ix with
  | int i => cases iy with
    | int j => exact .inl ⟨i, j, rfl, rfl, w.1, k.val ok w.2 (.int _)⟩
    | _ => exact (show False from w).elim
  | str s => cases iy with
    | int j => exact .inr (.inr ⟨s, j, rfl, rfl, w.1, w.2.1, w.2.2.1, k.val ok w.2.2.2 (.str _)⟩)
    | _ => exact (show False from w).elim
  | lst hx rx => cases iy with
    | int j => exact .inr (.inl ⟨_, j, _, rfl, rfl, hid_le _ _ hx, by have := w.1; omega, w.2.1, by rw [rx.length]; exact w.2.2.1, fun p n => k.lst ok w.2.2.2 (rx.replicate _) n⟩)
    | _ => exact (show False from w).elim
  | _ => exact (show False from w).elim
variable {a b : Expr} {wa wb : WE} {pos : Pos}
theorem d_add (ha : PE X a (tD X.K wa)) (hb : PE X b (tD X.K wb)) : PE X (.BinOp a .Add b pos) (tD X.K (wBin wAdd wa wb)) := d_op op_addD add_rd ha hb
theorem d_sub (ha : PE X a (tD X.K wa)) (hb : PE X b (tD X.K wb)) : PE X (.BinOp a .Sub b pos) (tD X.K (wBin wSub wa wb)) := d_op op_sub sub_rd ha hb
theorem d_mul (ha : PE X a (tD X.K wa)) (hb : PE X b (tD X.K wb)) : PE X (.BinOp a .Mult b pos) (tD X.K (wBin wMul wa wb)) := d_op op_mulD mul_rd ha hb
theorem d_div (ha : PE X a (tD X.K wa)) (hb : PE X b (tD X.K wb)) : PE X (.BinOp a .FloorDiv b pos) (tD X.K (wBin wDiv wa wb)) := d_op op_fdivW div_rd ha hb
theorem d_mod (ha : PE X a (tD X.K wa)) (hb : PE X b (tD X.K wb)) : PE X (.BinOp a .Mod b pos) (tD X.K (wBin wMod wa wb)) := d_op op_mod mod_rd ha hb
theorem d_pow (ha : PE X a (tD X.K wa)) (hb : PE X b (tD X.K wb)) : PE X (.BinOp a .Pow b pos) (tD X.K (wBin wPow wa wb)) := d_op op_pow pow_rd ha hb
theorem d_neg (ha : PE X a (tD X.K wa)) : PE X (.UnaryOp .USub a pos) (tD X.K (wUn wNeg wa)) := d_un un_neg neg_rd ha
end
def ltS (s t : Str) : Bool := decide (s.cps.toList < t.cps.toList)
def wGt : W2
  | .int i, .int j, μ, P => P (.bool (decide (j < i))) μ
  | .str s, .str t, μ, P => P (.bool (ltS t s)) μ
  | _, _, _, _ => False
def wGe : W2
  | .int i, .int j, μ, P => P (.bool (decide (j ≤ i))) μ
  | .str s, .str t, μ, P => P (.bool (!ltS s t)) μ
  | _, _, _, _ => False
section
variable {K : PySem.W.Frag} {X : Cx}
def rOrd (f : Int → Int → Bool) (g : Str → Str → Bool) : R2 := fun x y H Q => rI0 (fun i j => .bl (f i j)) x y H Q ∨ ∃ i j, x = .str i ∧ y = .str j ∧ Q (.bl (g i j)) H
theorem op_ltD : OpR X (compareOp .Lt) (rOrd (fun i j => decide (i < j)) fun s t => decide (s.cps.toList < t.cps.toList)) := op_lt.or op_lt_str
theorem op_gtD : OpR X (compareOp .Gt) (rOrd (fun i j => decide (j < i)) fun s t => decide (t.cps.toList < s.cps.toList)) := op_gt.or op_gt_str
theorem op_geD : OpR X (compareOp .GtE) (rOrd (fun i j => decide (j ≤ i)) fun s t => !decide (s.cps.toList < t.cps.toList)) := op_ge.or op_ge_str
theorem ord_rd {f : Int → Int → Bool} {g : Str → Str → Bool} {w2 : W2} (h1 : ∀ i j μ P, w2 (.int i) (.int j) μ P → P (.bool (f i j)) μ) (h2 : ∀ i j μ P, w2 (.str i) (.str j) μ P → P (.bool (g i j)) μ)
    (h3 : ∀ x y μ P, (∀ i j, ¬ (x = .int i ∧ y = .int j)) → (∀ i j, ¬ (x = .str i ∧ y = .str j)) → w2 x y μ P → False) : R2D K (rOrd f g) w2 := by
  intro R μ H x y dx dy P Q ok ix iy w k
  cases ix with
  | int i => cases iy with
    | int j => exact .inl ⟨i, j, rfl, rfl, k.val ok (h1 _ _ _ _ w) (.bool _)⟩
    | _ => exact (h3 _ _ _ _ (fun i j h => by cases h.2) (fun i j h => by cases h.1) w).elim
  | str s => cases iy with
    | str t => exact .inr ⟨s, t, rfl, rfl, k.val ok (h2 _ _ _ _ w) (.bool _)⟩
    | _ => exact (h3 _ _ _ _ (fun i j h => by cases h.1) (fun i j h => by cases h.2) w).elim
  | _ => exact (h3 _ _ _ _ (fun i j h => by cases h.1) (fun i j h => by cases h.1) w).elim
theorem gt_rd : R2D K (rOrd (fun i j => decide (j < i)) fun s t => decide (t.cps.toList < s.cps.toList)) wGt := ord_rd (fun _ _ _ _ h => h) (fun _ _ _ _ h => h) fun x y μ P h1 h2 w => by
  unfold wGt at w; split at w
  · exact h1 _ _ ⟨rfl, rfl⟩
  · exact h2 _ _ ⟨rfl, rfl⟩
  · exact w
theorem ge_rd : R2D K (rOrd (fun i j => decide (j ≤ i)) fun s t => !decide (s.cps.toList < t.cps.toList)) wGe := ord_rd (fun _ _ _ _ h => h) (fun _ _ _ _ h => h) fun x y μ P h1 h2 w => by
  unfold wGe at w; split at w
  · exact h1 _ _ ⟨rfl, rfl⟩
  · exact h2 _ _ ⟨rfl, rfl⟩
  · exact w
end
def keyPy : Key → PyData
  | .inl i => .int i
  | .inr x => .str x
mutual
def toPy : DV → PyData
  | .none => .none
  | .bool b => .bool b
  | .int i => .int i
  | .str x => .str x
  | .tup ds => .tuple (toPys ds)
  | .lst ds => .list (toPys ds)
  | .dct kvs => .dict (toPyKv kvs)
  | .obj _ => .none
  | .fix _ => .none
  | .dn _ _ _ => .none
def toPys : List DV → List PyData
  | [] => []
  | d :: ds => toPy d :: toPys ds
def toPyKv : List (Key × DV) → List (PyData × PyData)
  | [] => []
  | (k, d) :: r => (keyPy k, toPy d) :: toPyKv r
end
mutual
/-- without objects -/
def noObj : DV → Bool
  | .tup ds => noObjs ds
  | .lst ds => noObjs ds
  | .dct kvs => noObjKv kvs
  | .obj _ => false
  | .fix _ => false
  | .dn _ _ _ => false
  | _ => true
def noObjs : List DV → Bool
  | [] => true
  | d :: ds => noObj d && noObjs ds
def noObjKv : List (Key × DV) → Bool
  | [] => true
  | (_, d) :: r => noObj d && noObjKv r
end
mutual
theorem Is.dp {K : PySem.W.Frag} {H : Hp} : ∀ {v : V} {d : DV}, Is K H v d → noObj d = true → (toPy d).canLay0 = true → Dp K H v (toPy d)
  | _, _, .none, _, _ => .non
  | _, _, .bool b, _, _ => .bl b
  | _, _, .int i, _, _ => .int i
  | _, _, .str x, _, _ => .str x
  | _, _, .tup h r, n, c => .tup h.t (Iss.dp r n c)
  | _, _, .lst h r, n, c => .lst (SqL.of h) (Iss.dp r n c)
  | _, _, .dct _ _ _, _, c => absurd (show false = true from c) Bool.false_ne_true
  | _, _, .obj _, n, _ => absurd (show false = true from n) Bool.false_ne_true
  | _, _, .fix _ _, n, _ => absurd (show false = true from n) Bool.false_ne_true
  | _, _, .dn _ _ _ _ _ _, n, _ => absurd (show false = true from n) Bool.false_ne_true
theorem Iss.dp {K : PySem.W.Frag} {H : Hp} : ∀ {vs : List V} {ds : List DV}, Iss K H vs ds → noObjs ds = true → PyData.canLayAll0 (toPys ds) = true → DpAll K H vs (toPys ds)
  | _, _, .nil, _, _ => .nil
  | _, _, .cons h r, n, c => by
    have n' := (Bool.and_eq_true_iff.mp n)
    have c' := (Bool.and_eq_true_iff.mp c)
    exact .cons (Is.dp h n'.1 c'.1) (Iss.dp r n'.2 c'.2)
end
/-- data that == and in may compare at any depth -/
def shapedD (d : DV) : Bool := noObj d && SeqAt.shaped (toPy d)
theorem Is.dpS {K : PySem.W.Frag} {H : Hp} {v : V} {d : DV} (h : Is K H v d) (s : shapedD d = true) : Dp K H v (toPy d) ∧ SeqAt.shaped (toPy d) = true := by
  have s' := Bool.and_eq_true_iff.mp s
  exact ⟨h.dp s'.1 (SeqAt.canLay_of_shaped s'.2), s'.2⟩
def deepEq (x y : DV) : Bool := PyData.eqv (toPy x) (toPy y)
def wEq : W2
  | .none, .none, μ, P => P (.bool true) μ
  | .none, .int _, μ, P => P (.bool false) μ
  | .none, .str _, μ, P => P (.bool false) μ
  | .none, .bool _, μ, P => P (.bool false) μ
  | .int _, .none, μ, P => P (.bool false) μ
  | .str _, .none, μ, P => P (.bool false) μ
  | .bool _, .none, μ, P => P (.bool false) μ
  | .int i, .int j, μ, P => P (.bool (decide (i = j))) μ
  | .bool i, .bool j, μ, P => P (.bool (decide (i = j))) μ
  | .str i, .str j, μ, P => P (.bool (decide (i = j))) μ
  | .int _, .str _, μ, P => P (.bool false) μ
  | .str _, .int _, μ, P => P (.bool false) μ
  | .bool _, .str _, μ, P => P (.bool false) μ
  | .str _, .bool _, μ, P => P (.bool false) μ
  | .lst xs, .lst ys, μ, P => shapedD (.lst xs) = true ∧ shapedD (.lst ys) = true ∧ P (.bool (deepEq (.lst xs) (.lst ys))) μ
  | .tup xs, .tup ys, μ, P => shapedD (.tup xs) = true ∧ shapedD (.tup ys) = true ∧ P (.bool (deepEq (.tup xs) (.tup ys))) μ
  | _, _, _, _ => False
def notB (w2 : W2) : W2 := fun x y μ P => w2 x y μ fun d μ1 => match d with | .bool b => P (.bool (!b)) μ1 | _ => False
section
variable {K : PySem.W.Frag} {X : Cx}
def rEqA (K : PySem.W.Frag) : R2 := fun x y H Q => rEq x y H Q ∨ rEqD K x y H Q
def rNeA (K : PySem.W.Frag) : R2 := fun x y H Q => rNe x y H Q ∨ rNeD K x y H Q
theorem op_eqA (hu : X.A.units + 64 < cLine) : OpR X (compareOp .Eq) (rEqA X.K) := op_eq.or (op_eqD hu)
theorem op_neA (hu : X.A.units + 64 < cLine) : OpR X (compareOp .NotEq) (rNeA X.K) := op_ne.or (op_neD hu)
theorem Is.up {R : Hp} {μ : Mh} {H : Hp} {v : V} {d : DV} (h : Is K (hid R μ H) v d) : Is K H v d := h.mono hid_le
theorem eq_core {x y : V} {dx dy : DV} {μ : Mh} {H : Hp} {P : DV → Mh → Prop} (ix : Is K H x dx) (iy : Is K H y dy) (w : wEq dx dy μ P) :
    (∃ b, scal x y = true ∧ decide (x = y) = b ∧ P (.bool b) μ) ∨ (∃ d e, Dp K H x d ∧ Dp K H y e ∧ SeqAt.shaped d = true ∧ SeqAt.shaped e = true ∧ P (.bool (PyData.eqv d e)) μ) := by
  cases ix with
  | none => cases iy with
    | none => exact .inl ⟨_, rfl, rfl, w⟩
    | int j => exact .inl ⟨_, rfl, rfl, w⟩
    | bool j => exact .inl ⟨_, rfl, rfl, w⟩
    | str j => exact .inl ⟨_, rfl, rfl, w⟩
    | _ => exact (show False from w).elim
  | int i => cases iy with
    | none => exact .inl ⟨_, rfl, rfl, w⟩
    | int j => exact .inl ⟨_, rfl, dec_int, (by rw [Bool.beq_eq_decide_eq]; exact w)⟩
    | str j => exact .inl ⟨_, rfl, rfl, w⟩
    | _ => exact (show False from w).elim
  | bool i => cases iy with
    | none => exact .inl ⟨_, rfl, rfl, w⟩
    | bool j => exact .inl ⟨_, rfl, dec_bl, (by rw [Bool.beq_eq_decide_eq]; exact w)⟩
    | str j => exact .inl ⟨_, rfl, rfl, w⟩
    | _ => exact (show False from w).elim
  | str i => cases iy with
    | none => exact .inl ⟨_, rfl, rfl, w⟩
    | int j => exact .inl ⟨_, rfl, rfl, w⟩
    | bool j => exact .inl ⟨_, rfl, rfl, w⟩
    | str j => exact .inl ⟨_, rfl, dec_str, (by rw [Bool.beq_eq_decide_eq]; exact w)⟩
    | _ => exact (show False from w).elim
  | lst hx rx => cases iy with
    | lst hy ry =>
      obtain ⟨s1, s2, w⟩ := w
      obtain ⟨p1, q1⟩ := (Is.lst (K := K) hx rx).dpS s1
      obtain ⟨p2, q2⟩ := (Is.lst (K := K) hy ry).dpS s2
      exact .inr ⟨_, _, p1, p2, q1, q2, w⟩
    | _ => exact (show False from w).elim
  | tup hx rx => cases iy with
    | tup hy ry =>
      obtain ⟨s1, s2, w⟩ := w
      obtain ⟨p1, q1⟩ := (Is.tup (K := K) hx rx).dpS s1
      obtain ⟨p2, q2⟩ := (Is.tup (K := K) hy ry).dpS s2
      exact .inr ⟨_, _, p1, p2, q1, q2, w⟩
    | _ => exact (show False from w).elim
  | _ => exact (show False from w).elim
/-- an object as it stands -/
def lookO (a : Addr) : Option MO → DV
  | some (.lst ds) => .lst ds
  | some (.dct kvs) => .dct kvs
  | _ => .obj a
def look (μ : Mh) : DV → DV
  | .obj a => lookO a (μ a)
  | d => d
theorem Is.look {R : Hp} {μ : Mh} {H : Hp} {v : V} {d : DV} (o : Ok K R μ H) (i : Is K (hid R μ H) v d) : Is K H v (Dz.look μ d) := by
  cases i with
  | obj a =>
    show Is K H (.ref a) (lookO a (μ a))
    cases e : μ a with
    | none => exact .obj a
    | some m =>
      cases m with
      | lst ds =>
        obtain ⟨xs, h, r⟩ := o.ob a _ e
        exact .lst h (r.mono hid_le)
      | dct ds =>
        obtain ⟨xs, h, q, r⟩ := o.ob a _ e
        exact .dct h q (r.mono hid_le)
      | _ => exact .obj a
  | none => exact .none
  | bool b => exact .bool b
  | int i => exact .int i
  | str s => exact .str s
  | lst h r => exact (Is.lst h r).mono hid_le
  | tup h r => exact (Is.tup h r).mono hid_le
  | dct h q r => exact (Is.dct h q r).mono hid_le
  | fix h r => exact (Is.fix h r).mono hid_le
  | dn h n dp nd r r2 => exact (Is.dn h n dp nd r r2).mono hid_le
def wEqL : W2 := fun x y μ P => wEq (look μ x) (look μ y) μ P
def wNeL : W2 := notB wEqL
theorem eq_rd : R2D K (rEqA K) wEqL := by
  intro R μ H x y dx dy P Q ok ix iy w k
  rcases eq_core (ix.look ok) (iy.look ok) w with ⟨b, h1, h2, h3⟩ | ⟨d, e, p1, p2, q1, q2, h3⟩
  · exact .inl ⟨h1, by rw [h2]; exact k.val ok h3 (.bool b)⟩
  · exact .inr ⟨d, e, p1, p2, q1, q2, k.val ok h3 (.bool _)⟩
theorem ne_rd : R2D K (rNeA K) wNeL := by
  intro R μ H x y dx dy P Q ok ix iy w k
  rcases eq_core (ix.look ok) (iy.look ok) w with ⟨b, h1, h2, h3⟩ | ⟨d, e, p1, p2, q1, q2, h3⟩
  · exact .inl ⟨h1, by rw [h2]; exact k.val ok h3 (.bool _)⟩
  · exact .inr ⟨d, e, p1, p2, q1, q2, k.val ok h3 (.bool _)⟩
def isNone : DV → Bool
  | .none => true
  | _ => false
def flatD : DV → Bool
  | .none | .bool _ | .int _ | .str _ => true
  | _ => false
def eqF : DV → DV → Bool
  | .none, .none => true
  | .bool a, .bool b => a == b
  | .bool a, .int b => (if a then 1 else 0) == b
  | .int a, .bool b => a == (if b then 1 else 0)
  | .int a, .int b => a == b
  | .str a, .str b => a == b
  | _, _ => false
def inF (x : DV) (ds : List DV) : Bool := ds.any fun y => eqF y x
def inDeep (x : DV) (ds : List DV) : Bool := ds.any fun y => PyData.eqv (toPy y) (toPy x)
/-- x in a list or tuple: of flat things, or of data at any depth; a text in a text -/
def wIn : W2 := fun x y μ P => match y with
  | .lst ds => (flatD x = true ∧ ds.all flatD = true ∧ P (.bool (inF x ds)) μ) ∨ (shapedD x = true ∧ shapedD (.lst ds) = true ∧ P (.bool (inDeep x ds)) μ)
  | .tup ds => (flatD x = true ∧ ds.all flatD = true ∧ P (.bool (inF x ds)) μ) ∨ (shapedD x = true ∧ shapedD (.tup ds) = true ∧ P (.bool (inDeep x ds)) μ)
  | .str z => match x with
    | .str s => (∃ c, s = ⟨#[c]⟩ ∧ P (.bool (decide (c ∈ z.cps.toList))) μ) ∨ P (.bool (!(Builtin.Str.occurrences z s 0 z.length 1).isEmpty)) μ
    | _ => False
  | _ => False
theorem flat_of {H : Hp} {v : V} {d : DV} (h : Is K H v d) : flatV v = flatD d := by cases h <;> rfl
theorem flats_of {H : Hp} : ∀ {vs : List V} {ds : List DV}, Iss K H vs ds → vs.all flatV = ds.all flatD
  | _, _, .nil => rfl
  | _, _, .cons h r => by rw [List.all_cons, List.all_cons, flat_of h, flats_of r]
theorem eqV_of {H : Hp} {v u : V} {d e : DV} (h : Is K H v d) (h' : Is K H u e) (f : flatD d = true) (f' : flatD e = true) : eqV v u = eqF d e := by
  cases h <;> first | (cases h' <;> first | rfl | exact absurd (show false = true from f') Bool.false_ne_true) | exact absurd (show false = true from f) Bool.false_ne_true
theorem inV_of {H : Hp} {v : V} {d : DV} (h : Is K H v d) (f : flatD d = true) : ∀ {vs : List V} {ds : List DV}, Iss K H vs ds → ds.all flatD = true → inV v vs = inF d ds
  | _, _, .nil, _ => rfl
  | _, _, .cons (v := v1) (vs := vs1) (d := d1) (ds := ds1) h1 r, fs => by
    rw [List.all_cons, Bool.and_eq_true] at fs
    have e := inV_of h f r fs.2
    show (eqV v1 v || inV v vs1) = (eqF d1 d || inF d ds1)
    rw [e, eqV_of h1 h fs.1 f]
def rInTD (K : PySem.W.Frag) : R2 := fun x y H Q => ∃ d ds, Dp K H x d ∧ Dp K H y (.tuple ds) ∧ SeqAt.shaped d = true ∧ SeqAt.shaped (.tuple ds) = true ∧ Q (.bl (ds.any fun z => PyData.eqv z d)) H
theorem room_in_tup {A : Around} {d : PyData} {ds : List PyData} (h : SeqAt.shaped d = true) (hu : A.units + 65 < cLine) : A.units + 1 + min (PyData.depthAll ds) d.depth < cLine := by
  have h1 := SeqAt.depth_of_shaped h
  have h2 : min (PyData.depthAll ds) d.depth ≤ d.depth := Nat.min_le_right _ _
  omega
theorem op_inTD (hu : X.A.units + 65 < cLine) : OpR X (compareOp .In) (rInTD X.K) := by
  intro pins s σ H x y v u Q I rx ry h
  obtain ⟨d, ds, hd, he, sd, se, q⟩ := h
  obtain ⟨as, r1⟩ := Dp.reads I d x v hd rx
  obtain ⟨bs, r2⟩ := Dp.reads I (.tuple ds) y u he ry
  exact SeqAt.in_tuple_reads r2 r1 (SeqAt.canLay_of_shaped se) (SeqAt.canLay_of_shaped sd) (room_in_tup sd hu) ⟨.bl _, H, I, rfl, q⟩
def rInA (K : PySem.W.Frag) : R2 := fun x y H Q => rIn K false x y H Q ∨ rInD K x y H Q ∨ rInTD K x y H Q ∨ (∃ (c : Nat) (z : Str), x = .str ⟨#[c]⟩ ∧ y = .str z ∧ Q (.bl (decide (c ∈ z.cps.toList))) H) ∨
  (∃ i j, x = .str i ∧ y = .str j ∧ Q (.bl (!(Builtin.Str.occurrences j i 0 j.length 1).isEmpty)) H)
theorem op_inA (hu : X.A.units + 65 < cLine) : OpR X (compareOp .In) (rInA X.K) := op_in_seq.or ((op_inD hu).or ((op_inTD hu).or (op_in_sign.or op_in_str)))
theorem any_toPys (d : PyData) : ∀ ds : List DV, ((toPys ds).any fun z => PyData.eqv z d) = ds.any fun z => PyData.eqv (toPy z) d
  | [] => rfl
  | x :: ds => by rw [toPys, List.any_cons, List.any_cons, any_toPys d ds]
theorem in_rd : R2D K (rInA K) wIn := by
  intro R μ H x y dx dy P Q ok ix iy w k
  cases iy with
  | lst hy ry =>
    rcases w with ⟨f1, f2, w⟩ | ⟨s1, s2, w⟩
    · refine .inl ⟨_, _, rfl, .inl (SqL.of (hid_le _ _ hy)), by rw [flat_of ix]; exact f1, by rw [flats_of ry]; exact f2, ?_⟩
      rw [if_neg Bool.false_ne_true, inV_of ix f1 ry f2]
      exact k.val ok w (.bool _)
    · obtain ⟨p1, q1⟩ := ix.up.dpS s1
      obtain ⟨p2, q2⟩ := (Is.up (K := K) (.lst hy ry)).dpS s2
      exact .inr (.inl ⟨_, _, p1, p2, q1, q2, by rw [any_toPys]; exact k.val ok w (.bool _)⟩)
  | tup hy ry =>
    rcases w with ⟨f1, f2, w⟩ | ⟨s1, s2, w⟩
    · refine .inl ⟨_, _, rfl, .inr (Same.seqT hid_le hy.t), by rw [flat_of ix]; exact f1, by rw [flats_of ry]; exact f2, ?_⟩
      rw [if_neg Bool.false_ne_true, inV_of ix f1 ry f2]
      exact k.val ok w (.bool _)
    · obtain ⟨p1, q1⟩ := ix.up.dpS s1
      obtain ⟨p2, q2⟩ := (Is.up (K := K) (.tup hy ry)).dpS s2
      exact .inr (.inr (.inl ⟨_, _, p1, p2, q1, q2, by rw [any_toPys]; exact k.val ok w (.bool _)⟩))
  | str z => cases ix with
    | str s =>
      rcases w with ⟨c, rfl, w⟩ | w
      · exact .inr (.inr (.inr (.inl ⟨c, z, rfl, rfl, k.val ok w (.bool _)⟩)))
      · exact .inr (.inr (.inr (.inr ⟨s, z, rfl, rfl, k.val ok w (.bool _)⟩)))
    | _ => exact (show False from w).elim
  | _ => exact (show False from w).elim
def atW {α : Type} (o : Option α) (f : α → Prop) : Prop := match o with | some d => f d | none => False
theorem atW_of {α : Type} {o : Option α} {f : α → Prop} (h : atW o f) : ∃ d, o = some d ∧ f d := by
  cases o with
  | none => exact h.elim
  | some d => exact ⟨d, rfl, h⟩
def wIx : W2
  | .lst ds, .int i, μ, P => atW (atI ds i) fun d => P d μ
  | .tup ds, .int i, μ, P => atW (atI ds i) fun d => P d μ
  | .str z, .int i, μ, P => z.length ≤ sizeLine ∧ atW (atI z.cps.toList i) fun c => P (.str ⟨#[c]⟩) μ
  | _, _, _, _ => False
theorem Iss.atI {H : Hp} {vs : List V} {ds : List DV} {i : Int} {d : DV} (r : Iss K H vs ds) (h : L2.atI ds i = some d) : ∃ v, L2.atI vs i = some v ∧ Is K H v d := by
  unfold L2.atI at h ⊢
  rw [r.length]
  cases e : ixN ds.length i with
  | none => rw [e] at h; cases h
  | some j =>
    rw [e] at h
    exact r.get h
theorem ix_rd : R2D K (rIx K) wIx := by
  intro R μ H x y dx dy P Q ok ix iy w k
  cases ix with
  | lst hx rx => cases iy with
    | int i =>
      obtain ⟨d, e, w⟩ := atW_of w
      obtain ⟨v, h1, h2⟩ := rx.atI e
      exact .inl ⟨_, _, i, v, rfl, rfl, SqL.of (hid_le _ _ hx), h1, k.val ok w h2⟩
    | _ => exact (show False from w).elim
  | tup hx rx => cases iy with
    | int i =>
      obtain ⟨d, e, w⟩ := atW_of w
      obtain ⟨v, h1, h2⟩ := rx.atI e
      exact .inr (.inl ⟨_, _, i, v, rfl, rfl, Same.seqT hid_le hx.t, h1, k.val ok w h2⟩)
    | _ => exact (show False from w).elim
  | str z => cases iy with
    | int i =>
      obtain ⟨d, e, w'⟩ := atW_of w.2
      exact .inr (.inr ⟨z, i, _, rfl, rfl, w.1, e, k.val ok w' (.str _)⟩)
    | _ => exact (show False from w).elim
  | _ => exact (show False from w).elim
abbrev WO := Rho → Mh → (Option Int → Mh → Prop) → Prop
def NxtO (K : PySem.W.Frag) (R : Hp) (μ : Mh) (H : Hp) (P : Option Int → Mh → Prop) (Q : Option Int → Hp → Prop) : Prop :=
  ∀ b μ' H', P b μ' → Ok K R μ' H' → Same (hid R μ H) (hid R μ' H') → Q b H'
def tDO (K : PySem.W.Frag) (w : WO) : TO := fun σ H Q => ∃ R ρ μ P, At K R σ ρ μ H ∧ w ρ μ P ∧ NxtO K R μ H P Q
def wNoPart : WO := fun _ μ P => P none μ
def wPart (w : WE) : WO := fun ρ μ P => w ρ μ fun d μ1 => match d with | .int i => P (some i) μ1 | _ => False
theorem PO.imp {e : Option Expr} {t t' : TO} (h : PO X e t) (i : ∀ σ H Q, t' σ H Q → t σ H Q) : PO X e t' := ⟨fun pins s σ H Q I w => h.run pins s σ H Q I (i _ _ _ w)⟩
theorem do_none : PO X none (tDO X.K wNoPart) := PO.imp po_none fun σ H Q ⟨R, ρ, μ, P, a, w, k⟩ => k _ μ H w a.ok (Same.refl _)
variable {e a b : Expr} {w wa wb : WE} {lo hi : Option Expr} {wl wh : WO} {pos p2 : Pos}
theorem do_some (h : PE X e (tD X.K w)) : PO X (some e) (tDO X.K (wPart w)) := PO.imp (po_some h) fun σ H Q ⟨R, ρ, μ, P, a, w, k⟩ => ⟨R, ρ, μ, _, a, w, fun d μ1 v H1 p1 o1 s1 i1 => by
  cases i1 with
  | int i => exact ⟨i, rfl, k _ μ1 H1 p1 o1 s1⟩
  | _ => exact (show False from p1).elim⟩
def cutD (ds : List DV) (lo hi : Option Int) : List DV := (ds.drop (HT.sIx ds.length 0 lo)).take (HT.sIx ds.length ds.length hi - HT.sIx ds.length 0 lo)
theorem Iss.cut {H : Hp} {vs : List V} {ds : List DV} (r : Iss K H vs ds) (lo hi : Option Int) : Iss K H (cutV vs lo hi) (cutD ds lo hi) := by
  unfold cutV cutD
  rw [r.length]
  exact (r.drop _).take _
def wCut : DV → Option Int → Option Int → Mh → (DV → Mh → Prop) → Prop
  | .lst ds, l, h, μ, P => P (.lst (cutD ds l h)) μ
  | .tup ds, l, h, μ, P => P (.tup (cutD ds l h)) μ
  | .str z, l, h, μ, P => z.length ≤ sizeLine ∧ P (.str (cutS z l h)) μ
  | .fix ds, l, h, μ, P => P (.lst (cutD ds l h)) μ
  | _, _, _, _, _ => False
def wSl (w : WE) (wl wh : WO) : WE := fun ρ μ P => w ρ μ fun x μ1 => wl ρ μ1 fun l μ2 => wh ρ μ2 fun h μ3 => wCut x l h μ3 P
def rSlX (K : PySem.W.Frag) : V → Option Int → Option Int → Hp → VK → Prop := fun x lo hi H Q => rSlL K x lo hi H Q ∨ rSlN K x lo hi H Q ∨ rSlS x lo hi H Q
theorem sl_any : SlR X (rSlX X.K) := sl_list.or (sl_tupN.or sl_str)
theorem d_slice (he : PE X e (tD X.K w)) (hl : PO X lo (tDO X.K wl)) (hu : PO X hi (tDO X.K wh)) : PE X (.Subscript e (.Slice lo hi none p2) pos) (tD X.K (wSl w wl wh)) :=
  PE.imp (pe_slice sl_any he hl hu) fun σ H Q ⟨R, ρ, μ, P, a, w, k⟩ => ⟨R, ρ, μ, _, a, w, fun x μ1 v H1 p1 o1 s1 i1 => ⟨R, ρ, μ1, _, a.step o1 s1, p1, fun l μ2 H2 p2 o2 s2 => ⟨R, ρ, μ2, _, a.step o2 (s1.trans s2), p2, fun h μ3 H3 p3 o3 s3 => by
    have k3 := k.step ((s1.trans s2).trans s3)
    have i3 := i1.mono (s2.trans s3)
    cases i3 with
    | lst hx rx => exact .inl ⟨_, _, rfl, SqL.of (hid_le _ _ hx), fun p n => k3.lst o3 p3 (rx.cut l h) n⟩
    | @tup a xs ds hx rx =>
      refine .inr (.inl ⟨_, _, rfl, Same.seqT hid_le hx.t, fun z => ?_, fun _ p t n nt => k3.tup nt o3 p3 (rx.cut l h) n⟩)
      have e : cutD ds l h = ds := by
        unfold cutD
        rw [← rx.length, z.1, z.2]
        simp [rx.length]
      exact k3.val o3 (by rw [← e]; exact p3) (.tup hx rx)
    | fix hx rx => exact .inl ⟨_, _, rfl, hid_le.seq hx, fun p n => k3.lst o3 p3 (rx.cut l h) n⟩
    | str z => exact .inr (.inr ⟨z, rfl, p3.1, k3.val o3 p3.2 (.str _)⟩)
    | _ => exact (show False from p3).elim⟩⟩⟩
theorem d_ix (ha : PE X a (tD X.K wa)) (hb : PE X b (tD X.K wb)) (hs : PlainIx b := by exact fun _ _ => rfl) : PE X (.Subscript a b pos) (tD X.K (wBin wIx wa wb)) := PE.imp (pe_ix ix_seq ha hb hs) (bin_imp ix_rd)
end
end Dz
set_option Elab.async false
set_option linter.all false
set_option maxRecDepth 100000
set_option maxHeartbeats 4000000
namespace Dz
open PySem PySem.Spec L2 PyProof.Rows
/-- as FnOk, at places around which no repr runs -/
structure FnG (P : Program) (w : World) (K : PySem.W.Frag) (mg : Str → Option Value) (base : Heap) (k : Nat) (f : Addr) (fd : FuncData) (ps : List Str) (sp : Sp) : Prop where
  len : ∀ vs H Q E, sp vs H Q E → vs.length = ps.length
  run : ∀ (A : Around) (fr : List Env) (s : Shared) (H : Hp) (ar : Args) (us : List Value) (vs : List V) (Q : VK) (E : XK), A.guards = some [] → Room k A → Env0 P w K mg base A fr s H → BindsTo s fd ar (ps.zip us) → Vals vs us → sp vs H Q E →
    codeAny (model P w) A (.call (.ref f) ar) (CR CX0 fr P w H s Q E) s
theorem FnG.mono {P : Program} {w : World} {K : PySem.W.Frag} {mg : Str → Option Value} {base : Heap} {j k : Nat} {f : Addr} {fd : FuncData} {ps : List Str} {sp : Sp} (F : FnG P w K mg base j f fd ps sp) (h : j ≤ k) : FnG P w K mg base k f fd ps sp :=
  ⟨F.len, fun A fr s H ar us vs Q E hg hr => F.run A fr s H ar us vs Q E hg (hr.mono h)⟩
theorem FnOk.g {P : Program} {w : World} {K : PySem.W.Frag} {mg : Str → Option Value} {base : Heap} {k : Nat} {f : Addr} {fd : FuncData} {ps : List Str} {sp : Sp} (F : FnOk P w K mg base CX0 k f fd ps sp) : FnG P w K mg base k f fd ps sp :=
  ⟨F.len, fun A fr s H ar us vs Q E _ hr => F.run A fr s H ar us vs Q E hr⟩
/-- a def of the text keeps a promise by its body -/
theorem fng_of {P : Program} {w : World} {K : PySem.W.Frag} {mg : Str → Option Value} {base : Heap} {x qual : Str} {st : Stmt} {f : Addr} {fd : FuncData} {N ps : List Str} {k : Nat} {sp : Sp} (F : Fun K x qual st f fd) (S : FnScope N ps (defScope st)) (len : ∀ vs H Q E, sp vs H Q E → vs.length = ps.length)
    (body : ∀ (cdv : Value), fd.code = cdv → ∀ (A : Around) (fr : List Env) (s : Shared) (H : Hp) (vs : List V) (Q : VK) (E : XK), A.guards = some [] → Room k (A.deeper (envOfC qual (defScope st) s.heap.objs.size f cdv)) → sp vs H Q E →
      ∃ t, PSs (cxOf CX0 P w K mg base N qual (defScope st) f cdv A fr s H E).nox (defBody st) t ∧ t { nx := fun _ H' => Q .non H', rt := Q } (start N vs) H) : FnG P w K mg base (k + 1) f fd ps sp := by
  obtain ⟨oc, od, kV, doc, pm, an, cdv, ct, osl, rfl, lk, hcd⟩ := F.ex
  refine ⟨len, fun A fr s H ar us vs Q E hgd room env bnd rel want => ?_⟩
  have inK : K.In s.heap := env.mod.kin.keeps fun b o q => (env.bs b o q).1
  have nolim : s.heap.NoLimit := env.mod.nolimit.keeps fun b o q => (env.bs b o q).1
  have count := len vs H Q E want
  have kinds : ∀ y ∈ ps.zip us, (defScope st).names.lookup y.1 = some .local ∨ ((defScope st).names.lookup y.1 = some .cell ∧ ((cellsFrom (s.heap.objs.size + 1) (defScope st).names []).lookup y.1).isSome = true) := by
    rintro ⟨nm, vv⟩ hy
    have hp := S.par nm (List.of_mem_zip hy).1
    rcases hp with hp | hp
    · exact Or.inl hp
    · exact Or.inr ⟨hp, PySem.W.cellsFrom_some _ _ _ (Or.inl hp)⟩
  refine codeAny_call_function room.depth (inK _ _ lk) rfl S.co S.gen rfl (PySem.W.codeRec_of inK hcd) (bnd _ _ _ _ ?_)
  refine wpAny_newFunctionEnv_cells S.kind kinds fun ev hev s1 x1 => ?_
  subst hev
  refine ⟨nolim.keeps x1.toInCall.keep, codeAny_func ?_⟩
  obtain ⟨t, ht0, hq⟩ := body cdv rfl A fr s H vs Q E hgd (room.deeper _) want
  have ht := ht0.nox
  have I0 := inv_start (CX := CX0) (E := E) S room.hd env count rel x1
  refine wpAny_mono (ht.run [] s1 (start N vs) H _ I0 hq) (fun flow s2 hs => ?_) fun er s2 hs => hs
  cases flow with
  | next =>
    obtain ⟨σ2, H2, J, q⟩ := hs
    exact ⟨.non, H2, J.os, J.bare, J.base, J.hok, rfl, q⟩
  | ret u =>
    obtain ⟨v, σ2, H2, J, rv, q⟩ := hs
    exact ⟨v, H2, J.os, J.bare, J.base, J.hok, rv, q⟩
  | brk =>
    obtain ⟨_, _, _, q⟩ := hs
    exact q.elim
  | cont =>
    obtain ⟨_, _, _, q⟩ := hs
    exact q.elim
section
variable {X : Cx} {k : Nat} {f : Addr} {fd : FuncData} {ps : List Str} {sp : Sp} {E : XK} {x : Str} {p pos : Pos} {e : Expr} {es : List Expr} {t : TA} {dvs : List V} {ds : List Value}
theorem runG {pins : List (Addr × Obj)} {σ : L2.St} {H : Hp} {s : Shared} {Q : VK} {ar : Args} {us : List Value} {vs : List V} (F : FnG X.prog X.w X.K X.mg X.base k f fd ps sp) (hgd : X.A.guards = some []) (hr : Room k X.A) (I : Inv X pins σ H s) (hb : BindsTo s fd ar (ps.zip us)) (r : Vals vs us) (h : sp vs H Q E) :
    wpAny (model X.prog X.w) X.A (PySem.call (.ref f) ar.pos ar.kw) (EP X pins σ Q) X.xe s := by
  refine wpAny_call (codeAny_mono (F.run X.A X.stack s H ⟨ar.pos, ar.kw⟩ us vs Q E hgd hr I.env0 hb r h) fun res s' hq => ?_)
  match res, hq with
  | .ok (.ret u), hq => exact I.after hq
theorem peg_call (F : FnG X.prog X.w X.K X.mg X.base k f fd ps sp) (hgd : X.A.guards = some []) (hr : Room k X.A) (hg : Gl X x) (hm : X.mg x = some (.ref f)) (hk : PySem.W.keepIn X.K (.ref f) = true) (hb : Binds X.K fd ps ds) (hd : Vals dvs ds)
    (ha : PA X (e :: es) t) (hdb : (x == ("__debug__" : Str)) = false) (he : starEach (e :: es) X.env = (false, eval e X.env) :: starEach es X.env) (hpl : (backTo pos (starEach es X.env)).any (·.1) = false) :
    PE X (.Call (.Name x p) (e :: es) [] pos) (tCall sp dvs E t) := by
  constructor
  intro pins s σ H Q I h
  refine wpAny_Call_Name_kw (ld_glob I hg hm (PySem.W.callWith_K (h₀ := X.base) I.ok.mod.kin hk (thn (ha.run pos pins s σ H _ I h) fun us s1 ⟨vs, H1, I1, r, q⟩ => ⟨I1.kIn, ?_⟩) he hpl) hdb)
  have rr : Vals (vs ++ dvs) (us ++ ds) := r.append hd
  exact runG (ar := ⟨us, []⟩) F hgd hr I1 (hb s1 us I1.kIn (by rw [← rr.length]; exact F.len _ _ _ _ q)) rr q
end
/-- the script is there: a list of the ints, locked (or the module's own); nothing else is tracked -/
def Entry (H : Hp) : Prop := ∀ b, H b = none ∨ ∃ o xs, H b = some (.frz o (.lst xs))
theorem law_callG {P : Program} {w : World} {K : PySem.W.Frag} {mg mb : Str → Option Value} {k : Nat} {fa a : Addr} {fd : FuncData} {x : Str} {sp : Sp} {s₁ : Shared} {vs : List Value} {ns : List Int}
    (KX : K.In s₁.heap) (hns : s₁.heap.Ns mainGlobals mg) (hb : s₁.heap.Ns builtinsNs mb) (hbb : ∀ y : Str, y ≠ "__name__" → mb y = bootBuiltins y) (hlim : s₁.heap.NoLimit) (hg : s₁.gens = #[])
    (ha : s₁.heap.get? a = some { cls := .type "list", data := .seq vs.toArray }) (hi : IntsAre vs ns) (hl : ns.length ≤ sizeLine) (hr : Room k callerA)
    (hsys : ∃ m, s₁.heap.Ns sysModules m) (F : ∀ base : Heap, K.In base → base.Ns mainGlobals mg → (∃ o, base.get? sysModules = some o) → FnG P w K mg base k fa fd [x] sp) (hbind : ∀ (s : Shared) (u : Value), BindsTo s fd ⟨[u], []⟩ [(x, u)])
    (hsp : ∀ H : Hp, Entry H → SqL K H a (ns.map V.int) → sp [.ref a] H (fun v _ => v = .bl true) fun _ _ _ => False) :
    codeAny (model P w) callerA (.call (.ref fa) ⟨[.ref a], []⟩) (fun r s' => r = .ok (.ret (.bool true)) ∧ OldK s₁.heap s'.heap ∧ s'.os = s₁.os ∧ AllBare s'.gens) s₁ := by
  have rv := vals_ints hi
  have same : ∀ H : Hp, Entry H → SqL K H a (ns.map V.int) → HOk P w H s₁.heap → (∀ b u, H b = some u → b = a ∧ K.lookup a = none) →
      codeAny (model P w) callerA (.call (.ref fa) ⟨[.ref a], []⟩) (fun r s' => r = .ok (.ret (.bool true)) ∧ OldK s₁.heap s'.heap ∧ s'.os = s₁.os ∧ AllBare s'.gens) s₁ := by
    intro H hE hS hok only
    -- what is no list at a stays below
    have low : ∀ {b : Addr} {o : Obj}, s₁.heap.get? b = some o → (b = a → K.lookup a = none → False) → (hidT s₁.heap H).get? b = some o := fun {b o} e ne => by
      refine hidT_get e ?_
      cases q : H b with
      | none => rfl
      | some u => exact (ne (only b u q).1 (only b u q).2).elim
    have lowNs : ∀ {b : Addr} {m : Str → Option Value}, s₁.heap.Ns b m → (hidT s₁.heap H).Ns b m := fun {b m} h => by
      obtain ⟨o, es, ep, e, d, rest⟩ := h
      refine ⟨o, es, ep, low e fun z _ => ?_, d, rest⟩
      subst z
      rw [ha] at e
      cases e
      exact Data.noConfusion (show Data.seq vs.toArray _ = Data.dict es ep from d)
    have lowK : K.In (hidT s₁.heap H) := fun b o e => low (KX b o e) fun z n => by
      subst z
      rw [n] at e
      cases e
    obtain ⟨ml, hl1, hl2⟩ := hlim
    have env : Env0 P w K mg (hidT s₁.heap H) callerA [] s₁ H :=
      ⟨rfl, ⟨lowK, lowNs hns, ⟨mb, lowNs hb, hbb⟩, ⟨ml, lowNs hl1, hl2⟩⟩, fun b o e => of_hidT e, Nat.le_of_eq (hidT_size _ _), trivial, (fun b z => (List.not_mem_nil (show b ∈ ([] : List Addr) from z)).elim), hok, AllBare.of_eq hg⟩
    refine codeAny_mono ((F (hidT s₁.heap H) lowK (lowNs hns) (let ⟨_, hm⟩ := hsys; let ⟨o, _, _, ho, _⟩ := lowNs hm; ⟨o, ho⟩)).run callerA [] s₁ H ⟨[.ref a], []⟩ [.ref a] [.ref a] _ _ rfl hr env (hbind s₁ (.ref a)) (.cons rfl .nil) (hsp H hE hS)) fun res s' h => ?_
    match res, h with
    | .ok (.ret u), ⟨v, H', os, bare, un, hok', r', q⟩ =>
      have q' : v = V.bl true := q
      subst q'
      obtain rfl : u = Value.bool true := r'
      refine ⟨rfl, OldK.of_keep fun b o e => ?_, os, bare⟩
      rcases hE b with z | ⟨ob, xs, z⟩
      · exact un.keep b o e z (fun y => List.not_mem_nil (show b ∈ ([] : List Addr) from y)) (fun y => List.not_mem_nil y)
      · obtain ⟨e1, _⟩ := hok b _ z
        obtain ⟨e2, _⟩ := hok' b _ (un.frzs b ob _ z)
        have e3 : some o = some ob := e.symm.trans e1
        cases e3
        exact e2
  have lenV := hi.length
  cases hk : K.lookup a with
  | some o =>
    have e := (KX a o hk).symm.trans ha
    cases e
    exact same (fun _ => none) (fun _ => Or.inl rfl) (Or.inr ⟨_, vs.toArray, _, hk, rfl, rfl, rfl, by simpa [lenV] using hl, by simpa using rv⟩) (fun b u z => by cases z) (fun b u z => by cases z)
  | none =>
    let o0 : Obj := { cls := .type "list", data := .seq vs.toArray }
    let H0 : Hp := fun b => if b = a then some (.frz o0 (.lst (ns.map V.int))) else none
    have at0 : ∀ b u, H0 b = some u → b = a ∧ u = .frz o0 (.lst (ns.map V.int)) := fun b u z => by
      by_cases hb : b = a
      · exact ⟨hb, (Option.some.inj ((if_pos hb).symm.trans z)).symm⟩
      · cases (if_neg hb).symm.trans z
    refine same H0 (fun b => ?_) (Or.inl (Or.inr ⟨o0, if_pos rfl⟩)) (fun b u z => ?_) (fun b u z => ⟨(at0 b u z).1, hk⟩)
    · by_cases hb : b = a
      · exact Or.inr ⟨o0, _, if_pos hb⟩
      · exact Or.inl (if_neg hb)
    · obtain ⟨rfl, rfl⟩ := at0 b u z
      exact ⟨ha, by rw [List.length_map]; exact hl, vs, _, rv, ha⟩
/-- the goal that k_head leaves, from the law's promise -/
theorem walk_ofG {l : PySem.W.OpenLaw} {n k : Nat} {q : Program} {loose : List Str} {XP : (Str → Option Value) → Heap → Prop} {YP : World → Heap → Prop} {d : DefRec} {K : Params → PySem.W.Frag} {sp : PySem.W.Frag → Sp} {x : Str}
    (hn : l.most = some n) (hn2 : n ≤ sizeLine) (hi : importsNone q = true) (hdf : d.params.defaults = []) (hr : Room k callerA) (hY : ∀ (w : World) (h : Heap), YP w h → (K w.params).In h)
    (F : ∀ (w : World) (mg : Str → Option Value) (fa : Addr) (h : Heap), (K w.params).In h → h.Ns mainGlobals mg → (∃ o, h.get? sysModules = some o) → mg d.name = some (.ref fa) →
      ∃ fd : FuncData, (∀ (s : Shared) (u : Value), BindsTo s fd ⟨[u], []⟩ [(x, u)]) ∧ ∀ base : Heap, (K w.params).In base → base.Ns mainGlobals mg → (∃ o, base.get? sysModules = some o) → FnG l.prog w (K w.params) mg base k fa fd [x] (sp (K w.params)))
    (hsp : ∀ (K : PySem.W.Frag) (H : Hp) (a : Addr) (ns : List Int), ns.length ≤ n → Entry H → SqL K H a (ns.map V.int) → sp K [.ref a] H (fun v _ => v = .bl true) fun _ _ _ => False) :
    PySem.W.WalkO q loose XP YP l.row.toRowW d [] (fun f vs => PySem.call f vs) := by
  refine Att.attach_call hn hdf fun w s₀ s₁ mg mb fa o pm cd doc a vs ns G Y ho hd hcd hmg hobj hints hlen hgen => ?_
  have KX := hY w _ Y
  have hsys : ∃ m, s₁.heap.Ns sysModules m := let ⟨m, hm, _⟩ := (G.T.seer hi).mods; ⟨m, hm⟩
  obtain ⟨fd, hbd, hF⟩ := F w mg fa _ KX G.T.g (let ⟨_, hm⟩ := hsys; let ⟨o, _, _, ho, _⟩ := hm; ⟨o, ho⟩) hmg
  exact law_callG KX G.T.g G.T.b G.T.builtins G.T.nolimit hgen hobj hints (Nat.le_trans hlen hn2) hr hsys hF hbd fun H hE hS => hsp (K w.params) H a ns hlen hE hS
end Dz
set_option Elab.async false
set_option linter.all false
set_option maxRecDepth 100000
set_option maxHeartbeats 4000000
namespace Dz
open PySem L2 PyProof.Rows
variable [γ : Gd]
theorem wipe_get (σ : L2.St) (j : Nat) : ∀ vs : List Nat, (wipe σ vs)[j]? = if j ∈ vs ∧ j < σ.length then some none else σ[j]?
  | [] => by simp [wipe]
  | v :: vs => by
    unfold wipe
    by_cases h : v = j
    · subst h
      by_cases hl : v < σ.length
      · rw [List.getElem?_set_self (by rw [wipe_length]; exact hl), if_pos ⟨List.mem_cons_self, hl⟩]
      · rw [List.getElem?_eq_none (by rw [List.length_set, wipe_length]; omega), if_neg (fun z => hl z.2), List.getElem?_eq_none (by omega)]
    · rw [List.getElem?_set_ne h, wipe_get σ j vs]
      by_cases c : j ∈ vs ∧ j < σ.length
      · rw [if_pos c, if_pos ⟨List.mem_cons_of_mem _ c.1, c.2⟩]
      · rw [if_neg c, if_neg fun z => c ⟨(List.mem_cons.mp z.1).resolve_left fun q => h q.symm, z.2⟩]
theorem wipe_set {σ : L2.St} {i : Nat} {x : Option V} {vs : List Nat} (h : i ∈ vs) : wipe (σ.set i x) vs = wipe σ vs := by
  apply List.ext_getElem?
  intro j
  rw [wipe_get, wipe_get, List.length_set]
  by_cases c : j ∈ vs ∧ j < σ.length
  · rw [if_pos c, if_pos c]
  · rw [if_neg c, if_neg c]
    by_cases e : i = j
    · subst e
      have hl : ¬ i < σ.length := fun z => c ⟨h, z⟩
      rw [List.getElem?_eq_none (by rw [List.length_set]; omega), List.getElem?_eq_none (by omega)]
    · rw [List.getElem?_set_ne e]
theorem wipe_wipe (σ : L2.St) (vs : List Nat) : wipe (wipe σ vs) vs = wipe σ vs := by
  apply List.ext_getElem?
  intro j
  rw [wipe_get, wipe_get, wipe_length]
  by_cases c : j ∈ vs ∧ j < σ.length
  · rw [if_pos c, if_pos c]
  · rw [if_neg c, if_neg c]
def tDG (K : PySem.W.Frag) (sl : List Nat) (wg : WG) : TG := fun v σ H Q => ∃ R ρ μ d P, At K R σ ρ μ H ∧ Is K (hid R μ H) v d ∧ wg d ρ P ∧
  ∀ ρ' σ', P ρ' → Sl K (hid R μ H) σ' ρ' → (∀ vs, (∀ i ∈ sl, i ∈ vs) → wipe σ' vs = wipe σ vs) → Q σ' H
abbrev WGs := List DV → Rho → (Rho → Prop) → Prop
def tDGs (K : PySem.W.Frag) (sl : List Nat) (wg : WGs) : TGs := fun vs σ H Q => ∃ R ρ μ ds P, At K R σ ρ μ H ∧ Iss K (hid R μ H) vs ds ∧ wg ds ρ P ∧
  ∀ ρ' σ', P ρ' → Sl K (hid R μ H) σ' ρ' → (∀ vs, (∀ i ∈ sl, i ∈ vs) → wipe σ' vs = wipe σ vs) → Q σ' H
theorem PG.imp {X : Cx} {e : Expr} {t t' : TG} (h : PG X e t) (i : ∀ v σ H Q, t' v σ H Q → t v σ H Q) : PG X e t' := ⟨fun pins s σ H v u Q I r w => h.run pins s σ H v u Q I r (i _ _ _ _ w)⟩
theorem PGs.imp {X : Cx} {e : List Expr} {t t' : TGs} (h : PGs X e t) (i : ∀ v σ H Q, t' v σ H Q → t v σ H Q) : PGs X e t' := ⟨fun pins s σ H v u Q I r w => h.run pins s σ H v u Q I r (i _ _ _ _ w)⟩
theorem PI.imp {X : Cx} {tg e : Expr} {t t' : TI} (h : PI X tg e t) (i : ∀ σ H Q, t' σ H Q → t σ H Q) : PI X tg e t' := ⟨fun pins s σ H Q I w => h.run pins s σ H Q I (i _ _ _ w)⟩
def wgName (i : Nat) : WG := fun d ρ P => P (ρ.set i (some d))
def wgNil : WGs := fun ds ρ P => ds = [] ∧ P ρ
def wgCons (g : WG) (gs : WGs) : WGs := fun ds ρ P => match ds with | d :: r => g d ρ fun ρ1 => gs r ρ1 P | [] => False
def wgTup (n : Nat) (gs : WGs) : WG := fun d ρ P => match d with | .tup ds => ds.length = n ∧ gs ds ρ P | _ => False
section
variable {X : Cx} {pos : Pos} {e : Expr} {es : List Expr} {g : WG} {gs : WGs} {s1 s2 : List Nat}
theorem dg_name {i : Nat} {x : Str} (hN : X.N.Nodup) (hi : X.N[i]? = some x) (hx : Loc X.env.scope x) (hf : X.fn x = true ∨ X.env.scope.names.lookup x = some .local := by first | exact .inl rfl | exact .inr rfl | assumption) : PG X (.Name x pos) (tDG X.K [i] (wgName i)) :=
  PG.imp (pg_name hN hi hx hf) fun v σ H Q ⟨R, ρ, μ, d, P, a, r, w, k⟩ => k _ _ w (a.sl.set i r) fun vs h => wipe_set (h i List.mem_cons_self)
theorem dgs_nil : PGs X [] (tDGs X.K [] wgNil) := PGs.imp pgs_nil fun v σ H Q ⟨R, ρ, μ, d, P, a, r, w, k⟩ => by
  obtain ⟨rfl, w⟩ := w
  cases r
  exact ⟨rfl, k _ _ w a.sl fun _ _ => rfl⟩
theorem dgs_cons (h1 : PG X e (tDG X.K s1 g)) (h2 : PGs X es (tDGs X.K s2 gs)) (hs : (assignEach (e :: es) X.env).map (·.2) = assign e X.env :: (assignEach es X.env).map (·.2) := by rfl) : PGs X (e :: es) (tDGs X.K (s1 ++ s2) (wgCons g gs)) :=
  PGs.imp (pgs_cons h1 h2 hs) fun v σ H Q ⟨R, ρ, μ, ds, P, a, r, w, k⟩ => by
    cases r with
    | nil => exact (show False from w).elim
    | cons r rr =>
      refine ⟨_, _, rfl, R, ρ, μ, _, _, a, r, w, fun ρ1 σ1 p1 sl1 w1 => ⟨R, ρ1, μ, _, P, ⟨a.ok, sl1⟩, rr, p1, fun ρ2 σ2 p2 sl2 w2 => k ρ2 σ2 p2 sl2 fun vs h => ?_⟩⟩
      rw [w2 vs fun i hi => h i (List.mem_append_right _ hi), w1 vs fun i hi => h i (List.mem_append_left _ hi)]
end
structure ItD (K : PySem.W.Frag) (Hm : Hp) (J : It) (xs : List DV) : Prop where
  go : ∀ R μ H i, Ok K R μ H → Same Hm (hid R μ H) → i < xs.length → J.go i H
  yld : ∀ R μ H i x H', Ok K R μ H → Same Hm (hid R μ H) → J.yld i H x H' → i < xs.length → ∃ d, xs[i]? = some d ∧ Ok K R μ H' ∧ Same (hid R μ H) (hid R μ H') ∧ Is K (hid R μ H') x d
  stop : ∀ R μ H i, Ok K R μ H → Same Hm (hid R μ H) → xs.length ≤ i → J.stop i H
theorem ItD.lst {K : PySem.W.Frag} {Hm : Hp} {a : Addr} {vs : List V} {xs : List DV} (h : Hm a = some (.lst vs)) (r : Iss K Hm vs xs) : ItD K Hm (Itl K a) xs where
  go := fun R μ H i o s hi => by
    obtain ⟨v, e, _⟩ := r.get (List.getElem?_eq_getElem hi)
    exact ⟨vs, v, SqL.of (hid_le _ _ (s _ _ h)), e⟩
  yld := fun R μ H i x H' o s y hi => by
    obtain ⟨rfl, y⟩ := y
    have e := y vs (SqL.of (hid_le _ _ (s _ _ h)))
    obtain ⟨d, e2, k⟩ := r.getV e
    exact ⟨d, e2, o, Same.refl _, k.mono s⟩
  stop := fun R μ H i o s hi => ⟨vs, SqL.of (hid_le _ _ (s _ _ h)), by rw [r.length]; exact hi⟩
theorem ItD.tup {K : PySem.W.Frag} {Hm : Hp} {a : Addr} {vs : List V} {xs : List DV} (h : SqT K Hm a vs) (r : Iss K Hm vs xs) : ItD K Hm (Itt K a) xs where
  go := fun R μ H i o s hi => by
    obtain ⟨v, e, _⟩ := r.get (List.getElem?_eq_getElem hi)
    exact ⟨vs, v, Same.seqT (s.trans hid_le) h, e⟩
  yld := fun R μ H i x H' o s y hi => by
    obtain ⟨rfl, y⟩ := y
    have e := y vs (Same.seqT (s.trans hid_le) h)
    obtain ⟨d, e2, k⟩ := r.getV e
    exact ⟨d, e2, o, Same.refl _, k.mono s⟩
  stop := fun R μ H i o s hi => ⟨vs, Same.seqT (s.trans hid_le) h, by rw [r.length]; exact hi⟩
def signs (z : Str) : List DV := z.cps.toList.map fun c => .str ⟨#[c]⟩
theorem ItD.str {K : PySem.W.Frag} {Hm : Hp} {z : Str} : ItD K Hm (Its z) (signs z) where
  go := fun R μ H i o s hi => by
    unfold signs at hi
    rw [List.length_map, Array.length_toList] at hi
    exact hi
  yld := fun R μ H i x H' o s y hi => by
    obtain ⟨rfl, c, e, rfl⟩ := y
    refine ⟨.str ⟨#[c]⟩, ?_, o, Same.refl _, .str _⟩
    unfold signs
    rw [List.getElem?_map, Array.getElem?_toList, e]
    rfl
  stop := fun R μ H i o s hi => by
    unfold signs at hi
    rw [List.length_map, Array.length_toList] at hi
    exact hi
def rngD (lo : Int) (n : Nat) : List DV := (List.range n).map fun i : Nat => .int (lo + (i : Int))
theorem ItD.rng {K : PySem.W.Frag} {Hm : Hp} {lo : Int} {n : Nat} : ItD K Hm (Itr lo n) (rngD lo n) where
  go := fun R μ H i o s hi => by
    unfold rngD at hi
    rw [List.length_map, List.length_range] at hi
    exact hi
  yld := fun R μ H i x H' o s y hi => by
    obtain ⟨rfl, rfl⟩ := y
    unfold rngD at hi ⊢
    rw [List.length_map, List.length_range] at hi
    refine ⟨.int (lo + (i : Int)), ?_, o, Same.refl _, .int _⟩
    rw [List.getElem?_map, List.getElem?_range hi]
    rfl
  stop := fun R μ H i o s hi => by
    unfold rngD at hi
    rw [List.length_map, List.length_range] at hi
    exact hi
abbrev WI := Rho → Mh → (List DV → Mh → Prop) → Prop
def tDI (K : PySem.W.Frag) (ws : WI) : TI := fun σ H RR => ∃ R ρ μ P, At K R σ ρ μ H ∧ ws ρ μ P ∧ ∀ xs μ' H' J, P xs μ' → Ok K R μ' H' → Same (hid R μ H) (hid R μ' H') → ItD K (hid R μ' H') J xs → RR J H'
def sLst (w : WE) : WI := fun ρ μ P => w ρ μ fun d μ1 => match d with | .lst xs => P xs μ1 | _ => False
def sRng1 (w : WE) : WI := fun ρ μ P => w ρ μ fun d μ1 => match d with | .int j => j < 2 ^ 62 ∧ -(2 ^ 62) ≤ j ∧ P (rngD 0 j.toNat) μ1 | _ => False
section
variable {X : Cx} {tg e a b : Expr} {w wa wb : WE} {p pos : Pos}
theorem di_list (h : PE X e (tD X.K w)) : PI X tg e (tDI X.K (sLst w)) := PI.imp (pi_list h) fun σ H RR ⟨R, ρ, μ, P, a, w, k⟩ => ⟨R, ρ, μ, _, a, w, fun d μ1 v H1 p1 o1 s1 i1 => by
  cases i1 with
  | lst hx rx => exact ⟨_, rfl, ⟨_, SqL.of (hid_le _ _ hx)⟩, k _ μ1 H1 _ p1 o1 s1 (.lst hx rx)⟩
  | _ => exact (show False from p1).elim⟩
theorem di_range1 (hg : Gl X "range") (hm : X.mg "range" = none) (h : PE X a (tD X.K w)) (hs : starEach [a] X.env = [(false, eval a X.env)] := by rfl) : PI X tg (.Call (.Name "range" p) [a] [] pos) (tDI X.K (sRng1 w)) :=
  PI.imp (pi_range1 hg hm (pa_cons h pa_nil hs) hs) fun σ H RR ⟨R, ρ, μ, P, a, w, k⟩ => ⟨R, ρ, μ, _, a, w, fun d μ1 v H1 p1 o1 s1 i1 => by
    cases i1 with
    | int j => exact ⟨j, rfl, p1.2.1, p1.1, k _ μ1 H1 _ p1.2.2 o1 s1 .rng⟩
    | _ => exact (show False from p1).elim⟩
end
def wSeq (t u : WS) : WS := fun E ρ μ => t { E with nx := u E } ρ μ
def wNext : WS := fun E ρ μ => E.nx ρ μ
def wAsg (w : WE) (g : WG) : WS := fun E ρ μ => w ρ μ fun d μ1 => g d ρ fun ρ1 => E.nx ρ1 μ1
def wDrop (w : WE) : WS := fun E ρ μ => w ρ μ fun _ μ1 => E.nx ρ μ1
def wRet (w : WE) : WS := fun E ρ μ => w ρ μ fun d μ1 => E.rt d μ1
def wIfS (c : WT) (t u : WS) : WS := fun E ρ μ => c ρ μ fun b μ1 => match b with | true => t E ρ μ1 | false => u E ρ μ1
def wPar (i j : Nat) (wa : WA) : WS := fun E ρ μ => wa ρ μ fun ds μ1 => match ds with | [x, y] => E.nx ((ρ.set i (some x)).set j (some y)) μ1 | _ => False
section
variable {X : Cx} {st : Stmt} {rest sa sb : List Stmt} {t u : WS} {e tg : Expr} {w : WE} {g : WG} {sl : List Nat} {pos : Pos}
theorem dss_nil : PSs X [] (tDS X.K wNext) := PSs.imp pss_nil fun D σ H ⟨R, ρ, μ, E, a, w, k⟩ => k.nx ρ μ σ H w a (Same.refl _)
theorem dss_cons (h1 : PS X st (tDS X.K t)) (h2 : PSs X rest (tDS X.K u)) : PSs X (st :: rest) (tDS X.K (wSeq t u)) := PSs.imp (pss_cons h1 h2) fun D σ H ⟨R, ρ, μ, E, a, w, k⟩ =>
  ⟨R, ρ, μ, _, a, w, ⟨fun ρ1 μ1 σ1 H1 p1 a1 s1 => ⟨R, ρ1, μ1, E, a1, p1, k.step s1⟩, k.rt, k.bk, k.ct⟩⟩
theorem dss_one (h : PS X st (tDS X.K t)) : PSs X [st] (tDS X.K t) := pss_one h
theorem asg_imp {K : PySem.W.Frag} : ∀ D σ H, tDS K (wAsg w g) D σ H → tAsg (tD K w) (tDG K sl g) D σ H := fun D σ H ⟨R, ρ, μ, E, a, w, k⟩ =>
  ⟨R, ρ, μ, _, a, w, fun d μ1 v H1 p1 o1 s1 i1 => ⟨R, ρ, μ1, d, _, a.step o1 s1, i1, p1, fun ρ' σ' p2 sl2 _ => k.nx ρ' μ1 σ' H1 p2 ⟨o1, sl2⟩ s1⟩⟩
theorem ds_asg (he : PE X e (tD X.K w)) (hg : PG X tg (tDG X.K sl g)) (hs : swapsWithSole [tg] e pos.line X.env = pure false := by rfl) (hw : swappedStores [tg] e X.env = pure none := by rfl) (h1 : (assignEach [tg] X.env).map (·.2) = [assign tg X.env] := by rfl) : PS X (.Assign [tg] e pos) (tDS X.K (wAsg w g)) :=
  PS.imp (ps_asg he hg hs hw h1) asg_imp
theorem ds_set {i : Nat} {x : Str} {pos' : Pos} (hN : X.N.Nodup) (hi : X.N[i]? = some x) (hx : Loc X.env.scope x) (he : PE X e (tD X.K w)) (hs : swapsWith e (some (.Name x pos')) pos.line X.env = pure false := by rfl)
    (hf : X.fn x = true ∨ X.env.scope.names.lookup x = some .local := by first | exact .inl rfl | exact .inr rfl | assumption) : PS X (.Assign [.Name x pos'] e pos) (tDS X.K (wAsg w (wgName i))) :=
  PS.imp (ps_set hN hi hx he hs hf) fun D σ H ⟨R, ρ, μ, E, a, w, k⟩ => ⟨R, ρ, μ, _, a, w, fun d μ1 v H1 p1 o1 s1 i1 => k.nx _ μ1 _ H1 p1 ⟨o1, (a.sl.mono s1).set i i1⟩ s1⟩
theorem ds_par {i j : Nat} {x y : Str} {a b : Expr} {wa : WA} {px py pt : Pos} {kt k2 pt2} (hN : X.N.Nodup) (hi : X.N[i]? = some x) (hj : X.N[j]? = some y) (hij : i ≠ j) (hx : X.env.scope.names.lookup x = some .local) (hy : X.env.scope.names.lookup y = some .local) (ha : PA X [a, b] (tDA X.K wa))
    (hw : swappedStores [.Tuple [.Name x px, .Name y py] kt pt] (.Tuple [a, b] k2 pt2) X.env = pure (some [x, y])) (hc : X.calm = true := by rfl) (hs : swapsWithSole [.Tuple [.Name x px, .Name y py] kt pt] (.Tuple [a, b] k2 pt2) pos.line X.env = pure false := by rfl) :
    PS X (.Assign [.Tuple [.Name x px, .Name y py] kt pt] (.Tuple [a, b] k2 pt2) pos) (tDS X.K (wPar i j wa)) :=
  PS.imp (ps_par hc hN hi hj hij hx hy ha hw hs) fun D σ H ⟨R, ρ, μ, E, a, w, k⟩ => ⟨R, ρ, μ, _, a, w, fun ds μ1 vs H1 p1 o1 s1 i1 => by
    cases i1 with
    | nil => exact (show False from p1).elim
    | cons i1 r => cases r with
      | nil => exact (show False from p1).elim
      | cons i2 r => cases r with
        | nil => exact ⟨_, _, rfl, k.nx _ μ1 _ H1 p1 ⟨o1, ((a.sl.mono s1).set i i1).set j i2⟩ s1⟩
        | cons _ _ => exact (show False from p1).elim⟩
theorem ds_expr (he : PE X e (tD X.K w)) (hs : swapsWith e none pos.line X.env = pure false := by rfl) : PS X (.Expr e pos) (tDS X.K (wDrop w)) :=
  PS.imp (ps_expr he hs) fun D σ H ⟨R, ρ, μ, E, a, w, k⟩ => ⟨R, ρ, μ, _, a, w, fun d μ1 v H1 p1 o1 s1 i1 => k.nx ρ μ1 σ H1 p1 (a.step o1 s1) s1⟩
theorem ds_ret (he : PE X e (tD X.K w)) : PS X (.Return (some e) pos) (tDS X.K (wRet w)) :=
  PS.imp (ps_ret he) fun D σ H ⟨R, ρ, μ, E, a, w, k⟩ => ⟨R, ρ, μ, _, a, w, k.rt⟩
theorem ds_if {c : Expr} {tc : WT} (hc : PT X c (tDT X.K tc)) (ha : PSs X sa (tDS X.K t)) (hb : PSs X sb (tDS X.K u)) : PS X (.If c sa sb pos) (tDS X.K (wIfS tc t u)) :=
  PS.imp (ps_if hc ha hb) fun D σ H ⟨R, ρ, μ, E, a, w, k⟩ => ⟨R, ρ, μ, _, a, w, fun b μ1 H1 p1 o1 s1 => by
    cases b with
    | true => exact iteT ⟨R, ρ, μ1, E, a.step o1 s1, p1, k.step s1⟩
    | false => exact iteF ⟨R, ρ, μ1, E, a.step o1 s1, p1, k.step s1⟩⟩
def forW (g : WG) (b : WS) (E : DEnds) : List DV → Rho → Mh → Prop
  | [], ρ, μ => E.nx ρ μ
  | x :: xs, ρ, μ => g x ρ fun ρ1 => b { nx := forW g b E xs, rt := E.rt, bk := E.nx, ct := forW g b E xs } ρ1 μ
def wFor (ws : WI) (g : WG) (b : WS) : WS := fun E ρ μ => ws ρ μ fun xs μ1 => forW g b E xs ρ μ1
theorem drop_at {α : Type} {xs : List α} {i : Nat} {d : α} (h : xs[i]? = some d) : xs.drop i = d :: xs.drop (i + 1) := by
  obtain ⟨hi, e⟩ := List.getElem?_eq_some_iff.mp h
  rw [List.drop_eq_getElem_cons hi, e]
theorem ds_for {iter : Expr} {body : List Stmt} {ws : WI} {b : WS} (hi : PI X tg iter (tDI X.K ws)) (hg : PG X tg (tDG X.K sl g)) (hb : PSs X body (tDS X.K b)) (hp : PassesOwn (model X.prog X.w) X.A X.env X.xe := by exact PassesOwn.never) (hc : X.calm = true := by rfl)
    (hs : ∀ x, foldedSetIterable iter X.env x = pure x := by intro _; rfl) : PS X (.For tg iter body [] pos) (tDS X.K (wFor ws g b)) :=
  PS.imp (ps_for hp hc hi hg hb hs) fun D σ H ⟨R, ρ, μ, E, a, w, k⟩ => ⟨R, ρ, μ, _, a, w, fun xs μ1 H1 J p1 o1 s1 it => by
    refine ⟨fun i m σ' H' => m = xs.length - i ∧ i ≤ xs.length ∧ ∃ ρ' μ', At X.K R σ' ρ' μ' H' ∧ Same (hid R μ1 H1) (hid R μ' H') ∧ forW g b E (xs.drop i) ρ' μ', ⟨_, rfl, Nat.zero_le _, ρ, μ1, a.step o1 s1, Same.refl _, p1⟩, ?_⟩
    rintro i m σ2 H2 ⟨rfl, hi, ρ2, μ2, a2, s2, w2⟩
    by_cases hlt : i < xs.length
    · refine .inr ⟨it.go R μ2 H2 i a2.ok s2 hlt, fun σ' H' => ∃ ρ' μ', At X.K R σ' ρ' μ' H' ∧ Same (hid R μ1 H1) (hid R μ' H') ∧ forW g b E (xs.drop (i + 1)) ρ' μ', fun σ' H' ⟨ρ', μ', a', s', w'⟩ => ⟨_, ?_, rfl, hlt, ρ', μ', a', s', w'⟩, fun x H3 y => ?_⟩
      · omega
      · obtain ⟨d, hd, o3, s3, r3⟩ := it.yld R μ2 H2 i x H3 a2.ok s2 y hlt
        rw [drop_at hd] at w2
        refine ⟨R, ρ2, μ2, d, _, a2.step o3 s3, r3, w2, fun ρ4 σ4 w4 sl4 _ => ⟨R, ρ4, μ2, _, ⟨o3, sl4⟩, w4, ⟨fun ρ5 μ5 σ5 H5 p5 a5 s5 => ⟨ρ5, μ5, a5, (s2.trans s3).trans s5, p5⟩, ?_, ?_, fun ρ5 μ5 σ5 H5 p5 a5 s5 => ⟨ρ5, μ5, a5, (s2.trans s3).trans s5, p5⟩⟩⟩⟩
        · exact k.rt.step ((s1.trans s2).trans s3)
        · exact k.nx.step ((s1.trans s2).trans s3)
    · have e : i = xs.length := by omega
      subst e
      rw [List.drop_length] at w2
      exact .inl ⟨it.stop R μ2 H2 _ a2.ok s2 (Nat.le_refl _), k.nx ρ2 μ2 σ2 H2 w2 a2 (s1.trans s2)⟩⟩
end
def compW (g : WG) (t : WT) (e : WE) (ρ : Rho) : List DV → List DV → Mh → (List DV → Mh → Prop) → Prop
  | [], acc, μ, P => P acc μ
  | x :: xs, acc, μ, P => g x ρ fun ρ1 => t ρ1 μ fun b μ1 => match b with
    | true => e ρ1 μ1 fun y μ2 => acc.length < sizeLine ∧ compW g t e ρ xs (acc ++ [y]) μ2 P
    | false => compW g t e ρ xs acc μ1 P
def wLc (ws : WI) (g : WG) (t : WT) (e : WE) (vs : List Nat) : WE := fun ρ μ P => ws ρ μ fun xs μ1 => compW g t e (wipeD ρ vs) xs [] μ1 fun acc μ2 => P (.lst acc) μ2
section
variable {K : PySem.W.Frag} {R : Hp} {μ μ' : Mh} {H H' : Hp} {D : Addr} {o o' : HO}
/-- a thing set aside -/
theorem Ok.frame (k : Ok K R μ H) (n : H D = none) : Ok K (upd R D o) μ (upd H D o) ∧ hid (upd R D o) μ (upd H D o) = hid R μ H := by
  have k2 := k.new (o := o) n
  have e : hid (upd R D o) μ (upd H D o) = hid R μ H := by
    funext b
    by_cases z : b = D
    · subst z
      have h1 : hid (upd R b o) μ (upd H b o) b = none := by
        unfold hid
        rw [if_neg fun q => by rw [upd_same] at q; exact Bool.false_ne_true q.1]
      have h2 : hid R μ H b = none := by
        unfold hid
        rw [n]
        split <;> rfl
      rw [h1, h2]
    · unfold hid
      rw [upd_ne z, upd_ne z]
  have ng := k.freeG n
  refine ⟨⟨fun a u h => ?_, fun a u h => ?_, fun a u h => ?_, fun a u h => ?_, by rw [e]; exact k.sam⟩, e⟩
  · by_cases z : a = D
    · subst z
      rw [upd_same] at h ⊢
      exact h
    · rw [upd_ne z] at h ⊢
      exact k.fr a u h
  · by_cases z : a = D
    · subst z
      exact k.freeM n
    · rw [upd_ne z] at h
      exact k.dj a u h
  · have := k2.ob a u h
    rw [e]
    refine MOk.mono ?_ rfl (fun _ _ => rfl) h (fun _ q => q) ?_ (Hm := hid R μ H) (μ := μ) (H := upd H D o)
    · exact Same.refl _
    · have ne : ∀ {b u}, H b = some u → b ≠ D := fun q z => by subst z; rw [n] at q; cases q
      obtain ⟨w, hw⟩ := (k.ob a u h).here
      refine (k.ob a u h).mono (Same.refl _) (upd_ne (ne hw)) (fun b hb => ?_) h (fun _ z => z)
      rw [h] at hb
      cases u with
      | ext near φ =>
        obtain ⟨_, _, hn, _⟩ := k.ob a _ h
        obtain ⟨v, hv⟩ := (k.ob b _ (hn b hb)).here
        exact upd_ne (ne hv)
      | _ => cases hb
  · rw [upd_ne (fun z => by subst z; rw [ng] at h; cases h)]
    exact k.sub a u h
/-- what was set aside changes -/
theorem Ok.reframe (k : Ok K (upd R D o) μ H) (ng : γ.R D = none) : Ok K (upd R D o') μ (upd H D o') ∧ hid (upd R D o') μ (upd H D o') = hid (upd R D o) μ H := by
  have hm : μ D = none := k.dj D o upd_same
  have hH : H D = some o := k.fr D o upd_same
  have e : hid (upd R D o') μ (upd H D o') = hid (upd R D o) μ H := by
    funext b
    by_cases z : b = D
    · subst z
      have h1 : ∀ (u : HO) (G : Hp), hid (upd R b u) μ G b = none := fun u G => by
        unfold hid
        rw [if_neg fun q => by rw [upd_same] at q; exact Bool.false_ne_true q.1]
      rw [h1, h1]
    · unfold hid
      rw [upd_ne z, upd_ne z, upd_ne z]
  refine ⟨⟨fun a u h => ?_, fun a u h => ?_, fun a u h => ?_, fun a u h => ?_, by rw [e]; exact k.sam⟩, e⟩
  · by_cases z : a = D
    · subst z
      rw [upd_same] at h ⊢
      exact h
    · rw [upd_ne z] at h ⊢
      exact k.fr a u (by rw [upd_ne z]; exact h)
  · by_cases z : a = D
    · subst z
      exact hm
    · rw [upd_ne z] at h
      exact k.dj a u (by rw [upd_ne z]; exact h)
  · rw [e]
    have ne : ∀ {b m}, μ b = some m → b ≠ D := fun q z => by subst z; rw [hm] at q; cases q
    refine (k.ob a u h).mono (Same.refl _) (upd_ne (ne h)) (fun b hb => ?_) h (fun _ z => z)
    rw [h] at hb
    cases u with
    | ext near φ =>
      obtain ⟨_, _, hn, _⟩ := k.ob a _ h
      exact upd_ne (ne (hn b hb))
    | _ => cases hb
  · have ne : a ≠ D := fun z => by subst z; rw [ng] at h; cases h
    have := k.sub a u h
    rw [upd_ne ne] at this ⊢
    exact this
/-- what was set aside is let go -/
theorem Ok.unframe (k : Ok K (upd R D o) μ H) (n : R D = none) (ng : γ.R D = none) : Ok K R μ H ∧ Same (hid (upd R D o) μ H) (hid R μ H) ∧ hid R μ H D = some o := by
  have hm : μ D = none := k.dj D o upd_same
  have hH : H D = some o := k.fr D o upd_same
  have s : Same (hid (upd R D o) μ H) (hid R μ H) := fun b u h => by
    obtain ⟨e1, e2, e3⟩ := hid_some h
    by_cases z : b = D
    · subst z
      rw [upd_same] at e1
      cases e1
    · rw [upd_ne z] at e1
      rw [hid_at e1 e2]
      exact e3
  refine ⟨⟨fun a u h => ?_, fun a u h => ?_, fun a u h => (k.ob a u h).mono s rfl (fun _ _ => rfl) h (fun _ z => z), fun a u h => ?_, k.sam.trans s⟩, s, by rw [hid_at n hm]; exact hH⟩
  · refine k.fr a u ?_
    rw [upd_ne (fun z => by subst z; rw [n] at h; cases h)]
    exact h
  · refine k.dj a u ?_
    rw [upd_ne (fun z => by subst z; rw [n] at h; cases h)]
    exact h
  · have ne : a ≠ D := fun z => by subst z; rw [ng] at h; cases h
    have := k.sub a u h
    rw [upd_ne ne] at this
    exact this
end
section
variable {X : Cx} {elt tg iter : Expr} {ifs : List Expr} {scope : Scope} {own : List (Str × Nat)} {pos : Pos} {ws : WI} {g : WG} {t : WT} {e : WE} {sl : List Nat}
theorem lc_imp {K : PySem.W.Frag} {vs : List Nat} (hv : ∀ i ∈ sl, i ∈ vs) : ∀ σ H Q, tD K (wLc ws g t e vs) σ H Q → tLc (tDI K ws) (tDG K sl g) (tDT K t) (tD K e) vs σ H Q := fun σ H Q ⟨R, ρ, μ, P, a, w, k⟩ =>
  ⟨R, ρ, μ, _, a, w, fun xs μ1 H1 J p1 o1 s1 it => fun D n => by
    have rn := o1.freeR n
    have ng := o1.freeG n
    refine ⟨fun i m H' => m = xs.length - i ∧ i ≤ xs.length ∧ ∃ μ' acc accV, Ok K (upd R D (.lst accV)) μ' H' ∧ Same (hid R μ1 H1) (hid (upd R D (.lst accV)) μ' H') ∧ Iss K (hid (upd R D (.lst accV)) μ' H') accV acc ∧
      compW g t e (wipeD ρ vs) (xs.drop i) acc μ' fun acc μ2 => P (.lst acc) μ2, ?_, ?_⟩
    · obtain ⟨o2, e2⟩ := o1.frame (o := .lst []) n
      exact ⟨_, rfl, Nat.zero_le _, μ1, [], [], o2, by rw [e2]; exact Same.refl _, .nil, p1⟩
    rintro i m H2 ⟨rfl, hi, μ2, acc, accV, o2, s2, r2, w2⟩
    by_cases hlt : i < xs.length
    · refine .inr ⟨it.go _ μ2 H2 i o2 s2 hlt, fun H' => ∃ μ' acc accV, Ok K (upd R D (.lst accV)) μ' H' ∧ Same (hid R μ1 H1) (hid (upd R D (.lst accV)) μ' H') ∧ Iss K (hid (upd R D (.lst accV)) μ' H') accV acc ∧
        compW g t e (wipeD ρ vs) (xs.drop (i + 1)) acc μ' fun acc μ2 => P (.lst acc) μ2, fun H' ⟨μ', acc', accV', o', s', r', w'⟩ => ⟨_, ?_, rfl, hlt, μ', acc', accV', o', s', r', w'⟩, fun x H3 y => ?_⟩
      · omega
      · obtain ⟨d, hd, o3, s3, r3⟩ := it.yld _ μ2 H2 i x H3 o2 s2 y hlt
        rw [drop_at hd] at w2
        have sl3 : Sl K (hid (upd R D (.lst accV)) μ2 H3) (wipe σ vs) (wipeD ρ vs) := (a.sl.mono ((s1.trans s2).trans s3)).wipe vs
        refine ⟨_, wipeD ρ vs, μ2, d, _, ⟨o3, sl3⟩, r3, w2, fun ρ4 σ4 w4 sl4 ww => ⟨by rw [ww vs hv, wipe_wipe], _, ρ4, μ2, _, ⟨o3, sl4⟩, w4, fun b μ5 H5 p5 o5 s5 => ?_⟩⟩
        cases b with
        | false => exact iteF ⟨μ5, acc, accV, o5, (s2.trans s3).trans s5, r2.mono (s3.trans s5), p5⟩
        | true =>
          refine iteT ⟨_, ρ4, μ5, _, ⟨o5, sl4.mono s5⟩, p5, fun y μ6 v H6 p6 o6 s6 r6 => ⟨accV, o6.fr D _ upd_same, ?_, ?_⟩⟩
          · rw [r2.length]
            exact p6.1
          · obtain ⟨o7, e7⟩ := o6.reframe (o' := .lst (accV ++ [v])) ng
            refine ⟨μ6, acc ++ [y], accV ++ [v], o7, ?_, ?_, p6.2⟩
            · rw [e7]
              exact ((s2.trans s3).trans s5).trans s6
            · rw [e7]
              exact (r2.mono ((s3.trans s5).trans s6)).append (.cons r6 .nil)
    · have e' : i = xs.length := by omega
      subst e'
      rw [List.drop_length] at w2
      obtain ⟨o4, s4, h4⟩ := o2.unframe rn ng
      exact .inl ⟨it.stop _ μ2 H2 _ o2 s2 (Nat.le_refl _), k _ μ2 _ H2 w2 o4 (s1.trans (s2.trans s4)) (.lst h4 (r2.mono s4))⟩⟩
def wYes : WT := fun _ μ P => P true μ
theorem PTs.imp {X : Cx} {es : List Expr} {t t' : TT} (h : PTs X es t) (i : ∀ σ H Q, t' σ H Q → t σ H Q) : PTs X es t' := ⟨fun pins s σ H Q I w => h.run pins s σ H Q I (i _ _ _ w)⟩
theorem dts_nil : PTs X [] (tDT X.K wYes) := PTs.imp pts_nil fun σ H Q ⟨R, ρ, μ, P, a, w, k⟩ => k true μ H w a.ok (Same.refl _)
theorem d_lc (hi : PI X tg iter (tDI X.K ws)) (ok : BlkOk X.N X.env.scope scope own)
    (hg : ∀ (s : Shared) (H : Hp) (C : Addr) (cl : List (Str × Addr)) (fp : List Addr), PG (X.blk s H scope (compEnvC scope cl C X.env) fp) tg (tDG X.K sl g)) (ht : ∀ (s : Shared) (H : Hp) (C : Addr) (cl : List (Str × Addr)) (fp : List Addr), PTs (X.blk s H scope (compEnvC scope cl C X.env) fp) ifs (tDT X.K t))
    (he : ∀ (s : Shared) (H : Hp) (C : Addr) (cl : List (Str × Addr)) (fp : List Addr), PE (X.blk s H scope (compEnvC scope cl C X.env) fp) elt (tD X.K e)) (hN : X.N.Nodup) (hv : ∀ i ∈ sl, i ∈ own.map (·.2) := by decide) (hc : X.calm = true := by rfl) (hs : ∀ x, foldedSetIterable iter X.env x = pure x := by intro _; rfl) :
    PE X (.ListComp elt [⟨tg, iter, ifs, 0⟩] scope pos) (tD X.K (wLc ws g t e (own.map (·.2)))) := PE.imp (pe_lc hc hN hi ok hg ht he hs) (lc_imp hv)
theorem ds_setLc {i : Nat} {y : Str} {py spos : Pos} (hy : X.N[i]? = some y) (hyl : X.env.scope.names.lookup y = some .local) (hsw : swapsWith (.ListComp elt [⟨tg, iter, ifs, 0⟩] scope pos) (some (.Name y py)) spos.line X.env = pure true) (hi : PI X tg iter (tDI X.K ws)) (ok : BlkOk X.N X.env.scope scope own)
    (hg : ∀ (s : Shared) (H : Hp) (C : Addr) (cl : List (Str × Addr)) (fp : List Addr), PG (X.blk s H scope (compEnvC scope cl C X.env) fp) tg (tDG X.K sl g)) (ht : ∀ (s : Shared) (H : Hp) (C : Addr) (cl : List (Str × Addr)) (fp : List Addr), PTs (X.blk s H scope (compEnvC scope cl C X.env) fp) ifs (tDT X.K t))
    (he : ∀ (s : Shared) (H : Hp) (C : Addr) (cl : List (Str × Addr)) (fp : List Addr), PE (X.blk s H scope (compEnvC scope cl C X.env) fp) elt (tD X.K e)) (hN : X.N.Nodup) (hv : ∀ i ∈ sl, i ∈ own.map (·.2) := by decide) (hc : X.calm = true := by rfl) (hs : ∀ x, foldedSetIterable iter X.env x = pure x := by intro _; rfl) :
    PS X (.Assign [.Name y py] (.ListComp elt [⟨tg, iter, ifs, 0⟩] scope pos) spos) (tDS X.K (wAsg (wLc ws g t e (own.map (·.2))) (wgName i))) :=
  PS.imp (ps_setLc hc hN hy hyl hsw hi ok hg ht he hs) fun D σ H ⟨R, ρ, μ, E, a, w, k⟩ => lc_imp hv σ H _ ⟨R, ρ, μ, _, a, w, fun d μ1 v H1 p1 o1 s1 i1 => k.nx _ μ1 _ H1 p1 ⟨o1, (a.sl.mono s1).set i i1⟩ s1⟩
end
section
variable {P : Program} {w0 : World} {K : PySem.W.Frag} {mg : Str → Option Value} {base : Heap}
omit γ in
theorem fn_datC {x qual : Str} {st : Stmt} {f : Addr} {fd : FuncData} {N ps : List Str} {k n : Nat} {w : WS} {wf : WF} (F : Fun K x qual st f fd) (S : FnScope N ps (defScope st)) (hn : ps.length = n)
    (hb : ∀ (cdv : Value), fd.code = cdv → ∀ (A : Around) (outer : List Env) (s : Shared) (H : Hp) (E : XK), A.guards = some [] → Room k (A.deeper (envOfC qual (defScope st) s.heap.objs.size f cdv)) →
      PSs (cxOf CX0 P w0 K mg base N qual (defScope st) f cdv A outer s H E).nox (defBody st) (@tDS Gd.non K w))
    (hw : ∀ ds μ Q, ds.length = n → wf ds μ Q → w { nx := fun _ μ' => Q .none μ', rt := Q } (ds.map some ++ List.replicate (N.length - n) none) μ) : FnG P w0 K mg base (k + 1) f fd ps (spD K n wf) := by
  letI γ : Gd := Gd.non
  refine fng_of F S (fun vs H Q E h => ?_) (fun cdv hcd A outer s H vs Q E hgd hr h => ?_)
  · obtain ⟨R, ds, μ, P', o, r, l, _⟩ := h
    rw [r.length, l, hn]
  · obtain ⟨R, ds, μ, P', o, r, l, w1, k1⟩ := h
    refine ⟨_, hb cdv hcd A outer s H E hgd hr, R, _, μ, _, ⟨o, ?_⟩, hw ds μ P' l w1, ⟨fun ρ' μ' σ' H' p a' s' => ?_, k1, fun _ _ _ _ p => p.elim, fun _ _ _ _ p => p.elim⟩⟩
    · rw [← l]
      exact Sl.start r
    · exact k1 .none μ' .non H' p a'.ok s' .none
omit γ in
theorem fn_dat {x qual : Str} {st : Stmt} {f : Addr} {fd : FuncData} {N ps : List Str} {k n : Nat} {w : WS} {wf : WF} (F : Fun K x qual st f fd) (S : FnScope N ps (defScope st)) (hn : ps.length = n)
    (hb : ∀ (cdv : Value) (A : Around) (outer : List Env) (s : Shared) (H : Hp) (E : XK), A.guards = some [] → Room k (A.deeper (envOfC qual (defScope st) s.heap.objs.size f cdv)) →
      PSs (cxOf CX0 P w0 K mg base N qual (defScope st) f cdv A outer s H E).nox (defBody st) (@tDS Gd.non K w))
    (hw : ∀ ds μ Q, ds.length = n → wf ds μ Q → w { nx := fun _ μ' => Q .none μ', rt := Q } (ds.map some ++ List.replicate (N.length - n) none) μ) : FnG P w0 K mg base (k + 1) f fd ps (spD K n wf) :=
  fn_datC F S hn (fun cdv _ => hb cdv) hw
end
section
variable {X : Cx} {k n : Nat} {f : Addr} {fd : FuncData} {ps : List Str} {wf : WF} {x : Str} {p pos : Pos} {e : Expr} {es : List Expr} {wa wk : WA}
def wCall (n : Nat) (wf : WF) (wa : WA) : WE := fun ρ μ P => wa ρ μ fun ds μ1 => ds.length = n ∧ wf ds μ1 P
def wCallD (n : Nat) (wf : WF) (dds : List DV) (wa : WA) : WE := fun ρ μ P => wa ρ μ fun ds μ1 => (ds ++ dds).length = n ∧ wf (ds ++ dds) μ1 P
theorem call_imp {K : PySem.W.Frag} {dvs : List V} {dds : List DV} (hd : ∀ H, Iss K H dvs dds) : ∀ σ H Q, tD K (wCallD n wf dds wa) σ H Q → tCall (spD K n wf) dvs E0 (tDA K wa) σ H Q := fun σ H Q ⟨R, ρ, μ, P, a, w, k⟩ =>
  ⟨R, ρ, μ, _, a, w, fun ds μ1 vs H1 p1 o1 s1 i1 => ⟨R, ds ++ dds, μ1, P, o1.non, i1.append (hd _), p1.1, p1.2, (k.step s1).non o1⟩⟩
/-- with the defaults of the last parameters -/
theorem d_callD {dvs : List V} {us : List Value} {dds : List DV} (hd : ∀ H, Iss X.K H dvs dds) (F : FnG X.prog X.w X.K X.mg X.base k f fd ps (spD X.K n wf)) (hgd : X.A.guards = some []) (hr : Room k X.A) (hg : Gl X x) (hm : X.mg x = some (.ref f)) (hk : PySem.W.keepIn X.K (.ref f) = true) (hb : Binds X.K fd ps us) (hv : Vals dvs us) (ha : PA X (e :: es) (tDA X.K wa))
    (hdb : (x == ("__debug__" : Str)) = false := by decide) (he : starEach (e :: es) X.env = (false, eval e X.env) :: starEach es X.env := by rfl) (hpl : (backTo pos (starEach es X.env)).any (·.1) = false := by rfl) :
    PE X (.Call (.Name x p) (e :: es) [] pos) (tD X.K (wCallD n wf dds wa)) :=
  PE.imp (peg_call F hgd hr hg hm hk hb hv ha hdb he hpl) (call_imp hd)
theorem d_call (F : FnG X.prog X.w X.K X.mg X.base k f fd ps (spD X.K n wf)) (hgd : X.A.guards = some []) (hr : Room k X.A) (hg : Gl X x) (hm : X.mg x = some (.ref f)) (hk : PySem.W.keepIn X.K (.ref f) = true) (hb : Binds X.K fd ps []) (ha : PA X (e :: es) (tDA X.K wa)) (hd : (x == ("__debug__" : Str)) = false := by decide)
    (he : starEach (e :: es) X.env = (false, eval e X.env) :: starEach es X.env := by rfl) (hpl : (backTo pos (starEach es X.env)).any (·.1) = false := by rfl) : PE X (.Call (.Name x p) (e :: es) [] pos) (tD X.K (wCall n wf wa)) :=
  PE.imp (d_callD (dvs := []) (dds := []) (fun _ => .nil) F hgd hr hg hm hk hb .nil ha hd he hpl) fun σ H Q ⟨R, ρ, μ, P, a, w, k⟩ => ⟨R, ρ, μ, P, a, by simpa [wCall, wCallD] using w, k⟩
end
end Dz
set_option Elab.async false
set_option linter.all false
set_option maxRecDepth 100000
set_option maxHeartbeats 4000000
namespace Dz
open PySem L2
variable [γ : Gd]
abbrev WB := List DV → Mh → (DV → Mh → Prop) → Prop
def RAD (K : PySem.W.Frag) (r : List V → Hp → VK → Prop) (w : WB) : Prop := ∀ R μ H vs ds P Q, Ok K R μ H → Iss K (hid R μ H) vs ds → w ds μ P → Nxt K R μ H P Q → r vs H Q
def wB (wb : WB) (wa : WA) : WE := fun ρ μ P => wa ρ μ fun ds μ1 => wb ds μ1 P
section
variable {X : Cx} {x : Str} {p pos : Pos} {e : Expr} {es : List Expr} {wa : WA} {id T : String} {r : List V → Hp → VK → Prop} {wb : WB} {w : WE}
theorem cb_imp {K : PySem.W.Frag} (hr : RAD K r wb) : ∀ σ H Q, tD K (wB wb wa) σ H Q → tCB r (tDA K wa) σ H Q := fun σ H Q ⟨R, ρ, μ, P, a, w, k⟩ =>
  ⟨R, ρ, μ, _, a, w, fun ds μ1 vs H1 p1 o1 s1 i1 => hr R μ1 H1 vs ds P Q o1 i1 p1 (k.step s1)⟩
theorem d_callB (hc : CallR X (.builtin id) r) (hr : RAD X.K r wb) (hg : Gl X x) (hm : X.mg x = none) (hv : bootBuiltins x = some (.builtin id)) (ha : PA X (e :: es) (tDA X.K wa)) (hn : x ≠ "__name__" := by decide) (hdb : (x == ("__debug__" : Str)) = false := by decide)
    (he : starEach (e :: es) X.env = (false, eval e X.env) :: starEach es X.env := by rfl) (hpl : (backTo pos (starEach es X.env)).any (·.1) = false := by rfl) : PE X (.Call (.Name x p) (e :: es) [] pos) (tD X.K (wB wb wa)) :=
  PE.imp (pe_callB hc hg hm hv ha hn hdb he hpl) (cb_imp hr)
theorem d_callTy (hc : CallR X (.type T) r) (hr : RAD X.K r wb) (hg : Gl X x) (hm : X.mg x = none) (hv : bootBuiltins x = some (.type T)) (ha : PA X (e :: es) (tDA X.K wa)) (hn : x ≠ "__name__" := by decide) (hdb : (x == ("__debug__" : Str)) = false := by decide)
    (he : starEach (e :: es) X.env = (false, eval e X.env) :: starEach es X.env := by rfl) (hpl : (backTo pos (starEach es X.env)).any (·.1) = false := by rfl) : PE X (.Call (.Name x p) (e :: es) [] pos) (tD X.K (wB wb wa)) :=
  PE.imp (pe_callTy hc hg hm hv ha hn hdb he hpl) (cb_imp hr)
end
def wLen : WB
  | [.lst ds], μ, P => P (.int (ds.length : Int)) μ
  | [.tup ds], μ, P => P (.int (ds.length : Int)) μ
  | [.str z], μ, P => z.length ≤ sizeLine ∧ P (.int (z.length : Int)) μ
  | [.obj a], μ, P => match μ a with | some (.lst ds) => P (.int (ds.length : Int)) μ | _ => False
  | _, _, _ => False
def wTuple : WB
  | [.lst ds], μ, P => P (.tup ds) μ
  | [.tup ds], μ, P => P (.tup ds) μ
  | [.obj a], μ, P => match μ a with | some (.lst ds) => P (.tup ds) μ | _ => False
  | _, _, _ => False
def wList : WB
  | [.lst ds], μ, P => P (.lst ds) μ
  | [.tup ds], μ, P => P (.lst ds) μ
  | [.obj a], μ, P => match μ a with | some (.lst ds) => P (.lst ds) μ | _ => False
  | _, _, _ => False
def wInt1 : WB
  | [.int i], μ, P => P (.int i) μ
  | [.bool b], μ, P => P (.int (if b then 1 else 0)) μ
  | _, _, _ => False
section
variable {K : PySem.W.Frag} {X : Cx}
theorem Iss.one {H : Hp} {vs : List V} {d : DV} (h : Iss K H vs [d]) : ∃ v, vs = [v] ∧ Is K H v d := by
  cases h with
  | cons a b => cases b; exact ⟨_, rfl, a⟩
theorem len_rd : RAD K (fun xs H Q => ∃ x n, xs = [x] ∧ LenV K x H n ∧ Q (.int n) H) wLen := by
  intro R μ H vs ds P Q o i w k
  match ds, w with
  | [.lst ds], w =>
    obtain ⟨v, rfl, i1⟩ := i.one
    cases i1 with | lst hx rx => exact ⟨_, _, rfl, .inl ⟨_, SqL.of (hid_le _ _ hx), rfl⟩, by rw [rx.length]; exact k.val o w (.int _)⟩
  | [.tup ds], w =>
    obtain ⟨v, rfl, i1⟩ := i.one
    cases i1 with | tup hx rx => exact ⟨_, _, rfl, .inr ⟨_, Same.seqT hid_le hx.t, rfl⟩, by rw [rx.length]; exact k.val o w (.int _)⟩
  | [.str z], w =>
    obtain ⟨v, rfl, i1⟩ := i.one
    cases i1 with | str z => exact ⟨_, _, rfl, ⟨w.1, rfl⟩, k.val o w.2 (.int _)⟩
  | [.obj a], w =>
    obtain ⟨v, rfl, i1⟩ := i.one
    have w' : (match μ a with | some (.lst ds) => P (.int (ds.length : Int)) μ | _ => False) := w
    split at w'
    · rename_i ds e
      obtain ⟨xs, h1, r⟩ := o.ob a _ e
      cases i1
      exact ⟨_, _, rfl, .inl ⟨_, SqL.of h1, rfl⟩, by rw [r.length]; exact k.val o w' (.int _)⟩
    · exact w'.elim
theorem tuple_rd : RAD K (fun xs H Q => ∃ p ys, xs = [.ref p] ∧ ((SqL K H p ys ∧ ∀ l o, H l = none → NewT o → Q (.ref l) (upd H l (.frz o (.tup ys)))) ∨ (SqT K H p ys ∧ Q (.ref p) H))) wTuple := by
  intro R μ H vs ds P Q o i w k
  match ds, w with
  | [.lst ds], w =>
    obtain ⟨v, rfl, i1⟩ := i.one
    cases i1 with | lst hx rx => exact ⟨_, _, rfl, .inl ⟨SqL.of (hid_le _ _ hx), fun l t n nt => k.tup nt o w rx n⟩⟩
  | [.tup ds], w =>
    obtain ⟨v, rfl, i1⟩ := i.one
    cases i1 with | tup hx rx => exact ⟨_, _, rfl, .inr ⟨Same.seqT hid_le hx.t, k.val o w (.tup hx rx)⟩⟩
  | [.obj a], w =>
    obtain ⟨v, rfl, i1⟩ := i.one
    have w' : (match μ a with | some (.lst ds) => P (.tup ds) μ | _ => False) := w
    split at w'
    · rename_i ds e
      obtain ⟨xs, h1, r⟩ := o.ob a _ e
      cases i1
      exact ⟨_, _, rfl, .inl ⟨SqL.of h1, fun l t n nt => k.tup nt o w' r n⟩⟩
    · exact w'.elim
theorem list_rd : RAD K (fun xs H Q => ∃ p ys, xs = [.ref p] ∧ (SqL K H p ys ∨ SqT K H p ys) ∧ ∀ l, H l = none → Q (.ref l) (upd H l (.lst ys))) wList := by
  intro R μ H vs ds P Q o i w k
  match ds, w with
  | [.lst ds], w =>
    obtain ⟨v, rfl, i1⟩ := i.one
    cases i1 with | lst hx rx => exact ⟨_, _, rfl, .inl (SqL.of (hid_le _ _ hx)), fun l n => k.lst o w rx n⟩
  | [.tup ds], w =>
    obtain ⟨v, rfl, i1⟩ := i.one
    cases i1 with | tup hx rx => exact ⟨_, _, rfl, .inr (Same.seqT hid_le hx.t), fun l n => k.lst o w rx n⟩
  | [.obj a], w =>
    obtain ⟨v, rfl, i1⟩ := i.one
    have w' : (match μ a with | some (.lst ds) => P (.lst ds) μ | _ => False) := w
    split at w'
    · rename_i ds e
      obtain ⟨xs, h1, r⟩ := o.ob a _ e
      cases i1
      exact ⟨_, _, rfl, .inl (SqL.of h1), fun l n => k.lst o w' r n⟩
    · exact w'.elim
theorem int1_rd : RAD K (fun xs H Q => (∃ i, xs = [.int i] ∧ Q (.int i) H) ∨ ∃ k, xs = [.bl k] ∧ Q (.int (if k then 1 else 0)) H) wInt1 := by
  intro R μ H vs ds P Q o i w k
  match ds, w with
  | [.int j], w =>
    obtain ⟨v, rfl, i1⟩ := i.one
    cases i1
    exact .inl ⟨j, rfl, k.val o w (.int _)⟩
  | [.bool b], w =>
    obtain ⟨v, rfl, i1⟩ := i.one
    cases i1
    exact .inr ⟨b, rfl, k.val o w (.int _)⟩
variable {e a b : Expr} {es : List Expr} {wa : WA} {w wx wy : WE} {p pos : Pos}
theorem d_len (hg : Gl X "len") (hm : X.mg "len" = none) (ha : PE X e (tD X.K w)) (hs : starEach [e] X.env = [(false, eval e X.env)] := by rfl) : PE X (.Call (.Name "len" p) [e] [] pos) (tD X.K (wB wLen (wCons w wNil))) :=
  d_callB call_len len_rd hg hm PySem.boot_len (da_cons ha da_nil hs) (by decide) (by decide) hs rfl
theorem d_tuple (hg : Gl X "tuple") (hm : X.mg "tuple" = none) (ha : PE X e (tD X.K w)) (hs : starEach [e] X.env = [(false, eval e X.env)] := by rfl) : PE X (.Call (.Name "tuple" p) [e] [] pos) (tD X.K (wB wTuple (wCons w wNil))) :=
  d_callTy call_tupleN tuple_rd hg hm (by decide +kernel) (da_cons ha da_nil hs) (by decide) (by decide) hs rfl
theorem d_list (hg : Gl X "list") (hm : X.mg "list" = none) (ha : PE X e (tD X.K w)) (hs : starEach [e] X.env = [(false, eval e X.env)] := by rfl) : PE X (.Call (.Name "list" p) [e] [] pos) (tD X.K (wB wList (wCons w wNil))) :=
  d_callTy call_list_of list_rd hg hm (by decide +kernel) (da_cons ha da_nil hs) (by decide) (by decide) hs rfl
theorem d_int1 (hg : Gl X "int") (hm : X.mg "int" = none) (ha : PE X e (tD X.K w)) (hs : starEach [e] X.env = [(false, eval e X.env)] := by rfl) : PE X (.Call (.Name "int" p) [e] [] pos) (tD X.K (wB wInt1 (wCons w wNil))) :=
  d_callTy call_int1 int1_rd hg hm (by decide +kernel) (da_cons ha da_nil hs) (by decide) (by decide) hs rfl
inductive Ty where
  | none | bool | int | str | tup | lst | dct
def Ty.name : Ty → String
  | .none => "NoneType" | .bool => "bool" | .int => "int" | .str => "str" | .tup => "tuple" | .lst => "list" | .dct => "dict"
end
end Dz
set_option Elab.async false
set_option linter.all false
set_option maxRecDepth 100000
set_option maxHeartbeats 4000000
namespace Dz
open PySem L2
variable [γ : Gd]
def ReadsIn (h : Heap) (v : Value) (d : PyData) : Prop := ∃ as, Reads h v d as ∧ sysModules ∉ as
def ReadsInAll (h : Heap) (vs : List Value) (ds : List PyData) : Prop := ∃ as, ReadsAll h vs ds as ∧ sysModules ∉ as
theorem ReadsInAll.cons {h : Heap} {v : Value} {d : PyData} {vs : List Value} {ds : List PyData} (a : ReadsIn h v d) (b : ReadsInAll h vs ds) : ReadsInAll h (v :: vs) (d :: ds) := by
  obtain ⟨as, r1, n1⟩ := a
  obtain ⟨bs, r2, n2⟩ := b
  exact ⟨_, .cons r1 r2, fun m => (List.mem_append.mp m).elim n1 n2⟩
section
variable {X : Cx} {pins : List (Addr × Obj)} {σ : L2.St} {H : Hp} {s : Shared}
theorem ne_sys (I : Inv X pins σ H s) (hs : ∃ o, X.base.get? sysModules = some o) {a : Addr} {u : HO} (h : H a = some u) : sysModules ≠ a := by
  obtain ⟨o, e⟩ := hs
  intro z
  subst z
  rw [(I.bs _ _ e).2] at h
  cases h
theorem key_reads {h : Heap} : ∀ {es : List DictEntry} {vs : List (Key × Value)} {P : Program} {w : World}, Pairs (mixKind P w) es vs → ReadsInAll h (es.map (·.key)) (vs.map fun kv => keyPy kv.1)
  | _, _, _, _, .nil => ⟨[], .nil, by simp⟩
  | _, _, _, _, .cons h1 h2 r => by
    refine ReadsInAll.cons ?_ (key_reads r)
    rcases keyIs_shape h1 with ⟨i, t, e1, e2⟩ | ⟨i, t, e1, e2⟩
    · show ReadsIn h (DictEntry.key _) (keyPy (Prod.fst _))
      rw [e1, e2]
      exact ⟨[], .int i t, by simp⟩
    · show ReadsIn h (DictEntry.key _) (keyPy (Prod.fst _))
      rw [e1, e2]
      exact ⟨[], .str i t, by simp⟩
theorem vals_eq {es : List DictEntry} {vs : List (Key × Value)} {P : Program} {w : World} (r : Pairs (mixKind P w) es vs) : es.map (·.val) = vs.map (·.2) := by
  induction r with
  | nil => rfl
  | cons h1 h2 _ ih => rw [List.map_cons, List.map_cons, h2, ih]
theorem toPyKv_keys : ∀ ds : List (Key × DV), (toPyKv ds).map (·.1) = ds.map fun kv => keyPy kv.1
  | [] => rfl
  | (k, d) :: r => by rw [toPyKv, List.map_cons, List.map_cons, toPyKv_keys r]
theorem toPyKv_vals : ∀ ds : List (Key × DV), (toPyKv ds).map (·.2) = toPys (ds.map (·.2))
  | [] => rfl
  | (k, d) :: r => by rw [toPyKv, List.map_cons, List.map_cons, toPyKv_vals r]; rfl
theorem noObjKv_vals : ∀ ds : List (Key × DV), noObjKv ds = noObjs (ds.map (·.2))
  | [] => rfl
  | (k, d) :: r => by rw [noObjKv, List.map_cons, noObjKv_vals r]; rfl
theorem kv_vals {κ : Type} {kvs : List (κ × V)} {vs : List (κ × Value)} (r : KV kvs vs) : Vals (kvs.map (·.2)) (vs.map (·.2)) := by
  unfold KV at r
  induction r with
  | nil => exact .nil
  | cons q _ ih => exact .cons q.2 ih
mutual
theorem Is.reads (I : Inv X pins σ H s) (hs : ∃ o, X.base.get? sysModules = some o) : ∀ {v : V} {d : DV} {u : Value}, Is X.K H v d → noObj d = true → RelV v u → ReadsIn s.heap u (toPy d)
  | _, _, _, .none, _, r => by cases r; exact ⟨_, .none, by simp⟩
  | _, _, _, .bool b, _, r => by cases r; exact ⟨_, .bool b, by simp⟩
  | _, _, _, .int i, _, r => by obtain ⟨t, rfl⟩ := r; exact ⟨_, .int i t, by simp⟩
  | _, _, _, .str i, _, r => by obtain ⟨t, rfl⟩ := r; exact ⟨_, .str i t, by simp⟩
  | _, _, _, .tup h rr, n, r => by
    cases r
    obtain ⟨its, rv, ⟨o, ho, hc, m, hd⟩, _⟩ := I.tuple h.t
    obtain ⟨as, hr, ns⟩ := Iss.reads I hs rr n rv
    exact ⟨_, .tuple ho hc hd hr, ns⟩
  | _, _, _, .lst h rr, n, r => by
    cases r
    obtain ⟨its, rv, ⟨o, m, ho, hc, _, hd⟩, _⟩ := I.list (SqL.of h)
    obtain ⟨as, hr, ns⟩ := Iss.reads I hs rr n rv
    exact ⟨_, .list ho hc hd hr, fun z => (List.mem_cons.mp z).elim (ne_sys I hs h) ns⟩
  | _, _, _, .dct (a := a) (kvs := kvs) (ds := ds) h k rr, n, r => by
    cases r
    obtain ⟨_, _, vs, rv, ob, es, ep, ho, hx, hd, _, pr, _⟩ := (show ObjOk X.prog X.w H s.heap a (.dK kvs) from I.hok a _ h)
    have rv2 : Vals (kvs.map (·.2)) (vs.map (·.2)) := kv_vals rv
    obtain ⟨as, r1, n1⟩ := key_reads (h := s.heap) pr
    obtain ⟨bs, r2, n2⟩ := Iss.reads I hs rr (by rw [← noObjKv_vals]; exact n) rv2
    have kk : vs.map (fun kv => keyPy kv.1) = (toPyKv ds).map (·.1) := by
      rw [toPyKv_keys]
      have e1 : vs.map (·.1) = ds.map (·.1) := rv.keys.symm.trans k
      have e2 := congrArg (List.map keyPy) e1
      rw [List.map_map, List.map_map] at e2
      exact e2
    rw [kk] at r1
    rw [← vals_eq pr, ← toPyKv_vals] at r2
    exact ⟨_, .dict ho hx.1 hd r1 r2, fun z => (List.mem_append.mp z).elim (fun z => (List.mem_cons.mp z).elim (ne_sys I hs h) n1) n2⟩
  | _, _, _, .obj _, n, _ => absurd (show false = true from n) Bool.false_ne_true
  | _, _, _, .fix _ _, n, _ => absurd (show false = true from n) Bool.false_ne_true
  | _, _, _, .dn _ _ _ _ _ _, n, _ => absurd (show false = true from n) Bool.false_ne_true
theorem Iss.reads (I : Inv X pins σ H s) (hs : ∃ o, X.base.get? sysModules = some o) : ∀ {vs : List V} {ds : List DV} {us : List Value}, Iss X.K H vs ds → noObjs ds = true → Vals vs us → ReadsInAll s.heap us (toPys ds)
  | _, _, _, .nil, _, r => by cases r; exact ⟨_, .nil, by simp⟩
  | _, _, _, .cons h rr, n, r => by
    cases r with
    | cons r1 r2 =>
      have n' := Bool.and_eq_true_iff.mp n
      exact ReadsInAll.cons (Is.reads I hs h n'.1 r1) (Iss.reads I hs rr n'.2 r2)
end
end
/-- data whose text the model can write -/
structure Shows (d : DV) : Prop where
  no : noObj d = true
  sh : (toPy d).showable = true
  len : (toPy d).shown.length ≤ sizeLine
  dep : (toPy d).depth ≤ 60
def shownD (d : DV) : Str := (toPy d).shown
def wRepr : WB
  | [d], μ, P => Shows d ∧ P (.str (shownD d)) μ
  | _, _, _ => False
def rReprD (K : PySem.W.Frag) : List V → Hp → VK → Prop := fun xs H Q => ∃ x d, xs = [x] ∧ Is K H x d ∧ Shows d ∧ Q (.str (shownD d)) H
section
variable {X : Cx}
theorem call_reprD {k : Nat} (hg : X.A.guards = some []) (hr : Room k X.A) (hs : ∃ o, X.base.get? sysModules = some o) : CallR X (.builtin "repr") (rReprD X.K) := by
  intro pins s σ H xs us Q I r h
  obtain ⟨x, d, rfl, i, S, q⟩ := h
  obtain ⟨u, rfl, rx⟩ := vals1 r
  have hu := hr.un
  cases i with
  | none =>
    cases rx
    exact PySem.P.repr_of_none ⟨.str _, H, I.tok _, ⟨_, rfl⟩, q⟩
  | bool b =>
    cases rx
    exact PySem.P.repr_of_bool ⟨.str _, H, I.tok _, ⟨_, rfl⟩, q⟩
  | int j =>
    obtain ⟨t, rfl⟩ := rx
    exact PySem.P.repr_of_int (by have := S.sh; simpa [toPy, PyData.showable] using this) ⟨.str _, H, I.tok _, ⟨_, rfl⟩, q⟩
  | str z =>
    obtain ⟨t, rfl⟩ := rx
    exact PySem.P.repr_of_str ⟨.str _, H, I.tok _, ⟨_, rfl⟩, q⟩ S.len
  | obj a => exact absurd (show false = true from S.no) Bool.false_ne_true
  | fix _ _ => exact absurd (show false = true from S.no) Bool.false_ne_true
  | dn _ _ _ _ _ _ => exact absurd (show false = true from S.no) Bool.false_ne_true
  | tup h rr =>
    obtain ⟨as, rd, ns⟩ := Is.reads I hs (.tup h rr) S.no rx
    cases rx
    refine repr_of_reads' rd S.sh (fun _ => ns) hg (by have := S.dep; omega) (fun _ _ e => e) (fun h' v tk hk => ?_) S.len
    exact ⟨.str _, H, I.kept hk, ⟨_, rfl⟩, q⟩
  | lst h rr =>
    obtain ⟨as, rd, ns⟩ := Is.reads I hs (.lst h rr) S.no rx
    cases rx
    refine repr_of_reads' rd S.sh (fun _ => ns) hg (by have := S.dep; omega) (fun _ _ e => e) (fun h' v tk hk => ?_) S.len
    exact ⟨.str _, H, I.kept hk, ⟨_, rfl⟩, q⟩
  | dct h kk rr =>
    obtain ⟨as, rd, ns⟩ := Is.reads I hs (.dct h kk rr) S.no rx
    cases rx
    refine repr_of_reads' rd S.sh (fun _ => ns) hg (by have := S.dep; omega) (fun _ _ e => e) (fun h' v tk hk => ?_) S.len
    exact ⟨.str _, H, I.kept hk, ⟨_, rfl⟩, q⟩
theorem repr_rd {K : PySem.W.Frag} : RAD K (rReprD K) wRepr := by
  intro R μ H vs ds P Q o i w k
  match ds, w with
  | [d], w =>
    obtain ⟨v, rfl, i1⟩ := i.one
    exact ⟨v, d, rfl, i1.up, w.1, k.val o w.2 (.str _)⟩
theorem d_repr {k : Nat} {e : Expr} {w : WE} {p pos : Pos} (hgd : X.A.guards = some []) (hr : Room k X.A) (hsm : ∃ o, X.base.get? sysModules = some o) (hg : Gl X "repr") (hm : X.mg "repr" = none) (ha : PE X e (tD X.K w)) (hs : starEach [e] X.env = [(false, eval e X.env)] := by rfl) :
    PE X (.Call (.Name "repr" p) [e] [] pos) (tD X.K (wB wRepr (wCons w wNil))) :=
  d_callB (call_reprD hgd hr hsm) repr_rd hg hm (by decide +kernel) (da_cons ha da_nil hs) (by decide) (by decide) hs rfl
def wPairs : List (Key × WE) → Rho → Mh → (List (Key × DV) → Mh → Prop) → Prop
  | [], _, μ, P => P [] μ
  | (k, w) :: r, ρ, μ, P => w ρ μ fun d μ1 => wPairs r ρ μ1 fun ds μ2 => P ((k, d) :: ds) μ2
/-- a dict as data: the keys written, each once -/
def wDct (ws : List (Key × WE)) : WE := fun ρ μ P => wPairs ws ρ μ fun ds μ1 => P (.dct ds) μ1
end
def ltB : DV → DV → Bool
  | .int i, .int j => decide (i < j)
  | .str s, .str t => ltS s t
  | _, _ => false
def cmpB : DV → DV → Bool
  | .int _, .int _ => true
  | .str _, .str _ => true
  | _, _ => false
/-- place by place of one kind, ints or texts -/
def cmpAll : List DV → List DV → Bool
  | x :: xs, y :: ys => cmpB x y && cmpAll xs ys
  | _, _ => true
def lexB : List DV → List DV → Bool
  | [], [] => false
  | [], _ :: _ => true
  | _ :: _, [] => false
  | x :: xs, y :: ys => if eqF x y = true then lexB xs ys else ltB x y
def eAt (xs ys : List DV) (j : Nat) : Bool := match xs[j]?, ys[j]? with | some x, some y => eqF x y | _, _ => true
def rAt (xs ys : List DV) (j : Nat) : Bool := match xs[j]?, ys[j]? with | some x, some y => ltB x y | _, _ => false
theorem lexAt_shift {z : Bool} : ∀ (k i : Nat) (e r e' r' : Nat → Bool), (∀ j, e' j = e (j + 1)) → (∀ j, r' j = r (j + 1)) → Ob.lexAt e r z (i + 1) k = Ob.lexAt e' r' z i k
  | 0, _, _, _, _, _, _, _ => rfl
  | k + 1, i, e, r, e', r', he, hr => by
    rw [Ob.lexAt_succ, Ob.lexAt_succ, lexAt_shift k (i + 1) e r e' r' he hr, he, hr]
theorem lexAt_lexB : ∀ xs ys : List DV, Ob.lexAt (eAt xs ys) (rAt xs ys) (decide (xs.length < ys.length)) 0 (min xs.length ys.length) = lexB xs ys
  | [], [] => rfl
  | [], _ :: _ => by simp [Ob.lexAt_zero, lexB]
  | _ :: _, [] => by simp [Ob.lexAt_zero, lexB]
  | x :: xs, y :: ys => by
    have h : min (x :: xs).length (y :: ys).length = min xs.length ys.length + 1 := by simp only [List.length_cons]; omega
    have hz : decide ((x :: xs).length < (y :: ys).length) = decide (xs.length < ys.length) := by simp
    rw [h, hz, Ob.lexAt_succ, lexAt_shift _ 0 (eAt (x :: xs) (y :: ys)) (rAt (x :: xs) (y :: ys)) (eAt xs ys) (rAt xs ys) (fun j => by simp [eAt]) (fun j => by simp [rAt]), lexAt_lexB xs ys]
    rfl
theorem cmpAll_at : ∀ {xs ys : List DV} {j : Nat} {x y : DV}, cmpAll xs ys = true → xs[j]? = some x → ys[j]? = some y → cmpB x y = true
  | [], _, j, _, _, _, h, _ => by simp at h
  | _ :: _, [], j, _, _, _, _, h => by simp at h
  | a :: xs, b :: ys, 0, x, y, c, h1, h2 => by
    simp at h1 h2
    subst h1 h2
    exact (Bool.and_eq_true_iff.mp c).1
  | a :: xs, b :: ys, j + 1, x, y, c, h1, h2 => cmpAll_at (j := j) (Bool.and_eq_true_iff.mp c).2 (by simpa using h1) (by simpa using h2)
def rLtTD (K : PySem.W.Frag) : R2 := fun x y H Q => ∃ a b xs ys dx dy, x = .ref a ∧ y = .ref b ∧ SqT K H a xs ∧ SqT K H b ys ∧ Iss K H xs dx ∧ Iss K H ys dy ∧ cmpAll dx dy = true ∧ Q (.bl (lexB dx dy)) H
theorem op_ltTD {X : Cx} (hu : X.A.units < cLine) : OpR X (compareOp .Lt) (rLtTD X.K) := by
  intro pins s σ H x y v u Q I rx ry h
  obtain ⟨a, b, xs, ys, dx, dy, rfl, rfl, ha, hb, i1, i2, c, q⟩ := h
  cases rx
  cases ry
  obtain ⟨its, r1, p1, _⟩ := I.tuple ha
  obtain ⟨its2, r2, p2, _⟩ := I.tuple hb
  have pick : ∀ {us : List Value} {zs : List V} {ds : List DV}, Vals zs us → Iss X.K H zs ds → ∀ (j : Nat) (h1 : j < us.toArray.size), ∃ z d, ds[j]? = some d ∧ Is X.K H z d ∧ RelV z us.toArray[j] := fun {us zs ds} r i j h1 => by
    have hl := r.length
    have hj : j < zs.length := by simp at h1; omega
    obtain ⟨u, e1, e2⟩ := r.get (List.getElem?_eq_getElem hj)
    obtain ⟨d, e3, e4⟩ := i.getV (List.getElem?_eq_getElem hj)
    refine ⟨_, d, e3, e4, ?_⟩
    have h2 : j < us.length := by simpa using h1
    rw [List.getElem?_eq_getElem h2] at e1
    cases e1
    simpa using e2
  have fl : ∀ {d e : DV}, cmpB d e = true → flatD d = true ∧ flatD e = true := fun {d e} h => by
    cases d <;> cases e <;> first | exact ⟨rfl, rfl⟩ | cases h
  have run := Ob.RcOp.tuples_lt (A := X.A) (e := eAt dx dy) (r := rAt dx dy) p1 p2 hu (fun j h1 h2 => by
    obtain ⟨z1, d1, e1, k1, t1⟩ := pick r1 i1 j h1
    obtain ⟨z2, d2, e2, k2, t2⟩ := pick r2 i2 j h2
    have cc := cmpAll_at c e1 e2
    have e : eAt dx dy j = eqV z1 z2 := by
      unfold eAt
      rw [e1, e2, eqV_of k1 k2 (fl cc).1 (fl cc).2]
    rw [e]
    exact eqAt_V t1 t2 (by rw [flat_of k1]; exact (fl cc).1) (by rw [flat_of k2]; exact (fl cc).2)) (fun j h1 h2 hne => by
    obtain ⟨z1, d1, e1, k1, t1⟩ := pick r1 i1 j h1
    obtain ⟨z2, d2, e2, k2, t2⟩ := pick r2 i2 j h2
    have cc := cmpAll_at c e1 e2
    have e : rAt dx dy j = ltB d1 d2 := by
      unfold rAt
      rw [e1, e2]
    rw [e]
    cases d1 with
    | int i => cases d2 with
      | int k =>
        cases k1
        cases k2
        obtain ⟨tk, q1⟩ := t1
        obtain ⟨tk', q2⟩ := t2
        rw [q1, q2]
        exact Ob.RcOp.lt_int _ _ _ _
      | _ => cases cc
    | str i => cases d2 with
      | str k =>
        cases k1
        cases k2
        obtain ⟨tk, q1⟩ := t1
        obtain ⟨tk', q2⟩ := t2
        rw [q1, q2]
        exact fun _ _ _ _ h => PyProof.Rows.lt_str h
      | _ => cases cc
    | _ => cases cc) X.prog X.w
  refine run _ _ ⟨.bl (lexB dx dy), H, I, ?_, q⟩
  have e1 : its.toArray.size = dx.length := by rw [List.size_toArray, ← r1.length, i1.length]
  have e2 : its2.toArray.size = dy.length := by rw [List.size_toArray, ← r2.length, i2.length]
  rw [e1, e2, lexAt_lexB]
  rfl
def wLtA : W2
  | .int i, .int j, μ, P => P (.bool (decide (i < j))) μ
  | .str s, .str t, μ, P => P (.bool (ltS s t)) μ
  | .tup xs, .tup ys, μ, P => cmpAll xs ys = true ∧ P (.bool (lexB xs ys)) μ
  | _, _, _, _ => False
section
variable {K : PySem.W.Frag} {X : Cx} {a b : Expr} {wa wb wc : WE} {pos : Pos}
def rLtA (K : PySem.W.Frag) : R2 := fun x y H Q => rOrd (fun i j => decide (i < j)) (fun s t => decide (s.cps.toList < t.cps.toList)) x y H Q ∨ rLtTD K x y H Q
theorem op_ltA (hu : X.A.units < cLine) : OpR X (compareOp .Lt) (rLtA X.K) := op_ltD.or (op_ltTD hu)
theorem ltA_rd : R2D K (rLtA K) wLtA := by
  intro R μ H x y dx dy P Q ok ix iy w k
  cases ix with
  | int i => cases iy with
    | int j => exact .inl (.inl ⟨i, j, rfl, rfl, k.val ok w (.bool _)⟩)
    | _ => exact (show False from w).elim
  | str i => cases iy with
    | str j => exact .inl (.inr ⟨i, j, rfl, rfl, k.val ok w (.bool _)⟩)
    | _ => exact (show False from w).elim
  | tup hx rx => cases iy with
    | tup hy ry => exact .inr ⟨_, _, _, _, _, _, rfl, rfl, Same.seqT hid_le hx.t, Same.seqT hid_le hy.t, rx.mono hid_le, ry.mono hid_le, w.1, k.val ok w.2 (.bool _)⟩
    | _ => exact (show False from w).elim
  | _ => exact (show False from w).elim
theorem c_eq {k : Nat} (hr : Room k X.A) (ha : PE X a (tD X.K wa)) (hb : PE X b (tD X.K wb)) : PE X (.Compare a [.Eq] [b] pos) (tD X.K (wBin wEqL wa wb)) := d_cmp (op_eqA hr.units) eq_rd ha hb (nomark _)
theorem t_lt {k : Nat} (hr : Room k X.A) (ha : PE X a (tD X.K wa)) (hb : PE X b (tD X.K wb)) : PT X (.Compare a [.Lt] [b] pos) (tDT X.K (wTest (wBin wLtA wa wb))) := dt_cmp (op_ltA hr.units0) ltA_rd ha hb (nomark _)
theorem t_gt (ha : PE X a (tD X.K wa)) (hb : PE X b (tD X.K wb)) : PT X (.Compare a [.Gt] [b] pos) (tDT X.K (wTest (wBin wGt wa wb))) := dt_cmp op_gtD gt_rd ha hb (nomark _)
theorem t_ge (ha : PE X a (tD X.K wa)) (hb : PE X b (tD X.K wb)) : PT X (.Compare a [.GtE] [b] pos) (tDT X.K (wTest (wBin wGe wa wb))) := dt_cmp op_geD ge_rd ha hb (nomark _)
theorem t_eq {k : Nat} (hr : Room k X.A) (ha : PE X a (tD X.K wa)) (hb : PE X b (tD X.K wb)) : PT X (.Compare a [.Eq] [b] pos) (tDT X.K (wTest (wBin wEqL wa wb))) := dt_cmp (op_eqA hr.units) eq_rd ha hb (nomark _)
theorem t_ne {k : Nat} (hr : Room k X.A) (ha : PE X a (tD X.K wa)) (hb : PE X b (tD X.K wb)) : PT X (.Compare a [.NotEq] [b] pos) (tDT X.K (wTest (wBin wNeL wa wb))) := dt_cmp (op_neA hr.units) ne_rd ha hb (nomark _)
theorem t_in {k : Nat} (hr : Room k X.A) (ha : PE X a (tD X.K wa)) (hb : PE X b (tD X.K wb)) (hm : behindInMarks .In b = false) : PT X (.Compare a [.In] [b] pos) (tDT X.K (wTest (wBin wIn wa wb))) := dt_cmp (op_inA (by have := hr.un; omega)) in_rd ha hb hm
end
end Dz
set_option Elab.async false
set_option linter.all false
set_option maxRecDepth 100000
set_option maxHeartbeats 4000000
namespace Dz
open PySem L2
variable [γ : Gd]
section
variable {K : PySem.W.Frag} {R : Hp} {μ : Mh} {H : Hp} {p : Addr} {o : HO} {m0 m : MO}
/-- an object changes -/
theorem Ok.setM (k : Ok K R μ H) (h : μ p = some m0) (n0 : m0 ≠ .inner) (hok : MOk K (hid R μ H) (upd H p o) (updM μ p m) p m) : Ok K R (updM μ p m) (upd H p o) ∧ hid R (updM μ p m) (upd H p o) = hid R μ H := by
  have rn : R p = none := by
    cases e : R p with
    | none => rfl
    | some u => have := k.dj p u e; rw [h] at this; cases this
  have eh : hid R (updM μ p m) (upd H p o) = hid R μ H := by
    funext b
    by_cases z : b = p
    · subst z
      have h1 : ∀ (m : MO) (G : Hp) (μ : Mh), μ b = some m → hid R μ G b = none := fun m G μ e => by
        unfold hid
        rw [if_neg fun q => by rw [e] at q; exact Bool.false_ne_true q.2]
      rw [h1 m _ _ updM_same, h1 m0 _ _ h]
    · unfold hid
      rw [updM_ne z, upd_ne z]
  refine ⟨⟨fun a u e => ?_, fun a u e => ?_, fun a u e => ?_, k.sub, by rw [eh]; exact k.sam⟩, eh⟩
  · rw [upd_ne (fun z => by subst z; rw [rn] at e; cases e)]
    exact k.fr a u e
  · rw [updM_ne (fun z => by subst z; rw [rn] at e; cases e)]
    exact k.dj a u e
  · rw [eh]
    by_cases z : a = p
    · subst z
      rw [updM_same] at e
      cases e
      exact hok
    · rw [updM_ne z] at e
      refine (k.ob a u e).mono (Same.refl _) (upd_ne z) (fun b hb => ?_) e (fun b q => ?_)
      · rw [e] at hb
        cases u with
        | ext near φ =>
          obtain ⟨_, _, hn, _⟩ := k.ob a _ e
          refine upd_ne fun y => ?_
          subst y
          have := hn _ hb
          rw [h] at this
          cases this
          exact n0 rfl
        | _ => cases hb
      · rw [updM_ne fun y => ?_]
        · exact q
        · subst y
          rw [h] at q
          cases q
          exact n0 rfl
end
def valD (kvs : List (Key × DV)) (k : Key) : Option DV := (kvs.find? fun kv => decide (kv.1 = k)).map (·.2)
def putD (kvs : List (Key × DV)) (k : Key) (d : DV) : List (Key × DV) := if (kvs.any fun kv => decide (kv.1 = k)) = true then kvs.map (fun kv => if kv.1 = k then (kv.1, d) else kv) else kvs ++ [(k, d)]
def keyD : DV → Option Key
  | .int i => some (.inl i)
  | .str x => some (.inr x)
  | _ => none
theorem keyD_of {K : PySem.W.Frag} {H : Hp} {v : V} {d : DV} {k : Key} (i : Is K H v d) (h : keyD d = some k) : v = kV k := by
  cases i <;> first | (cases h; rfl) | cases h
section
variable {K : PySem.W.Frag} {H : Hp}
theorem Iss.val : ∀ {kvs : List (Key × V)} {ds : List (Key × DV)} {k : Key} {d : DV}, kvs.map (·.1) = ds.map (·.1) → Iss K H (kvs.map (·.2)) (ds.map (·.2)) → valD ds k = some d → ∃ v, valV kvs k = some v ∧ Is K H v d
  | [], [], _, _, _, _, h => by cases h
  | [], _ :: _, _, _, e, _, _ => by cases e
  | _ :: _, [], _, _, e, _, _ => by cases e
  | (a, v) :: kvs, (b, x) :: ds, k, d, e, r, h => by
    simp only [List.map_cons, List.cons.injEq] at e
    obtain ⟨rfl, e⟩ := e
    simp only [List.map_cons] at r
    cases r with
    | cons r1 r2 =>
      unfold valD at h
      unfold valV
      by_cases c : a = k
      · rw [List.find?_cons_of_pos (by simpa using c)] at h ⊢
        cases h
        exact ⟨v, rfl, r1⟩
      · rw [List.find?_cons_of_neg (by simpa using c)] at h ⊢
        exact Iss.val e r2 h
theorem Iss.put : ∀ {kvs : List (Key × V)} {ds : List (Key × DV)} {k : Key} {v : V} {d : DV}, kvs.map (·.1) = ds.map (·.1) → Iss K H (kvs.map (·.2)) (ds.map (·.2)) → Is K H v d → (putK kvs k v).map (·.1) = (putD ds k d).map (·.1) ∧ Iss K H ((putK kvs k v).map (·.2)) ((putD ds k d).map (·.2)) := by
  intro kvs ds k v d e r i
  have ha : (kvs.any fun kv => decide (kv.1 = k)) = (ds.any fun kv => decide (kv.1 = k)) := by
    have h1 : (kvs.any fun kv => decide (kv.1 = k)) = (kvs.map (·.1)).any fun a => decide (a = k) := by rw [List.any_map]; rfl
    have h2 : (ds.any fun kv => decide (kv.1 = k)) = (ds.map (·.1)).any fun a => decide (a = k) := by rw [List.any_map]; rfl
    rw [h1, h2, e]
  unfold putK putD
  rw [ha]
  by_cases c : (ds.any fun kv => decide (kv.1 = k)) = true
  · rw [if_pos c, if_pos c]
    clear ha c
    induction kvs generalizing ds with
    | nil => cases ds with
      | nil => exact ⟨rfl, .nil⟩
      | cons _ _ => cases e
    | cons a kvs ih => cases ds with
      | nil => cases e
      | cons b ds =>
        simp only [List.map_cons, List.cons.injEq] at e
        simp only [List.map_cons] at r
        cases r with
        | cons r1 r2 =>
          obtain ⟨h1, h2⟩ := ih e.2 r2
          simp only [List.map_cons]
          refine ⟨by rw [h1]; congr 1; rw [e.1]; split <;> first | rfl | exact e.1, .cons ?_ h2⟩
          rw [e.1]
          split
          · exact i
          · exact r1
  · rw [if_neg c, if_neg c]
    simp only [List.map_append, List.map_cons, List.map_nil]
    exact ⟨by rw [e], r.append (.cons i .nil)⟩
end
/-- d[k]: there -/
def wDGet : W2 := fun x y μ P => match x with
  | .obj a => match μ a with
    | some (.dct kvs) => atW (keyD y) fun k => atW (valD kvs k) fun d => P d μ
    | _ => False
  | .dct kvs => atW (keyD y) fun k => atW (valD kvs k) fun d => P d μ
  | _ => False
def wDPut (wd wk wv : WE) : WS := fun E ρ μ => wv ρ μ fun v μ1 => wd ρ μ1 fun x μ2 => wk ρ μ2 fun y μ3 => match x with
  | .obj a => match μ3 a with
    | some (.dct kvs) => atW (keyD y) fun k => kvs.length < sizeLine ∧ E.nx ρ (updM μ3 a (.dct (putD kvs k v)))
    | _ => False
  | _ => False
def wPop : W1 := fun x μ P => match x with
  | .obj a => match μ a with
    | some (.lst ds) => atW ds[ds.length - 1]? fun y => P y (updM μ a (.lst ds.dropLast))
    | _ => False
  | _ => False
/-- a list, as it stands when the receiver is asked -/
def isLstM (x : DV) (μ : Mh) : Prop := match x with
  | .obj a => match μ a with | some (.lst _) => True | _ => False
  | _ => False
def wApp (wo we : WE) : WE := fun ρ μ P => wo ρ μ fun x μ1 => isLstM x μ1 ∧ we ρ μ1 fun y μ2 => match x with
  | .obj a => match μ2 a with
    | some (.lst ds) => ds.length < sizeLine ∧ P .none (updM μ2 a (.lst (ds ++ [y])))
    | _ => False
  | _ => False
section
variable {X : Cx} {e ke ve oe : Expr} {pos apos : Pos} {w wd wk wv wo we : WE}
theorem dget_core {K : PySem.W.Frag} {R : Hp} {μ : Mh} {H : Hp} {v u : V} {x y : DV} {P : DV → Mh → Prop} (o : Ok K R μ H) (i : Is K (hid R μ H) v x) (j : Is K (hid R μ H) u y) (w : wDGet x y μ P) : ∃ a z d, v = .ref a ∧ DGet H a u (some z) ∧ Is K (hid R μ H) z d ∧ P d μ := by
  cases i with
  | obj a =>
    have w' : (match μ a with | some (.dct kvs) => atW (keyD y) fun k => atW (valD kvs k) fun d => P d μ | _ => False) := w
    split at w'
    · rename_i kvs e
      obtain ⟨k, h1, w2⟩ := atW_of w'
      obtain ⟨d, h2, w3⟩ := atW_of w2
      obtain ⟨ks, h3, h4, h5⟩ := o.ob a _ e
      obtain ⟨z, h6, h7⟩ := Iss.val h4 h5 h2
      exact ⟨a, z, d, rfl, by rw [keyD_of j h1, ← h6]; exact DGet.k h3, h7, w3⟩
    · exact w'.elim
  | dct h4 h5 h6 =>
    obtain ⟨k, h1, w2⟩ := atW_of (show atW (keyD y) _ from w)
    obtain ⟨d, h2, w3⟩ := atW_of w2
    obtain ⟨z, h7, h8⟩ := Iss.val h5 h6 h2
    exact ⟨_, z, d, rfl, by rw [keyD_of j h1, ← h7]; exact DGet.k (hid_le _ _ h4), h8, w3⟩
  | _ => exact (show False from w).elim
theorem d_dget {k : Nat} (hr : Room k X.A) (ho : PE X oe (tD X.K wo)) (hi : PE X ke (tD X.K wk)) (hs : NoSl ke := by exact fun _ _ => rfl) : PE X (.Subscript oe ke pos) (tD X.K (wBin wDGet wo wk)) :=
  PE.imp (pe_dget (by have := hr.un; omega) ho hi hs) fun σ H Q ⟨R, ρ, μ, P, a, w, k⟩ => ⟨R, ρ, μ, _, a, w, fun x μ1 v H1 p1 o1 s1 i1 => ⟨R, ρ, μ1, _, a.step o1 s1, p1, fun y μ2 u H2 p2 o2 s2 i2 => by
    obtain ⟨b, z, d, e, g, i3, p3⟩ := dget_core o2 (i1.mono s2) i2 p2
    exact ⟨b, z, e, g, (k.step (s1.trans s2)).val o2 p3 i3⟩⟩⟩
theorem ds_dput {k : Nat} {pos' : Pos} (hr : Room k X.A) (ho : PE X oe (tD X.K wd)) (hi : PE X ke (tD X.K wk)) (hv : PE X ve (tD X.K wv)) (hs : swapsWith ve (some (.Subscript oe ke pos')) pos.line X.env = pure false := by rfl) : PS X (.Assign [.Subscript oe ke pos'] ve pos) (tDS X.K (wDPut wd wk wv)) :=
  PS.imp (ps_dput (by have := hr.un; omega) ho hi hv hs) fun D σ H ⟨R, ρ, μ, E, a, w, k⟩ => ⟨R, ρ, μ, _, a, w, fun v μ1 vv H1 p1 o1 s1 i1 => ⟨R, ρ, μ1, _, a.step o1 s1, p1, fun x μ2 xv H2 p2 o2 s2 i2 => ⟨R, ρ, μ2, _, a.step o2 (s1.trans s2), p2, fun y μ3 yv H3 p3 o3 s3 i3 => by
    cases i2 with
    | obj b =>
      have p3' : (match μ3 b with | some (.dct kvs) => atW (keyD y) fun k => kvs.length < sizeLine ∧ E.nx ρ (updM μ3 b (.dct (putD kvs k v))) | _ => False) := p3
      split at p3'
      · rename_i kvs e
        obtain ⟨key, h1, hl, w3⟩ := atW_of p3'
        obtain ⟨ks, h3, h4, h5⟩ := o3.ob b _ e
        obtain ⟨h6, h7⟩ := Iss.put (k := key) h4 h5 (i1.mono (s2.trans s3))
        obtain ⟨o4, e4⟩ := o3.setM (o := .dK (putK ks key vv)) (m := .dct (putD kvs key v)) e (by intro z; cases z) ⟨_, upd_same, h6, h7⟩
        have hlen : ks.length = kvs.length := by have := congrArg List.length h4; simpa using this
        refine ⟨b, _, rfl, by rw [keyD_of i3 h1]; exact DPut.k h3 (by rw [hlen]; exact hl), k.nx ρ _ σ _ w3 ⟨o4, ?_⟩ ?_⟩
        · rw [e4]
          exact a.sl.mono ((s1.trans s2).trans s3)
        · rw [e4]
          exact (s1.trans s2).trans s3
      · exact p3'.elim
    | _ => exact (show False from p3).elim⟩⟩⟩
theorem d_pop (ho : PE X oe (tD X.K wo)) (hbase : attributeBase oe "pop" X.env (eval oe X.env) = eval oe X.env := by rfl) (hline : (apos.endLine == pos.line) = true := by rfl) : PE X (.Call (.Attribute oe "pop" apos) [] [] pos) (tD X.K (wUn wPop wo)) :=
  PE.imp (pe_bm0 PySem.F.plainAttrs_list PySem.F.slot_list_pop PySem.F.type_list_pop mt_pop ho hbase hline) fun σ H Q ⟨R, ρ, μ, P, a, w, k⟩ => ⟨R, ρ, μ, _, a, w, fun x μ1 v H1 p1 o1 s1 i1 => by
    cases i1 with
    | obj b =>
      have p1' : (match μ1 b with | some (.lst ds) => atW ds[ds.length - 1]? fun y => P y (updM μ1 b (.lst ds.dropLast)) | _ => False) := p1
      split at p1'
      · rename_i ds e
        obtain ⟨y, hy, w2⟩ := atW_of p1'
        obtain ⟨xs, h3, h4⟩ := o1.ob b _ e
        have hl := h4.length
        obtain ⟨z, h5, h6⟩ := h4.get hy
        have hd : Iss X.K (hid R μ1 H1) xs.dropLast ds.dropLast := by
          rw [List.dropLast_eq_take, List.dropLast_eq_take, hl]
          exact h4.take _
        obtain ⟨o4, e4⟩ := o1.setM (o := .lst xs.dropLast) (m := .lst ds.dropLast) e (by intro z; cases z) ⟨_, upd_same, hd⟩
        refine ⟨.inl ⟨rfl, _, SqL.of h3⟩, b, xs, z, rfl, rfl, h3, by rw [hl]; exact h5, k _ _ _ _ w2 o4 ?_ ?_⟩
        · rw [e4]; exact s1
        · rw [e4]; exact h6
      · exact p1'.elim
    | _ => exact (show False from p1).elim⟩
theorem isLstM_of {K : PySem.W.Frag} {R : Hp} {μ : Mh} {H : Hp} {v : V} {x : DV} (o : Ok K R μ H) (i : Is K (hid R μ H) v x) (h : isLstM x μ) : ∃ b, x = .obj b ∧ v = .ref b ∧ tyV K "list" v H := by
  cases i with
  | obj b =>
    have h' : (match μ b with | some (.lst _) => True | _ => False) := h
    split at h'
    · rename_i ds e
      obtain ⟨xs, h3, h4⟩ := o.ob b _ e
      exact ⟨b, rfl, rfl, .inl ⟨rfl, _, SqL.of h3⟩⟩
    · exact h'.elim
  | _ => exact (show False from h).elim
theorem d_append (ho : PE X oe (tD X.K wo)) (he : PE X e (tD X.K we)) (hs : starEach [e] X.env = [(false, eval e X.env)] := by rfl) (hbase : attributeBase oe "append" X.env (eval oe X.env) = eval oe X.env := by rfl)
    (hfew : ((backTo pos (starEach [e] X.env)).all (fun x => !x.1) && (backToKw pos (keywordEach [] X.env)).all (fun x => x.1.isSome) && decide (([e] : List Expr).length + ([] : List Keyword).length + (if ([] : List Keyword).isEmpty then 0 else 1) < 30)) = true := by rfl) (hline : (apos.endLine == pos.line) = true := by rfl) : PE X (.Call (.Attribute oe "append" apos) [e] [] pos) (tD X.K (wApp wo we)) :=
  PE.imp (pe_bm PySem.F.plainAttrs_list PySem.F.slot_list_append PySem.F.type_list_append mt_append ho (pa_cons he pa_nil hs) hbase hfew hline hs) fun σ H Q ⟨R, ρ, μ, P, a, w, k⟩ => ⟨R, ρ, μ, _, a, w, fun x μ1 v H1 p1 o1 s1 i1 => by
    obtain ⟨b, rfl, rfl, ht⟩ := isLstM_of o1 i1 p1.1
    refine ⟨ht, R, ρ, μ1, _, a.step o1 s1, p1.2, fun y μ2 u H2 p2 o2 s2 i2 => ?_⟩
    have p2' : (match μ2 b with | some (.lst ds) => ds.length < sizeLine ∧ P .none (updM μ2 b (.lst (ds ++ [y]))) | _ => False) := p2
    split at p2'
    · rename_i ds e
      obtain ⟨xs, h3, h4⟩ := o2.ob b _ e
      obtain ⟨o4, e4⟩ := o2.setM (o := .lst (xs ++ [u])) (m := .lst (ds ++ [y])) e (by intro z; cases z) ⟨_, upd_same, h4.append (.cons i2 .nil)⟩
      refine ⟨b, xs, u, rfl, rfl, h3, by rw [h4.length]; exact p2'.1, k _ _ _ _ p2'.2 o4 ?_ .none⟩
      rw [e4]
      exact s1.trans s2
    · exact p2'.elim⟩
end
end Dz
set_option Elab.async false
set_option linter.all false
set_option maxRecDepth 100000
set_option maxHeartbeats 4000000
namespace Dz
open PySem L2
variable [γ : Gd]
/-- a def of the text stands under its name -/
def At1 (K : PySem.W.Frag) (mg : Str → Option Value) (x : Str) (st : Stmt) : Prop := ∃ f fd, mg x = some (.ref f) ∧ Fun K x x st f fd
/-- .. and keeps a promise over data, by at most level k -/
def Def (P : Program) (w : World) (K : PySem.W.Frag) (mg : Str → Option Value) (base : Heap) (k : Nat) (x : Str) (st : Stmt) (ps : List Str) (wf : WF) : Prop :=
  ∃ f fd, mg x = some (.ref f) ∧ Fun K x x st f fd ∧ FnG P w K mg base k f fd ps (spD K ps.length wf)
theorem Def.mono {P : Program} {w : World} {K : PySem.W.Frag} {mg : Str → Option Value} {base : Heap} {j k : Nat} {x : Str} {st : Stmt} {ps : List Str} {wf : WF} (h : Def P w K mg base j x st ps wf) (l : j ≤ k) : Def P w K mg base k x st ps wf :=
  let ⟨f, fd, a, b, c⟩ := h; ⟨f, fd, a, b, c.mono l⟩
/-- never called -/
def wfNo : WF := fun _ _ _ => False
theorem Def.no {P : Program} {w : World} {K : PySem.W.Frag} {mg : Str → Option Value} {base : Heap} {k : Nat} {x : Str} {st : Stmt} {ps : List Str} (h : At1 K mg x st) : Def P w K mg base k x st ps wfNo := by
  obtain ⟨f, fd, a, b⟩ := h
  exact ⟨f, fd, a, b, fun vs H Q E ⟨_, _, _, _, _, _, _, z, _⟩ => z.elim, fun A fr s H ar us vs Q E _ _ _ _ _ ⟨_, _, _, _, _, _, _, z, _⟩ => z.elim⟩
theorem Def.imp {P : Program} {w : World} {K : PySem.W.Frag} {mg : Str → Option Value} {base : Heap} {k : Nat} {x : Str} {st : Stmt} {ps : List Str} {wf wf' : WF} (h : Def P w K mg base k x st ps wf) (i : ∀ ds μ Q, wf' ds μ Q → wf ds μ Q) : Def P w K mg base k x st ps wf' := by
  obtain ⟨f, fd, a, b, c⟩ := h
  refine ⟨f, fd, a, b, fun vs H Q E ⟨R, ds, μ, P', h1, h2, h3, h4, h5⟩ => c.len vs H Q E ⟨R, ds, μ, P', h1, h2, h3, i _ _ _ h4, h5⟩, fun A fr s H ar us vs Q E g r e bb v ⟨R, ds, μ, P', h1, h2, h3, h4, h5⟩ => c.run A fr s H ar us vs Q E g r e bb v ⟨R, ds, μ, P', h1, h2, h3, i _ _ _ h4, h5⟩⟩
omit γ in
/-- the rule for a def: its body's reading, and that the promise gives it -/
theorem def_of {P : Program} {w0 : World} {K : PySem.W.Frag} {mg : Str → Option Value} {base : Heap} {x : Str} {st : Stmt} {N ps : List Str} {k : Nat} {w : WS} {wf : WF} (h : At1 K mg x st) (S : FnScope N ps (defScope st))
    (hb : ∀ (f : Addr) (cdv : Value) (A : Around) (outer : List Env) (s : Shared) (H : Hp) (E : XK), A.guards = some [] → Room k (A.deeper (PyProof.Rows.envOfC x (defScope st) s.heap.objs.size f cdv)) →
      PSs (cxOf CX0 P w0 K mg base N x (defScope st) f cdv A outer s H E).nox (defBody st) (@tDS Gd.non K w))
    (hw : ∀ ds μ Q, ds.length = ps.length → wf ds μ Q → w { nx := fun _ μ' => Q .none μ', rt := Q } (ds.map some ++ List.replicate (N.length - ps.length) none) μ) : Def P w0 K mg base (k + 1) x st ps wf := by
  obtain ⟨f, fd, a, F⟩ := h
  exact ⟨f, fd, a, F, fn_dat F S rfl (hb f) hw⟩
section
variable {X : Cx} {k j n : Nat} {st : Stmt} {ps : List Str} {wf : WF} {x : Str} {p pos : Pos} {e : Expr} {es : List Expr} {wa wk : WA}
/-- f(e, ..): hb is «fun _ _ _ _ _ _ us hl => match us, hl with | [_, _], _ => rfl» -/
theorem d_f (D : Def X.prog X.w X.K X.mg X.base k x st ps wf) (hgd : X.A.guards = some []) (hr : Room j X.A) (hk : k ≤ j) (hg : Gl X x)
    (hb : ∀ (kV doc pm : Value) (an : Option Addr) (cdv ct : Value) (us : List Value), us.length = ps.length → bindArgs (PySem.W.fnOf x x (defArgs st) (defBody st) (defScope st) .none kV doc pm an cdv ct) ⟨us, []⟩ = pure (ps.zip us))
    (ha : PA X (e :: es) (tDA X.K wa)) (hd : (x == ("__debug__" : Str)) = false := by decide) (he : starEach (e :: es) X.env = (false, eval e X.env) :: starEach es X.env := by rfl) (hpl : (backTo pos (starEach es X.env)).any (·.1) = false := by rfl) (hn : ps.length = n := by rfl) :
    PE X (.Call (.Name x p) (e :: es) [] pos) (tD X.K (wCall n wf wa)) := by
  subst hn
  obtain ⟨f, fd, hm, F, G⟩ := D
  exact d_call G hgd (hr.mono hk) hg hm F.kp (F.binds hb) ha hd he hpl
/-- keywords in another order -/
def perm {α : Type} (ix : List Nat) (l : List α) : List α := ix.filterMap fun i => l[i]?
theorem perm_vals {vs : List V} {us : List Value} (r : Vals vs us) : ∀ ix : List Nat, Vals (perm ix vs) (perm ix us)
  | [] => .nil
  | i :: ix => by
    have h := perm_vals r ix
    unfold perm at h ⊢
    rw [List.filterMap_cons, List.filterMap_cons]
    cases e : vs[i]? with
    | none =>
      rw [r.none_of e]
      exact h
    | some v =>
      obtain ⟨u, e2, ru⟩ := r.get e
      rw [e2]
      exact .cons ru h
theorem perm_iss {K : PySem.W.Frag} {H : Hp} {vs : List V} {ds : List DV} (r : Iss K H vs ds) : ∀ ix : List Nat, Iss K H (perm ix vs) (perm ix ds)
  | [] => .nil
  | i :: ix => by
    have h := perm_iss r ix
    unfold perm at h ⊢
    rw [List.filterMap_cons, List.filterMap_cons]
    cases e : ds[i]? with
    | none =>
      have : vs[i]? = none := by
        rw [List.getElem?_eq_none_iff] at e ⊢
        rw [r.length]
        exact e
      rw [this]
      exact h
    | some d =>
      obtain ⟨v, e2, rv⟩ := r.get e
      rw [e2]
      exact .cons rv h
def wCallP (n : Nat) (wf : WF) (ix : List Nat) (wk : WA) : WE := fun ρ μ P => wk ρ μ fun ds μ1 => (perm ix ds).length = n ∧ wf (perm ix ds) μ1 P
end
end Dz
set_option Elab.async false
set_option linter.all false
set_option maxRecDepth 100000
set_option maxHeartbeats 4000000
namespace Dz
open PySem L2
variable [γ : Gd]
section
variable {K : PySem.W.Frag} {R : Hp} {μ : Mh} {H : Hp} {p : Addr} {o o' : HO} {m : MO}
/-- what was set aside becomes an object that may change -/
theorem Ok.promote (k : Ok K (upd R p o) μ H) (rn : R p = none) (ng : γ.R p = none) (hm : MOk K (hid (upd R p o) μ H) (upd H p o') (updM μ p m) p m) : Ok K R (updM μ p m) (upd H p o') ∧ hid R (updM μ p m) (upd H p o') = hid (upd R p o) μ H := by
  have mn : μ p = none := k.dj p o upd_same
  have eh : hid R (updM μ p m) (upd H p o') = hid (upd R p o) μ H := by
    funext b
    by_cases z : b = p
    · subst z
      have h1 : hid R (updM μ b m) (upd H b o') b = none := by
        unfold hid
        rw [if_neg fun q => by rw [updM_same] at q; exact Bool.false_ne_true q.2]
      have h2 : hid (upd R b o) μ H b = none := by
        unfold hid
        rw [if_neg fun q => by rw [upd_same] at q; exact Bool.false_ne_true q.1]
      rw [h1, h2]
    · unfold hid
      rw [updM_ne z, upd_ne z, upd_ne z]
  refine ⟨⟨fun a u e => ?_, fun a u e => ?_, fun a u e => ?_, k.subOff ng, by rw [eh]; exact k.sam⟩, eh⟩
  · have z : a ≠ p := fun z => by subst z; rw [rn] at e; cases e
    rw [upd_ne z]
    exact k.fr a u (by rw [upd_ne z]; exact e)
  · have z : a ≠ p := fun z => by subst z; rw [rn] at e; cases e
    rw [updM_ne z]
    exact k.dj a u (by rw [upd_ne z]; exact e)
  · rw [eh]
    by_cases z : a = p
    · subst z
      rw [updM_same] at e
      cases e
      exact hm
    · rw [updM_ne z] at e
      refine (k.ob a u e).mono (Same.refl _) (upd_ne z) (fun b hb => ?_) e (fun b q => ?_)
      · rw [e] at hb
        cases u with
        | ext near φ =>
          obtain ⟨_, _, hn, _⟩ := k.ob a _ e
          refine upd_ne fun y => ?_
          subst y
          have := hn _ hb
          rw [mn] at this
          cases this
        | _ => cases hb
      · rw [updM_ne fun y => by subst y; rw [mn] at q; cases q]
        exact q
end
abbrev trsD (K : PySem.W.Frag) (ws : List (Key × WE)) : List (TE × TE) := ws.map fun kw => (tC (kV kw.1), tD K kw.2)
theorem pairs_imp {K : PySem.W.Frag} {R : Hp} {σ : St} {ρ : Rho} : ∀ (ws : List (Key × WE)) {μ : Mh} {H : Hp} {P : List (Key × DV) → Mh → Prop} {Q : List (V × V) → Hp → Prop}, At K R σ ρ μ H → wPairs ws ρ μ P →
    (∀ (ds : List (Key × DV)) μ' (kvs : List (Key × V)) H', P ds μ' → Ok K R μ' H' → Same (hid R μ H) (hid R μ' H') → kvs.map (·.1) = ws.map (·.1) → kvs.map (·.1) = ds.map (·.1) → Iss K (hid R μ' H') (kvs.map (·.2)) (ds.map (·.2)) → Q (kvs.map fun kv => (kV kv.1, kv.2)) H') → tPairs (trsD K ws) σ H Q
  | [], μ, H, P, Q, a, w, k => k [] μ [] H w a.ok (Same.refl _) rfl rfl .nil
  | (key, w1) :: ws, μ, H, P, Q, a, w, k => by
    show tD K w1 σ H _
    exact ⟨R, ρ, μ, _, a, w, fun d μ1 v H1 p1 o1 s1 i1 => pairs_imp ws (a.step o1 s1) p1 fun ds μ2 kvs H2 p2 o2 s2 e1 e2 i2 =>
      k ((key, d) :: ds) μ2 ((key, v) :: kvs) H2 p2 o2 (s1.trans s2) (by rw [List.map_cons, List.map_cons, e1]) (by rw [List.map_cons, List.map_cons, e2]) (.cons (i1.mono s2) i2)⟩
theorem putK_new {kvs : List (Key × V)} {k : Key} {v : V} (h : k ∉ kvs.map (·.1)) : putK kvs k v = kvs ++ [(k, v)] := by
  unfold putK
  rw [if_neg]
  intro z
  rw [List.any_eq_true] at z
  obtain ⟨x, hx, e⟩ := z
  exact h (List.mem_map.mpr ⟨x, hx, of_decide_eq_true e⟩)
theorem mergeK_new : ∀ (more acc : List (Key × V)), ((acc ++ more).map (·.1)).Nodup → mergeK acc more = acc ++ more
  | [], acc, _ => by rw [List.append_nil]; rfl
  | p :: r, acc, h => by
    show mergeK (putK acc p.1 p.2) r = _
    have h' := h
    rw [List.map_append, List.map_cons, List.nodup_append] at h'
    rw [putK_new (fun z => h'.2.2 _ z _ List.mem_cons_self rfl)]
    have e : acc ++ [(p.1, p.2)] ++ r = acc ++ p :: r := by simp
    rw [mergeK_new r _ (by rw [e]; exact h), e]
section
variable {X : Cx} {pos : Pos} {keys : List (Option Expr)} {values : List Expr}
/-- {k: v, ..}, read alone -/
theorem d_dctN (ws : List (Key × WE)) (h : PPs X pos keys values (trsD X.K ws)) (hall : keys.all (·.isSome) = true := by rfl) (hl : keys.length = values.length := by rfl) (h0 : keys ≠ [] := by intro z; cases z)
    (h15 : keys.length ≤ 15 := by decide) (hw : ws.length ≤ 15 := by decide) (hn : (ws.map (·.1)).Nodup := by decide) : PE X (.Dict keys values pos) (tD X.K (wDct ws)) :=
  PE.imp (pe_disp h hall hl h0 h15) fun σ H Q ⟨R, ρ, μ, P, a, w, k⟩ => fun p n => by
    obtain ⟨o1, e1⟩ := a.ok.frame (o := .dK []) n
    refine pairs_imp ws ⟨o1, by rw [e1]; exact a.sl⟩ w fun ds μ1 kvs H1 p1 o2 s2 e2 e3 i2 => ⟨o2.fr p _ upd_same, kvs, rfl, ?_, ?_⟩
    · have := congrArg List.length e2
      rw [List.length_map, List.length_map] at this
      omega
    have rn := a.ok.freeR n
    have ng := a.ok.freeG n
    rw [e1] at s2
    rw [mergeK_new _ _ (by rw [List.nil_append, e2]; exact hn), List.nil_append]
    obtain ⟨o3, e4⟩ := o2.reframe (o' := .dK kvs) ng
    obtain ⟨o4, s4, h4⟩ := o3.unframe rn ng
    rw [e4] at s4
    exact k _ μ1 _ _ p1 o4 (s2.trans s4) (.dct h4 e3 (i2.mono s4))
/-- {k: v, ..} that will change -/
def wDctM (ws : List (Key × WE)) : WE := fun ρ μ P => wPairs ws ρ μ fun ds μ1 => ∀ p, μ1 p = none → P (.obj p) (updM μ1 p (.dct ds))
theorem d_dctM (ws : List (Key × WE)) (h : PPs X pos keys values (trsD X.K ws)) (hall : keys.all (·.isSome) = true := by rfl) (hl : keys.length = values.length := by rfl) (h0 : keys ≠ [] := by intro z; cases z)
    (h15 : keys.length ≤ 15 := by decide) (hw : ws.length ≤ 15 := by decide) (hn : (ws.map (·.1)).Nodup := by decide) : PE X (.Dict keys values pos) (tD X.K (wDctM ws)) :=
  PE.imp (pe_disp h hall hl h0 h15) fun σ H Q ⟨R, ρ, μ, P, a, w, k⟩ => fun p n => by
    obtain ⟨o1, e1⟩ := a.ok.frame (o := .dK []) n
    refine pairs_imp ws ⟨o1, by rw [e1]; exact a.sl⟩ w fun ds μ1 kvs H1 p1 o2 s2 e2 e3 i2 => ⟨o2.fr p _ upd_same, kvs, rfl, ?_, ?_⟩
    · have := congrArg List.length e2
      rw [List.length_map, List.length_map] at this
      omega
    have rn := a.ok.freeR n
    have ng := a.ok.freeG n
    rw [e1] at s2
    rw [mergeK_new _ _ (by rw [List.nil_append, e2]; exact hn), List.nil_append]
    obtain ⟨o3, e4⟩ := o2.promote (o' := .dK kvs) (m := .dct ds) rn ng ⟨kvs, upd_same, e3, i2⟩
    refine k _ _ _ _ (p1 p (o2.dj p _ upd_same)) o3 ?_ (.obj p)
    rw [e4]
    exact s2
def wRevM (w : WE) : WE := fun ρ μ P => w ρ μ fun d μ1 => match d with
  | .lst ds => ∀ p, μ1 p = none → P (.obj p) (updM μ1 p (.lst ds.reverse))
  | .fix ds => ∀ p, μ1 p = none → P (.obj p) (updM μ1 p (.lst ds.reverse))
  | _ => False
variable {e : Expr} {w : WE} {k1 : Nat} {p1 p2 p3 : Pos}
theorem d_revM (he : PE X e (tD X.K w)) : PE X (.Subscript e (.Slice none none (some (.UnaryOp .USub (.Constant (.int 1) k1 p1) p2)) p3) pos) (tD X.K (wRevM w)) :=
  PE.imp (pe_revL he) fun σ H Q ⟨R, ρ, μ, P, a, w, k⟩ => ⟨R, ρ, μ, _, a, w, fun d μ1 v H1 p1 o1 s1 i1 => by
    have go : ∀ (b : Addr) (xs : List V) (ds : List DV), SqL X.K H1 b xs → Iss X.K (hid R μ1 H1) xs ds → (∀ p, μ1 p = none → P (.obj p) (updM μ1 p (.lst ds.reverse))) → ∃ a xs, V.ref b = .ref a ∧ SqL X.K H1 a xs ∧ ∀ p, H1 p = none → Q (.ref p) (upd H1 p (.lst xs.reverse)) := fun b xs ds hx rx q =>
      ⟨b, xs, rfl, hx, fun p n => by
        have fm := o1.freeM n
        have hs : Same (hid R μ1 H1) (hid R (updM μ1 p (.lst ds.reverse)) (upd H1 p (.lst xs.reverse))) := fun b u e => by
          obtain ⟨e1, e2, e3⟩ := hid_some e
          have ne := ne_of_none e3 n
          rw [hid_at e1 (by rw [updM_ne ne]; exact e2), upd_ne ne]
          exact e3
        obtain ⟨o2, s2⟩ := o1.newM (o := .lst xs.reverse) (m := .lst ds.reverse) n ⟨_, upd_same, rx.reverse.mono hs⟩ (by intro z; cases z)
        exact (k.step s1) _ _ _ _ (q p fm) o2 s2 (.obj p)⟩
    cases i1 with
    | lst hx rx => exact go _ _ _ (SqL.of (hid_le _ _ hx)) rx p1
    | fix hx rx => exact go _ _ _ (hid_le.seq hx) rx p1
    | _ => exact (show False from p1).elim⟩
end
end Dz
set_option Elab.async false
set_option linter.all false
set_option maxRecDepth 100000
set_option maxHeartbeats 2000000
namespace Dz
open PySem L2
/-- a deck that stands at a, its cells at c, good for m draws -/
structure HasDeck (nm : Str) (μ : Mh) (a c : Addr) (m : Nat) : Prop where
  ne : c ≠ a
  ex : ∃ (t n : Int) (cells : List Int), μ a = some (.dct [(.inr "cells", .obj c), (.inr nm, .int t), (.inr "draws", .int n)]) ∧ μ c = some (.lst (cells.map .int)) ∧ 0 ≤ t ∧ t < 2 ^ 32 ∧ 0 ≤ n ∧ n + m ≤ 2 ^ 40 ∧ cells.length ≤ 63
theorem HasDeck.le {nm : Str} {μ : Mh} {a c : Addr} {m m' : Nat} (h : HasDeck nm μ a c m) (l : m' ≤ m) : HasDeck nm μ a c m' := by
  obtain ⟨ne, t, n, cs, h1, h2, h3, h4, h5, h6, h7⟩ := h
  exact ⟨ne, t, n, cs, h1, h2, h3, h4, h5, by omega, h7⟩
theorem HasDeck.keep {nm : Str} {μ μ' : Mh} {a c : Addr} {m : Nat} (h : HasDeck nm μ a c m) (h1 : μ' a = μ a) (h2 : μ' c = μ c) : HasDeck nm μ' a c m := by
  obtain ⟨ne, t, n, cs, e1, e2, r⟩ := h
  exact ⟨ne, t, n, cs, h1.trans e1, h2.trans e2, r⟩
theorem HasDeck.isSome {nm : Str} {μ : Mh} {a c : Addr} {m : Nat} (h : HasDeck nm μ a c m) : (∃ o, μ a = some o) ∧ ∃ o, μ c = some o := by
  obtain ⟨ne, t, n, cs, e1, e2, r⟩ := h
  exact ⟨⟨_, e1⟩, ⟨_, e2⟩⟩
def OnlyDeck (μ μ' : Mh) (a c : Addr) : Prop := ∀ b, b ≠ a → b ≠ c → μ' b = μ b
theorem OnlyDeck.refl {μ : Mh} {a c : Addr} : OnlyDeck μ μ a c := fun _ _ _ => rfl
theorem OnlyDeck.trans {μ μ' μ'' : Mh} {a c : Addr} (h : OnlyDeck μ μ' a c) (h' : OnlyDeck μ' μ'' a c) : OnlyDeck μ μ'' a c := fun b x y => (h' b x y).trans (h b x y)
/-- a draw below many -/
def wfDraw (nm : Str) : WF := fun ds μ Q => ∃ a c m many, ds = [.obj a, .int many] ∧ 0 < many ∧ many < 2 ^ 64 ∧ HasDeck nm μ a c (m + 1) ∧ ∀ r μ', 0 ≤ r → r < many → HasDeck nm μ' a c m → OnlyDeck μ μ' a c → Q (.int r) μ'
abbrev sm (x : Int) : Prop := 0 < x ∧ x < 2 ^ 32
theorem cm_r {i j : Int} (h : sm j) : CMul i j := by unfold sm at h; right; omega
theorem cm_l {i j : Int} (h : sm i) : CMul i j := by unfold sm at h; left; omega
theorem cpow_ten {j : Int} (h : 0 ≤ j) (h' : j ≤ 1000) : CPow 10 j := ⟨h, by omega, by decide⟩
section
variable {μ : Mh} {a : Addr} {kvs : List (Key × DV)} {y d v : DV} {k : Key} {P : DV → Mh → Prop}
theorem dget_o (h : μ a = some (.dct kvs)) (hk : keyD y = some k) (hv : valD kvs k = some d) (q : P d μ) : wDGet (.obj a) y μ P := by
  unfold wDGet
  simp only [h, hk, hv, atW]
  exact q
theorem dput_o {E : DEnds} {ρ : Rho} {i j : Nat} (h : μ a = some (.dct kvs)) (hk : keyD y = some k) (l : kvs.length < sizeLine) (h1 : ρ[i]? = some (some (.obj a))) (h2 : ρ[j]? = some (some v)) (q : E.nx ρ (updM μ a (.dct (putD kvs k v)))) : wDPut (wVar i) (wC y) (wVar j) E ρ μ := by
  unfold wDPut wVar wC
  simp only [h, h1, h2, hk, atW]
  exact ⟨l, q⟩
theorem neL_o {ds : List DV} {es : List DV} (h : μ a = some (.lst ds)) (h1 : shapedD (.lst ds) = true) (h2 : shapedD (.lst es) = true) (q : P (.bool (!deepEq (.lst ds) (.lst es))) μ) : wNeL (.obj a) (.lst es) μ P := by
  show notB wEqL _ _ _ _
  unfold notB wEqL look lookO
  simp only [h]
  exact ⟨h1, h2, q⟩
theorem pop_o {ds : List DV} (h : μ a = some (.lst ds)) (hy : ds[ds.length - 1]? = some y) (q : P y (updM μ a (.lst ds.dropLast))) : wPop (.obj a) μ P := by
  unfold wPop
  simp only [h, hy, atW]
  exact q
end
def wDraw (A B C D E F G I J L M : Int) : WS :=
  (wSeq (wPar 2 3 (wCons (wBin wAdd (wBin wDGet (wVar 0) (wC (.str "draws"))) (wC (.int 1))) (wCons (wBin wDGet (wVar 0) (wC (.str "total"))) wNil)))
    (wSeq (wDPut (wVar 0) (wC (.str "draws")) (wVar 2))
    (wSeq (wIfS (wTest (wBin wNeL (wBin wDGet (wVar 0) (wC (.str "cells"))) (wLst wNil))) (wSeq (wAsg (wUn wPop (wBin wDGet (wVar 0) (wC (.str "cells")))) (wgName 3))
    (wSeq (wIfS (wTest (wBin wGe (wVar 3) (wBin wPow (wC (.int 10)) (wC (.int 18))))) (wSeq (wDrop (wApp (wBin wDGet (wVar 0) (wC (.str "cells"))) (wBin wDiv (wVar 3) (wVar 1))))
    (wRet (wBin wMod (wVar 3) (wVar 1)))) wNext)
    (wAsg (wBin wAdd (wVar 3) (wBin wDGet (wVar 0) (wC (.str "total")))) (wgName 3)))) wNext)
    (wSeq (wAsg (wBin wMod (wBin wMul (wBin wAdd (wBin wAdd (wBin wMod (wVar 3) (wC (.int A))) (wBin wMul (wBin wMul (wC (.int B)) (wVar 2)) (wVar 2))) (wC (.int C))) (wC (.int D))) (wC (.int E))) (wgName 4))
    (wSeq (wAsg (wBin wMod (wBin wAdd (wBin wAdd (wBin wMul (wVar 4) (wVar 4)) (wBin wMul (wC (.int F)) (wVar 2))) (wC (.int G))) (wC (.int I))) (wgName 4))
    (wRet (wBin wMod (wBin wDiv (wBin wMod (wBin wMul (wVar 4) (wC (.int J))) (wC (.int L))) (wC (.int M))) (wVar 1))))))))
theorem canLay_ints : ∀ ns : List Int, PyData.canLayAll0 (toPys (ns.map DV.int)) = true
  | [] => rfl
  | n :: ns => canLay_ints ns
theorem depth_ints : ∀ ns : List Int, PyData.depthAll (toPys (ns.map DV.int)) = 0
  | [] => rfl
  | n :: ns => by
    show max 0 _ = 0
    rw [depth_ints ns]
    rfl
theorem noObjs_ints : ∀ ns : List Int, noObjs (ns.map DV.int) = true
  | [] => rfl
  | n :: ns => noObjs_ints ns
theorem shaped_ints (ns : List Int) : shapedD (.lst (ns.map .int)) = true := by
  have h1 := canLay_ints ns
  have h2 := depth_ints ns
  have h3 := noObjs_ints ns
  show (noObjs (ns.map .int) && (PyData.canLayAll0 (toPys (ns.map .int)) && decide (PyData.depthAll (toPys (ns.map .int)) + 1 ≤ 64))) = true
  rw [h1, h2, h3]
  rfl
/-- the last three rows -/
theorem draw_tail {A B C D E F G I J L M many turn cell : Int} {dk : DV} {μ : Mh} {EE : DEnds} {z : Option DV} (hA : sm A) (hB : sm B) (hD : sm D) (hE : sm E) (hF : sm F) (hI : sm I) (hJ : sm J) (hL : sm L) (hM : sm M) (h1 : 0 ≤ turn) (h2 : turn < 2 ^ 41) (hm : 0 < many)
    (q : ∀ r, 0 ≤ r → r < many → EE.rt (.int r) μ) :
    (wSeq (wAsg (wBin wMod (wBin wMul (wBin wAdd (wBin wAdd (wBin wMod (wVar 3) (wC (.int A))) (wBin wMul (wBin wMul (wC (.int B)) (wVar 2)) (wVar 2))) (wC (.int C))) (wC (.int D))) (wC (.int E))) (wgName 4))
    (wSeq (wAsg (wBin wMod (wBin wAdd (wBin wAdd (wBin wMul (wVar 4) (wVar 4)) (wBin wMul (wC (.int F)) (wVar 2))) (wC (.int G))) (wC (.int I))) (wgName 4))
    (wRet (wBin wMod (wBin wDiv (wBin wMod (wBin wMul (wVar 4) (wC (.int J))) (wC (.int L))) (wC (.int M))) (wVar 1))))) EE [some dk, some (.int many), some (.int turn), some (.int cell), z] μ := by
  have b1 : ∀ x : Int, CMul x turn := fun x => by right; omega
  have bE : ∀ x : Int, CMul (x % E) (x % E) := fun x => by
    left
    have p1 := Int.emod_nonneg x (show E ≠ 0 by omega)
    have p2 := Int.emod_lt_of_pos x hE.1
    omega
  have dM : ∀ x : Int, CDivW x M := fun x => ⟨hM.1, by
    have : M.natAbs < 2 ^ 32 := by omega
    have := (Nat.log2_lt (n := M.natAbs) (k := 9000) (by omega)).mpr (Nat.lt_of_lt_of_le this (Nat.pow_le_pow_right (by decide) (by decide)))
    exact this⟩
  refine ⟨hA.1, cm_l hB, b1 _, cm_r hD, hE.1, bE _, cm_l hF, hI.1, cm_r hJ, hL.1, dM _, hm, q _ (Int.emod_nonneg _ (by omega)) (Int.emod_lt_of_pos _ hm)⟩
theorem draw_ok {A B C D E F G I J L M : Int} (hA : sm A) (hB : sm B) (hD : sm D) (hE : sm E) (hF : sm F) (hI : sm I) (hJ : sm J) (hL : sm L) (hM : sm M) (ds : List DV) (μ : Mh) (Q : DV → Mh → Prop) (hl : ds.length = 2) (h : wfDraw "total" ds μ Q) :
    wDraw A B C D E F G I J L M { nx := fun _ μ' => Q .none μ', rt := Q } (ds.map some ++ List.replicate 3 none) μ := by
  obtain ⟨a, c, m, many, rfl, h0, h64, ⟨ne, t, n, cells, ha, hc, t0, t1, n0, n1, cl⟩, q⟩ := h
  have na : a ≠ c := fun z => ne z.symm
  let μ1 : Mh := updM μ a (.dct [(.inr "cells", .obj c), (.inr "total", .int t), (.inr "draws", .int (n + 1))])
  have ha1 : μ1 a = some (.dct [(.inr "cells", .obj c), (.inr "total", .int t), (.inr "draws", .int (n + 1))]) := updM_same
  have hc1 : μ1 c = some (.lst (cells.map .int)) := (updM_ne ne).trans hc
  have hm1 : CDivW 0 many → True := fun _ => trivial
  have dm : ∀ x : Int, CDivW x many := fun x => ⟨h0, by
    have : many.natAbs < 2 ^ 64 := by omega
    exact (Nat.log2_lt (n := many.natAbs) (k := 9000) (by omega)).mpr (Nat.lt_of_lt_of_le this (Nat.pow_le_pow_right (by decide) (by decide)))⟩
  have fin : ∀ (μ2 : Mh) (cs : List Int), μ2 a = μ1 a → μ2 c = some (.lst (cs.map .int)) → cs.length ≤ 63 → (∀ b, b ≠ a → b ≠ c → μ2 b = μ b) → ∀ r, 0 ≤ r → r < many → Q (.int r) μ2 := fun μ2 cs e1 e2 e3 e4 r r0 r1 =>
    q r μ2 r0 r1 ⟨ne, t, n + 1, cs, e1.trans ha1, e2, t0, t1, by omega, by omega, e3⟩ e4
  have v1 : ∀ x : Int, valD [(.inr "cells", .obj c), (.inr "total", .int t), (.inr "draws", .int x)] (.inr "cells") = some (.obj c) := fun _ => rfl
  have v2 : ∀ x : Int, valD [(.inr "cells", .obj c), (.inr "total", .int t), (.inr "draws", .int x)] (.inr "total") = some (.int t) := fun _ => rfl
  have v3 : ∀ x : Int, valD [(.inr "cells", .obj c), (.inr "total", .int t), (.inr "draws", .int x)] (.inr "draws") = some (.int x) := fun _ => rfl
  have v4 : putD [(.inr "cells", .obj c), (.inr "total", .int t), (.inr "draws", .int n)] (.inr "draws") (.int (n + 1)) = [(.inr "cells", .obj c), (.inr "total", .int t), (.inr "draws", .int (n + 1))] := rfl
  unfold wDraw
  have G1 := @dget_o
  have G2 := @dput_o
  have G3 := @neL_o
  have G4 := @pop_o
  generalize wDGet = g1 at G1 ⊢
  generalize wDPut = g2 at G2 ⊢
  generalize wNeL = g3 at G3 ⊢
  generalize wPop = g4 at G4 ⊢
  refine G1 (y := .str "draws") ha rfl (v3 n) ?_
  refine G1 (y := .str "total") ha rfl (v2 n) ?_
  refine G2 (v := .int (n + 1)) (kvs := [(.inr "cells", .obj c), (.inr "total", .int t), (.inr "draws", .int n)]) ha rfl (Nat.le_of_ble_eq_true rfl) rfl rfl ?_
  rw [v4]
  refine G1 (y := .str "cells") ha1 rfl (v1 _) ?_
  refine ⟨Nat.zero_le _, ?_⟩
  cases cells with
  | nil =>
    refine G3 (es := []) hc1 rfl rfl ?_
    exact draw_tail hA hB hD hE hF hI hJ hL hM (by omega) (by omega) h0 (fin μ1 [] rfl hc1 (Nat.zero_le _) fun b x y => updM_ne x)
  | cons y ys =>
    refine G3 (es := []) hc1 (shaped_ints _) rfl ?_
    refine G1 (y := .str "cells") ha1 rfl (v1 _) ?_
    have hlast : ∃ z, ((y :: ys).map DV.int)[((y :: ys).map DV.int).length - 1]? = some (.int z) := by
      refine ⟨(y :: ys).getLast (by intro z; cases z), ?_⟩
      rw [List.length_map, List.getElem?_map, List.getLast_eq_getElem, List.getElem?_eq_getElem (by simp)]
      rfl
    obtain ⟨z, hz⟩ := hlast
    refine G4 hc1 hz ?_
    have hdl : ((y :: ys).map DV.int).dropLast = (y :: ys).dropLast.map DV.int := by rw [List.map_dropLast]
    have ldl : (y :: ys).dropLast.length ≤ 62 := by rw [List.length_dropLast]; omega
    generalize (y :: ys).dropLast = cs at hdl ldl
    rw [hdl]
    let μ2 : Mh := updM μ1 c (.lst (cs.map .int))
    have ha2 : μ2 a = some (.dct [(.inr "cells", .obj c), (.inr "total", .int t), (.inr "draws", .int (n + 1))]) := (updM_ne na).trans ha1
    have hc2 : μ2 c = some (.lst (cs.map .int)) := updM_same
    refine ⟨cpow_ten (by decide) (by decide), ?_⟩
    cases hge : decide ((10 : Int) ^ 18 ≤ z) with
    | true =>
      have e : decide ((10 : Int) ^ (18 : Int).toNat ≤ z) = true := hge
      show (match decide ((10 : Int) ^ (18 : Int).toNat ≤ z) with | true => _ | false => _)
      rw [e]
      refine G1 (y := .str "cells") ha2 rfl (v1 _) ?_
      refine ⟨?_, dm z, ?_⟩
      · show isLstM (.obj c) μ2
        unfold isLstM
        simp only [hc2]
      · show (match μ2 c with | some (.lst ds) => _ | _ => False)
        rw [hc2]
        refine ⟨by rw [List.length_map, sizeLine_eq]; omega, h0, ?_⟩
        refine fin _ (cs ++ [z / many]) ((updM_ne na).trans ((updM_ne na).trans rfl)) ?_ (by simp; omega) (fun b x y => (updM_ne y).trans ((updM_ne y).trans (updM_ne x))) _ (Int.emod_nonneg _ (by omega)) (Int.emod_lt_of_pos _ h0)
        rw [updM_same, List.map_append]
        rfl
    | false =>
      have e : decide ((10 : Int) ^ (18 : Int).toNat ≤ z) = false := hge
      show (match decide ((10 : Int) ^ (18 : Int).toNat ≤ z) with | true => _ | false => _)
      rw [e]
      refine G1 (y := .str "total") ha2 rfl (v2 _) ?_
      exact draw_tail hA hB hD hE hF hI hJ hL hM (by omega) (by omega) h0 (fin μ2 cs (updM_ne na) hc2 (by omega) fun b x y => (updM_ne y).trans (updM_ne x))
def wDeck (S B A C M : Int) : WS :=
  (wSeq (wPar 1 2 (wCons (wB wList (wCons (wSl (wVar 0) wNoPart (wPart (wC (.int 63)))) wNil)) (wCons (wC (.int S)) wNil)))
    (wSeq (wFor (sLst (wVar 1)) (wgName 3) (wAsg (wBin wMod (wBin wAdd (wBin wAdd (wBin wMul (wVar 2) (wC (.int B))) (wBin wMod (wVar 3) (wC (.int A)))) (wC (.int C))) (wC (.int M))) (wgName 2)))
    (wRet (wDctM [((.inr "cells"), (wRevM (wVar 1))), ((.inr "total"), (wVar 2)), ((.inr "draws"), (wC (.int 0)))]))))
def wfDeck (nm : Str) : WF := fun ds μ Q => ∃ ns : List Int, ds = [.fix (ns.map .int)] ∧ ∀ a c μ', μ a = none → μ c = none → HasDeck nm μ' a c (2 ^ 40) → OnlyDeck μ μ' a c → Q (.obj a) μ'
theorem deck_ok {S B A C M : Int} (hS : 0 ≤ S) (hS2 : S < 2 ^ 32) (hB : sm B) (hA : sm A) (hM : sm M) (ds : List DV) (μ : Mh) (Q : DV → Mh → Prop) (hl : ds.length = 1) (h : wfDeck "total" ds μ Q) :
    wDeck S B A C M { nx := fun _ μ' => Q .none μ', rt := Q } (ds.map some ++ List.replicate 3 none) μ := by
  obtain ⟨ns, rfl, q⟩ := h
  have hcut : cutD (ns.map DV.int) none (some 63) = (ns.take 63).map DV.int := by
    have e0 : HT.sIx (ns.map DV.int).length 0 none = 0 := rfl
    have e1 : min (HT.sIx (ns.map DV.int).length (ns.map DV.int).length (some 63)) (ns.map DV.int).length = min 63 (ns.map DV.int).length := by
      show min (min (63 : Nat) _) _ = _
      omega
    unfold cutD
    rw [e0, List.drop_zero, Nat.sub_zero, List.take_eq_take_min, e1, ← List.take_eq_take_min, List.map_take]
  have hlen : (ns.take 63).length ≤ 63 := by rw [List.length_take]; omega
  have key : ∀ xs : List Int, xs.length ≤ 63 → ∀ t : Int, 0 ≤ t → t < 2 ^ 32 → ∀ z, wRet (wDctM [((.inr "cells"), (wRevM (wVar 1))), ((.inr "total"), (wVar 2)), ((.inr "draws"), (wC (.int 0)))]) { nx := fun _ μ' => Q .none μ', rt := Q } [some (.fix (ns.map .int)), some (.lst (xs.map .int)), some (.int t), z] μ := fun xs hx t t0 t1 z => by
    intro c hc a ha
    have nac : a ≠ c := fun e => by
      subst e
      have : updM μ a _ a = none := ha
      rw [updM_same] at this
      cases this
    have ha' : μ a = none := by
      have h1 : updM μ c _ a = none := ha
      rw [updM_ne nac] at h1
      exact h1
    refine q a c _ ha' hc ⟨fun e => nac e.symm, t, 0, xs.reverse, updM_same, ?_, t0, t1, by omega, by omega, by simp; omega⟩ fun b x y => (updM_ne x).trans (updM_ne y)
    rw [updM_ne fun e => nac e.symm, updM_same, List.map_reverse]
  have loop : ∀ (ys : List Int) (t : Int) (z : Option DV), 0 ≤ t → t < 2 ^ 32 → forW (wgName 3) (wAsg (wBin wMod (wBin wAdd (wBin wAdd (wBin wMul (wVar 2) (wC (.int B))) (wBin wMod (wVar 3) (wC (.int A)))) (wC (.int C))) (wC (.int M))) (wgName 2))
      { nx := wRet (wDctM [((.inr "cells"), (wRevM (wVar 1))), ((.inr "total"), (wVar 2)), ((.inr "draws"), (wC (.int 0)))]) { nx := fun _ μ' => Q .none μ', rt := Q }, rt := Q } (ys.map .int) [some (.fix (ns.map .int)), some (.lst ((ns.take 63).map .int)), some (.int t), z] μ := by
    intro ys
    induction ys with
    | nil => exact fun t z t0 t1 => key _ hlen t t0 t1 z
    | cons y ys ih =>
      intro t z t0 t1
      refine ⟨cm_r hB, hA.1, hM.1, ih _ _ (Int.emod_nonneg _ (by have := hM.1; omega)) (Int.lt_trans (Int.emod_lt_of_pos _ hM.1) hM.2)⟩
  show forW _ _ _ (cutD (ns.map DV.int) none (some 63)) [some (.fix (ns.map .int)), some (.lst (cutD (ns.map DV.int) none (some 63))), some (.int S), none] μ
  rw [hcut]
  exact loop _ S none hS hS2
def wPick (f_draw : WF) : WS :=
  (wRet (wBin wIx (wVar 1) (wCall 2 f_draw (wCons (wVar 0) (wCons (wB wLen (wCons (wVar 1) wNil)) wNil)))))
def itemsD : DV → List DV
  | .lst ds => ds
  | .tup ds => ds
  | .str z => signs z
  | _ => []
def wfPick (nm : Str) : WF := fun ds μ Q => ∃ a c m y, ds = [.obj a, y] ∧ 0 < (itemsD y).length ∧ (itemsD y).length ≤ sizeLine ∧ HasDeck nm μ a c (m + 1) ∧ ∀ x μ', x ∈ itemsD y → HasDeck nm μ' a c m → OnlyDeck μ μ' a c → Q x μ'
theorem atI_nat {α : Type} {xs : List α} {r : Int} (h0 : 0 ≤ r) (h1 : r < xs.length) : ∃ x, x ∈ xs ∧ atI xs r = some x := by
  obtain ⟨n, rfl⟩ := Int.eq_ofNat_of_zero_le h0
  have hn : n < xs.length := by omega
  refine ⟨xs[n], List.getElem_mem hn, ?_⟩
  unfold atI ixN
  rw [if_pos h0, if_pos h1]
  show xs[(n : Int).toNat]? = _
  rw [Int.toNat_natCast, List.getElem?_eq_getElem hn]
theorem pick_ok {nm : Str} (ds : List DV) (μ : Mh) (Q : DV → Mh → Prop) (hl : ds.length = 2) (h : wfPick nm ds μ Q) :
    wPick (wfDraw nm) { nx := fun _ μ' => Q .none μ', rt := Q } (ds.map some ++ List.replicate 0 none) μ := by
  obtain ⟨a, c, m, y, rfl, l0, l1, hd, q⟩ := h
  have h64 : sizeLine < 2 ^ 64 := by rw [sizeLine_eq]; decide
  have go : ∀ xs : List DV, 0 < xs.length → xs.length ≤ sizeLine → (∀ r μ', 0 ≤ r → r < (xs.length : Int) → HasDeck nm μ' a c m → OnlyDeck μ μ' a c → wIx y (.int r) μ' Q) → wfDraw nm [.obj a, .int xs.length] μ fun d μ1 => wIx y d μ1 Q :=
    fun xs x0 x1 k => ⟨a, c, m, xs.length, rfl, by omega, by omega, hd, fun r μ' r0 r1 h1 o1 => k r μ' r0 r1 h1 o1⟩
  cases y with
  | lst xs =>
    refine ⟨rfl, go xs l0 l1 fun r μ' r0 r1 h1 o1 => ?_⟩
    obtain ⟨x, hx, e⟩ := atI_nat r0 r1
    show atW (atI xs r) _
    rw [e]
    exact q x μ' hx h1 o1
  | tup xs =>
    refine ⟨rfl, go xs l0 l1 fun r μ' r0 r1 h1 o1 => ?_⟩
    obtain ⟨x, hx, e⟩ := atI_nat r0 r1
    show atW (atI xs r) _
    rw [e]
    exact q x μ' hx h1 o1
  | str z =>
    have el : (signs z).length = z.length := by
      unfold signs
      rw [List.length_map, Array.length_toList]
      rfl
    have l1' : z.length ≤ sizeLine := by
      have : (signs z).length ≤ sizeLine := l1
      omega
    refine ⟨l1', rfl, ?_⟩
    rw [← el]
    refine go (signs z) l0 l1 fun r μ' r0 r1 h1 o1 => ⟨l1', ?_⟩
    have r1' : r < (z.cps.toList.length : Int) := by
      rw [Array.length_toList]
      have : (signs z).length = z.cps.size := el
      omega
    obtain ⟨x, hx, e⟩ := atI_nat r0 r1'
    rw [e]
    exact q _ μ' (List.mem_map.mpr ⟨x, hx, rfl⟩) h1 o1
  | _ => exact absurd l0 (Nat.lt_irrefl 0)
end Dz
set_option Elab.async false
set_option linter.all false
set_option maxRecDepth 100000
set_option maxHeartbeats 2000000
namespace Dz
open PySem L2
/-- signs that chr knows -/
def plainS (x : Str) : Bool := x.cps.toList.all fun c => decide (c < 0x110000)
mutual
/-- texts of such signs -/
def plD : DV → Bool
  | .str x => plainS x
  | .tup ds => plDs ds
  | .lst ds => plDs ds
  | .dct kvs => plDk kvs
  | _ => true
def plDs : List DV → Bool
  | [] => true
  | d :: ds => plD d && plDs ds
def plDk : List (Key × DV) → Bool
  | [] => true
  | (.inr x, d) :: r => plainS x && plD d && plDk r
  | (.inl _, d) :: r => plD d && plDk r
end
/-- at most N in bulk, p deep -/
structure Siz (N p : Nat) (d : DV) : Prop where
  no : noObj d = true
  sh : (toPy d).showable = true
  lv : (toPy d).leavesShort 64 = true
  bk : (toPy d).bulk ≤ N
  dp : (toPy d).depth ≤ p
  pl : plD d = true
structure Sizs (N p : Nat) (ds : List DV) : Prop where
  no : noObjs ds = true
  sh : PyData.showableAll (toPys ds) = true
  lv : PyData.leavesShortAll 64 (toPys ds) = true
  bk : PyData.bulkAll (toPys ds) ≤ N
  dp : PyData.depthAll (toPys ds) ≤ p
  pl : plDs ds = true
theorem Siz.le {N N' p p' : Nat} {d : DV} (h : Siz N p d) (hN : N ≤ N') (hp : p ≤ p') : Siz N' p' d := ⟨h.no, h.sh, h.lv, Nat.le_trans h.bk hN, Nat.le_trans h.dp hp, h.pl⟩
theorem Siz.shows {N p : Nat} {d : DV} (h : Siz N p d) (hN : N ≤ 2 ^ 17) (hp : p ≤ 60) : Shows d := by
  refine ⟨h.no, h.sh, ?_, Nat.le_trans h.dp hp⟩
  have h1 := PyData.shown_le_bulk 64 (by decide) (toPy d) h.lv
  have h2 := h.bk
  rw [sizeLine_eq]
  omega
theorem Siz.none : Siz 0 0 .none := ⟨rfl, rfl, rfl, Nat.le_refl _, Nat.le_refl _, rfl⟩
theorem Siz.bool (b : Bool) : Siz 0 0 (.bool b) := ⟨rfl, rfl, rfl, Nat.le_refl _, Nat.le_refl _, rfl⟩
theorem Siz.int {i : Int} (h : i.natAbs < 10 ^ 60) : Siz 0 0 (.int i) := by
  refine ⟨rfl, ?_, ?_, Nat.le_refl _, Nat.le_refl _, rfl⟩
  · show decide (i.natAbs.log2 < 1920) = true
    rw [decide_eq_true_eq]
    by_cases z : i.natAbs = 0
    · rw [z]; decide
    · exact (Nat.log2_lt z).mpr (Nat.lt_of_lt_of_le (Nat.lt_trans h (show 10 ^ 60 < 2 ^ 240 by decide)) (Nat.pow_le_pow_right (by decide) (by decide)))
  · show decide ((PyData.shown (.int i)).length ≤ 64) = true
    rw [decide_eq_true_eq]
    have e := int_text_length_le10 (k := 60) (by decide) h
    show (Str.ofString (toString i)).length ≤ 64
    rw [ofString_length]
    omega
theorem Siz.str {x : Str} (h : plainS x = true) : Siz x.length 0 (.str x) := by
  refine ⟨rfl, rfl, ?_, Nat.le_refl _, Nat.le_refl _, h⟩
  show (x.cps.toList.all fun c => decide (c < 16 ^ 8)) = true
  unfold plainS at h
  rw [List.all_eq_true] at h ⊢
  intro c hc
  have := of_decide_eq_true (h c hc)
  exact decide_eq_true (Nat.lt_trans this (by decide))
theorem Sizs.nil : Sizs 0 0 [] := ⟨rfl, rfl, rfl, Nat.le_refl _, Nat.le_refl _, rfl⟩
theorem Sizs.cons {N M p : Nat} {d : DV} {ds : List DV} (h : Siz N p d) (r : Sizs M p ds) : Sizs (N + 1 + M) p (d :: ds) := by
  refine ⟨?_, ?_, ?_, ?_, ?_, by show (plD d && plDs ds) = true; rw [h.pl, r.pl]; rfl⟩
  · show (noObj d && noObjs ds) = true
    rw [h.no, r.no]; rfl
  · show ((toPy d).showable && _) = true
    rw [h.sh, r.sh]; rfl
  · show ((toPy d).leavesShort 64 && _) = true
    rw [h.lv, r.lv]; rfl
  · show (toPy d).bulk + 1 + _ ≤ _
    have := h.bk; have := r.bk; omega
  · show max _ _ ≤ p
    exact Nat.max_le.mpr ⟨h.dp, r.dp⟩
theorem Sizs.le {N N' p p' : Nat} {ds : List DV} (h : Sizs N p ds) (hN : N ≤ N') (hp : p ≤ p') : Sizs N' p' ds := ⟨h.no, h.sh, h.lv, Nat.le_trans h.bk hN, Nat.le_trans h.dp hp, h.pl⟩
theorem Sizs.all {N p : Nat} : ∀ {ds : List DV}, (∀ d ∈ ds, Siz N p d) → Sizs (ds.length * (N + 1)) p ds
  | [], _ => Sizs.nil.le (by omega) (by omega)
  | d :: ds, h => by
    have r := Sizs.cons (h d List.mem_cons_self) (Sizs.all (N := N) (p := p) fun e he => h e (List.mem_cons_of_mem _ he))
    refine r.le ?_ (Nat.le_refl _)
    rw [List.length_cons, Nat.succ_mul]
    omega
theorem Siz.tup {N p : Nat} {ds : List DV} (h : Sizs N p ds) : Siz N (p + 1) (.tup ds) := ⟨h.no, h.sh, h.lv, h.bk, Nat.succ_le_succ h.dp, h.pl⟩
theorem Siz.lst {N p : Nat} {ds : List DV} (h : Sizs N p ds) : Siz N (p + 1) (.lst ds) := ⟨h.no, h.sh, h.lv, h.bk, Nat.succ_le_succ h.dp, h.pl⟩
theorem Siz.dct0 : Siz 0 1 (.dct []) := ⟨rfl, rfl, rfl, Nat.le_refl _, Nat.le_refl _, rfl⟩
mutual
/-- no dicts -/
def noDct : DV → Bool
  | .tup ds => noDcts ds
  | .lst ds => noDcts ds
  | .dct _ => false
  | _ => true
def noDcts : List DV → Bool
  | [] => true
  | d :: ds => noDct d && noDcts ds
end
theorem strOk_plain {x : Str} (h : plainS x = true) : PyData.strOk x = true := by
  unfold plainS at h
  show x.cps.all _ = true
  rw [← Array.all_toList]
  exact h
mutual
theorem canLay_of : ∀ {d : DV}, plD d = true → noDct d = true → (toPy d).canLay0 = true
  | .none, _, _ => rfl
  | .bool _, _, _ => rfl
  | .int _, _, _ => rfl
  | .str x, h, _ => strOk_plain h
  | .tup ds, h, n => canLays_of (ds := ds) h n
  | .lst ds, h, n => canLays_of (ds := ds) h n
  | .dct _, _, n => absurd n Bool.false_ne_true
  | .obj _, _, _ => rfl
  | .fix _, _, _ => rfl
  | .dn _ _ _, _, _ => rfl
theorem canLays_of : ∀ {ds : List DV}, plDs ds = true → noDcts ds = true → PyData.canLayAll0 (toPys ds) = true
  | [], _, _ => rfl
  | d :: ds, h, n => by
    have h' := Bool.and_eq_true_iff.mp (show (plD d && plDs ds) = true from h)
    have n' := Bool.and_eq_true_iff.mp (show (noDct d && noDcts ds) = true from n)
    show ((toPy d).canLay0 && _) = true
    rw [canLay_of h'.1 n'.1, canLays_of h'.2 n'.2]
    rfl
end
theorem Siz.shaped {N p : Nat} {d : DV} (h : Siz N p d) (hp : p ≤ 64) (n : noDct d = true) : shapedD d = true := by
  show (noObj d && ((toPy d).canLay0 && decide ((toPy d).depth ≤ 64))) = true
  rw [h.no, canLay_of h.pl n, decide_eq_true (Nat.le_trans h.dp hp)]
  rfl
end Dz
set_option Elab.async false
set_option linter.all false
set_option maxRecDepth 100000
set_option maxHeartbeats 2000000
namespace Dz
open PySem L2
/-- the same, each thing kept -/
theorem comp_all {g : WG} {e : WE} {ρ : Rho} {G : DV → Prop} {I : Nat → Mh → Prop} {n : Nat} : ∀ (xs acc : List DV) (μ : Mh) (P : List DV → Mh → Prop),
    (∀ x ∈ xs, ∀ (μ : Mh) (k : Nat) (P : DV → Mh → Prop), I (k + 1) μ → (∀ y μ', G y → I k μ' → P y μ') → g x ρ fun ρ1 => e ρ1 μ P) →
    acc.length + xs.length ≤ sizeLine → (∀ y ∈ acc, G y) → I (n + xs.length) μ → (∀ zs μ', (∀ y ∈ zs, G y) → zs.length = acc.length + xs.length → I n μ' → P zs μ') → compW g wYes e ρ xs acc μ P
  | [], acc, μ, P, _, _, hg, hi, q => q acc μ hg (by simp) hi
  | x :: xs, acc, μ, P, hx, hl, hg, hi, q => by
    rw [List.length_cons] at hl
    refine hx x List.mem_cons_self μ (n + xs.length) _ hi (fun y μ' gy i' => ⟨by omega, ?_⟩)
    refine comp_all xs (acc ++ [y]) μ' P (fun z hz => hx z (List.mem_cons_of_mem _ hz)) (by simp; omega) (fun z hz => ?_) i' (fun zs μ2 h1 h2 h3 => q zs μ2 h1 (by simp at h2 ⊢; omega) h3)
    rcases List.mem_append.mp hz with hz | hz
    · exact hg z hz
    · rw [List.mem_singleton] at hz; rw [hz]; exact gy
/-- for x in xs, with an invariant that counts down -/
theorem for_rule {g : WG} {b : WS} {E : DEnds} {I : Nat → Rho → Mh → Prop} {n : Nat} : ∀ (xs : List DV) (ρ : Rho) (μ : Mh),
    (∀ x ∈ xs, ∀ (k : Nat) (ρ : Rho) (μ : Mh) (F : DEnds), I (k + 1) ρ μ → F.rt = E.rt → F.bk = E.nx → (∀ ρ' μ', I k ρ' μ' → F.nx ρ' μ') → (∀ ρ' μ', I k ρ' μ' → F.ct ρ' μ') → g x ρ fun ρ1 => b F ρ1 μ) →
    I (n + xs.length) ρ μ → (∀ ρ' μ', I n ρ' μ' → E.nx ρ' μ') → forW g b E xs ρ μ
  | [], ρ, μ, _, hi, q => q ρ μ hi
  | x :: xs, ρ, μ, hx, hi, q => by
    refine hx x List.mem_cons_self (n + xs.length) ρ μ { nx := forW g b E xs, rt := E.rt, bk := E.nx, ct := forW g b E xs } hi rfl rfl (fun ρ' μ' i' => ?_) (fun ρ' μ' i' => ?_)
    · exact for_rule xs ρ' μ' (fun z hz => hx z (List.mem_cons_of_mem _ hz)) i' q
    · exact for_rule xs ρ' μ' (fun z hz => hx z (List.mem_cons_of_mem _ hz)) i' q
theorem rngD_mem {lo : Int} {n : Nat} {d : DV} (h : d ∈ rngD lo n) : ∃ i : Int, d = .int i ∧ lo ≤ i ∧ i < lo + n := by
  unfold rngD at h
  rw [List.mem_map] at h
  obtain ⟨i, hi, rfl⟩ := h
  rw [List.mem_range] at hi
  exact ⟨_, rfl, by omega, by omega⟩
theorem rngD_len {lo : Int} {n : Nat} : (rngD lo n).length = n := by
  unfold rngD
  rw [List.length_map, List.length_range]
/-- a filter and a map without a step of the world -/
theorem comp_pure {g : WG} {t : WT} {e : WE} {ρ : Rho} {μ : Mh} (b : DV → Bool) (f : DV → DV) : ∀ (xs acc : List DV) (P : List DV → Mh → Prop),
    (∀ x ∈ xs, ∀ (acc : List DV) (P : List DV → Mh → Prop), acc.length < sizeLine → (if b x = true then P (acc ++ [f x]) μ else P acc μ) →
      g x ρ fun ρ1 => t ρ1 μ fun b μ1 => match b with
        | true => e ρ1 μ1 fun y μ2 => acc.length < sizeLine ∧ P (acc ++ [y]) μ2
        | false => P acc μ1) →
    acc.length + xs.length ≤ sizeLine → P (acc ++ (xs.filter b).map f) μ → compW g t e ρ xs acc μ P
  | [], acc, P, _, _, q => by
    have q' : P (acc ++ []) μ := q
    rw [List.append_nil] at q'
    exact q'
  | x :: xs, acc, P, hx, hl, q => by
    rw [List.length_cons] at hl
    refine hx x List.mem_cons_self acc (fun ac μ' => compW g t e ρ xs ac μ' P) (by omega) ?_
    by_cases hb : b x = true
    · rw [if_pos hb]
      rw [List.filter_cons_of_pos hb, List.map_cons] at q
      refine comp_pure b f xs (acc ++ [f x]) P (fun z hz => hx z (List.mem_cons_of_mem _ hz)) (by simp; omega) ?_
      rw [List.append_assoc]
      exact q
    · rw [if_neg hb]
      rw [List.filter_cons_of_neg hb] at q
      exact comp_pure b f xs acc P (fun z hz => hx z (List.mem_cons_of_mem _ hz)) (by omega) q
end Dz
set_option Elab.async false
set_option linter.all false
set_option maxRecDepth 100000
set_option maxHeartbeats 1000000
namespace Dz
open PySem L2 TL
end Dz
set_option Elab.async false
set_option linter.all false
set_option maxRecDepth 100000
set_option maxHeartbeats 1000000
namespace Dz
open PySem L2
variable [γ : Gd]
omit γ in
theorem at1_of {K : PySem.W.Frag} {h : Heap} {mg : Str → Option Value} {x : Str} {st : Stmt} {f : Addr} {oc kV dc pm cd ct : Value} {od an : Option Addr} {sl : Array (Option Value)} (X : K.In h) (G : h.Ns mainGlobals mg) (a : PySem.W.nsIn K mainGlobals x = some (some (.ref f)))
    (l : K.lookup f = some ⟨oc, od, .func (PySem.W.fnOf x x (defArgs st) (defBody st) (defScope st) .none kV dc pm an cd ct), sl⟩) (c : PySem.W.codeIn K cd x = true) (k : PySem.W.keepIn K (.ref f) = true) : At1 K mg x st :=
  ⟨f, _, PySem.W.mg_of X G a, fun_mk l c k⟩
omit γ in
/-- a law over a script: its promise at the start -/
theorem law_start {wf : WF} {K : PySem.W.Frag} {H : Hp} {a : Addr} {ns : List Int} (h : ∀ μ P, (∀ μ', P (.bool true) μ') → wf [.fix (ns.map .int)] μ P) (hS : SqL K H a (ns.map V.int)) : spD K 1 wf [.ref a] H (fun v _ => v = .bl true) fun _ _ _ => False := by
  refine ⟨fun _ => none, [.fix (ns.map .int)], fun _ => none, fun d _ => d = .bool true, ⟨fun a o z => (by cases z), fun a o z => (by cases z), fun a o z => (by cases z), fun a o z => (by cases z), fun a o z => (by cases z)⟩, ?_, rfl, h _ _ fun _ => rfl, fun d μ' v H' p o s i => ?_⟩
  · have e : hid (fun _ => none) (fun _ => none) H = H := by
      funext b
      unfold hid
      rw [if_pos ⟨rfl, rfl⟩]
    rw [e]
    refine .cons (.fix hS ?_) .nil
    induction ns with
    | nil => exact .nil
    | cons n ns ih =>
      refine .cons (.int n) ?_
      clear ih h hS
      induction ns with
      | nil => exact .nil
      | cons m ns ih => exact .cons (.int m) ih
  · subst p
    cases i
    rfl
end Dz
set_option Elab.async false
set_option linter.all false
set_option maxRecDepth 100000
set_option maxHeartbeats 2000000
namespace Dz
open PySem L2
end Dz
set_option Elab.async false
set_option linter.all false
set_option maxRecDepth 100000
set_option maxHeartbeats 4000000
namespace Dz
open PySem L2 PyProof.Rows
end Dz
set_option Elab.async false
set_option linter.all false
set_option maxRecDepth 100000
set_option maxHeartbeats 2000000
namespace Dz
open PySem L2
end Dz
set_option Elab.async false
set_option linter.all false
set_option maxRecDepth 100000
set_option maxHeartbeats 2000000
namespace Dz
open PySem L2
end Dz
set_option Elab.async false
set_option linter.all false
set_option maxRecDepth 100000
set_option maxHeartbeats 2000000
namespace Dz
open PySem L2
variable [γ : Gd]
/-- a value of the top that is data whatever the heap is -/
def CI (K : PySem.W.Frag) (u : Value) (d : DV) : Prop := ∃ v, RelV v u ∧ ∀ H, Is K H v d
inductive CIs (K : PySem.W.Frag) : List Value → List DV → Prop
  | nil : CIs K [] []
  | cons {u : Value} {us : List Value} {d : DV} {ds : List DV} : CI K u d → CIs K us ds → CIs K (u :: us) (d :: ds)
theorem CIs.vals {K : PySem.W.Frag} : ∀ {us : List Value} {ds : List DV}, CIs K us ds → ∃ xs, Vals xs us ∧ ∀ H, Iss K H xs ds
  | _, _, .nil => ⟨[], .nil, fun _ => .nil⟩
  | _, _, .cons ⟨v, r, i⟩ h => by
    obtain ⟨xs, r2, i2⟩ := CIs.vals h
    exact ⟨v :: xs, .cons r r2, fun H => .cons (i H) (i2 H)⟩
end Dz
set_option Elab.async false
set_option linter.all false
set_option maxRecDepth 100000
set_option maxHeartbeats 2000000
namespace Dz
open PySem L2
end Dz
set_option Elab.async false
set_option linter.all false
set_option maxRecDepth 100000
set_option maxHeartbeats 2000000
namespace Dz
open PySem L2
variable [γ : Gd]
def lookD (f : List (Str × DV)) (z : Str) : Option DV := (f.find? fun e => decide (e.1 = z)).map (·.2)
end Dz
set_option Elab.async false
set_option linter.all false
set_option maxRecDepth 100000
set_option maxHeartbeats 2000000
namespace Dz
open PySem PySem.Spec L2 PySem.Froz PyProof.Rows
def keyT (e : Int × Value) : Str := match e.2 with | .str k _ => k | _ => ⟨#[]⟩
/-- the payload of a set that holds the texts l -/
structure TxSet (P : Program) (w : World) (D : SD) (l : List Str) : Prop where
  ok : TxOk P w D l
  str : ∀ e ∈ D.1.toList, ∃ k u, e.2 = Value.str k u
  pm : (D.1.toList.map keyT).Perm l
  nd : l.Nodup
  ris : Ris D.2.2.place.toList
  led : w.params.followText "set-order" = true ∨ D.2.2.led = true
section
variable {P : Program} {w : World} {A : Around} {E : Value → Shared → Prop} {s : Shared}
theorem TxSet.fresh (w : World) : TxSet P w (#[], 0, .fresh 0 0 (!w.params.followText "set-order")) [] :=
  ⟨TxOk.nil (by rfl), fun e he => by simp at he, List.Perm.refl _, List.nodup_nil, List.Pairwise.nil, by
    show _ ∨ (!w.params.followText "set-order") = true
    cases w.params.followText "set-order"
    · exact .inr rfl
    · exact .inl rfl⟩
/-- the set at a holds the texts l -/
def SetT (P : Program) (w : World) (h : Heap) (a : Addr) (l : List Str) : Prop := ∃ D, h.get? a = some (sObj "set" D) ∧ TxSet P w D l
theorem SetT.at {h h' : Heap} {a : Addr} {l : List Str} (x : SetT P w h a l) (k : ∀ o, h.get? a = some o → h'.get? a = some o) : SetT P w h' a l := by
  obtain ⟨D, e, f⟩ := x
  exact ⟨D, k _ e, f⟩
end
end Dz
set_option Elab.async false
set_option linter.all false
set_option maxRecDepth 100000
set_option maxHeartbeats 4000000
namespace Dz
open PySem PySem.Spec L2 PySem.Froz PyProof.Rows
end Dz
set_option Elab.async false
set_option linter.all false
set_option maxRecDepth 100000
set_option maxHeartbeats 4000000
namespace Dz
open PySem PySem.Spec L2 PySem.Froz PyProof.Rows
end Dz
set_option Elab.async false
set_option linter.all false
set_option maxRecDepth 100000
set_option maxHeartbeats 4000000
namespace Dz
open PySem PySem.Spec L2 PySem.Froz PyProof.Rows
end Dz
set_option Elab.async false
set_option linter.all false
set_option maxRecDepth 100000
set_option maxHeartbeats 4000000
namespace Dz
open PySem PySem.Spec L2 PySem.Froz PyProof.Rows
end Dz
set_option Elab.async false
set_option linter.all false
set_option maxRecDepth 100000
set_option maxHeartbeats 4000000
namespace Dz
open PySem PySem.Spec L2 PySem.Froz PyProof.Rows
end Dz
set_option Elab.async false
set_option linter.all false
set_option maxRecDepth 100000
set_option maxHeartbeats 2000000
namespace Dz
open PySem L2
variable [γ : Gd]
def delM (μ : Mh) (a : Addr) : Mh := fun b => if b = a then none else μ b
theorem delM_same {μ : Mh} {a : Addr} : delM μ a a = none := by unfold delM; rw [if_pos rfl]
theorem delM_ne {μ : Mh} {a b : Addr} (h : b ≠ a) : delM μ a b = μ b := by unfold delM; rw [if_neg h]
/-- new lists and dicts aside, the same objects -/
def NewOf (μ μ' : Mh) : Prop := ∀ b, μ' b = μ b ∨ (μ b = none ∧ ((∃ ds, μ' b = some (.lst ds)) ∨ ∃ ds, μ' b = some (.dct ds)))
theorem NewOf.refl {μ : Mh} : NewOf μ μ := fun _ => .inl rfl
theorem NewOf.lst {μ μ1 : Mh} {p : Addr} {ds : List DV} (h : NewOf μ μ1) (n : μ p = none) : NewOf μ (updM μ1 p (.lst ds)) := fun b => by
  by_cases e : b = p
  · subst e
    exact .inr ⟨n, .inl ⟨ds, updM_same⟩⟩
  · rw [updM_ne e]
    exact h b
theorem NewOf.dct {μ μ1 : Mh} {p : Addr} {ds : List (Key × DV)} (h : NewOf μ μ1) (n : μ p = none) : NewOf μ (updM μ1 p (.dct ds)) := fun b => by
  by_cases e : b = p
  · subst e
    exact .inr ⟨n, .inr ⟨ds, updM_same⟩⟩
  · rw [updM_ne e]
    exact h b
theorem NewOf.del {μ μ1 : Mh} {p : Addr} (h : NewOf μ μ1) (n : μ p = none) : NewOf μ (delM μ1 p) := fun b => by
  by_cases e : b = p
  · subst e
    exact .inl (by rw [delM_same, n])
  · rw [delM_ne e]
    exact h b
theorem NewOf.none {μ μ1 : Mh} {b : Addr} (h : NewOf μ μ1) (n : μ1 b = none) : μ b = none := by
  rcases h b with e | ⟨e, _⟩
  · rw [← e]; exact n
  · exact e
end Dz
set_option Elab.async false
set_option linter.all false
set_option maxRecDepth 100000
set_option maxHeartbeats 1000000
namespace Dz
open PySem L2
end Dz
set_option Elab.async false
set_option linter.all false
set_option maxRecDepth 100000
set_option maxHeartbeats 4000000
namespace Dz
open PySem L2
variable [γ : Gd]
section
variable {X : Cx}
variable {oe e : Expr} {pos apos : Pos} {wo we : WE}
def wgLst (n : Nat) (gs : WGs) : WG := fun d ρ P => match d with | .lst ds => ds.length = n ∧ gs ds ρ P | _ => False
theorem dg_lst {es : List Expr} {gs : WGs} {s1 : List Nat} {k n : Nat} (hc : X.calm = true) (h : PGs X es (tDGs X.K s1 gs)) (hn : (assignEach es X.env).length = n := by rfl) (hst : (assignEach es X.env).findIdx? (·.1) = none := by rfl) : PG X (.Tuple es k pos) (tDG X.K s1 (wgLst n gs)) :=
  PG.imp (pg_unl hc h hn hst) fun v σ H Q ⟨R, ρ, μ, d, P, a, r, w, k⟩ => by
    cases r with
    | lst hx rx => exact ⟨_, _, rfl, SqL.of (hid_le _ _ hx), by rw [rx.length]; exact w.1, R, ρ, μ, _, P, a, rx, w.2, k⟩
    | _ => exact (show False from w).elim
end
end Dz
set_option Elab.async false
set_option linter.all false
set_option maxRecDepth 100000
set_option maxHeartbeats 4000000
namespace Dz
open PySem PySem.Spec L2 PyProof.Rows StX
variable [γ : Gd]
/-- as FnR, where no repr runs around; the promise over data, any number of arguments -/
def FnSG (P : Program) (w : World) (K : PySem.W.Frag) (mg : Str → Option Value) (base : Heap) (k : Nat) (f : Addr) (wf : WF) : Prop :=
  ∀ (A : Around) (outer : List Env) (s : Shared) (H : Hp) (us : List Value) (vs : List V) (Q : VK) (E : XK), A.guards = some [] → Room k A → Env0 P w K mg base A outer s H → Vals vs us →
    (∃ R ds μ P', OkG Gd.non K R μ H ∧ Iss K (hid R μ H) vs ds ∧ wf ds μ P' ∧ @Nxt Gd.non K R μ H P' Q) → codeAny (model P w) A (.call (.ref f) ⟨us, []⟩) (CR CX0 outer P w H s Q E) s
theorem FnSG.mono {P : Program} {w : World} {K : PySem.W.Frag} {mg : Str → Option Value} {base : Heap} {j k : Nat} {f : Addr} {wf : WF} (F : FnSG P w K mg base j f wf) (h : j ≤ k) : FnSG P w K mg base k f wf :=
  fun A outer s H us vs Q E g r => F A outer s H us vs Q E g (r.mono h)
section
variable {P : Program} {w : World} {K : PySem.W.Frag} {mg : Str → Option Value} {base : Heap} {k : Nat} {f : Addr} {x qual : Str} {st : Stmt} {fd : FuncData} {N ps : List Str} {pv : Str} {wS : WS} {wf : WF}
/-- however the arguments come, as long as they are bound as these at their places -/
def FnSA (P : Program) (w : World) (K : PySem.W.Frag) (mg : Str → Option Value) (base : Heap) (k : Nat) (f : Addr) (fd : FuncData) (wf : WF) : Prop :=
  ∀ (A : Around) (outer : List Env) (s : Shared) (H : Hp) (ar : Args) (us : List Value) (vs : List V) (Q : VK) (E : XK), A.guards = some [] → Room k A → Env0 P w K mg base A outer s H → bindArgs fd ar = bindArgs fd ⟨us, []⟩ → Vals vs us →
    (∃ R ds μ P', OkG Gd.non K R μ H ∧ Iss K (hid R μ H) vs ds ∧ wf ds μ P' ∧ @Nxt Gd.non K R μ H P' Q) → codeAny (model P w) A (.call (.ref f) ar) (CR CX0 outer P w H s Q E) s
end
end Dz
set_option Elab.async false
set_option linter.all false
set_option maxRecDepth 100000
set_option maxHeartbeats 4000000
namespace Dz
open PySem PySem.Spec L2 PyProof.Rows StX
variable [γ : Gd]
def DefS (P : Program) (w : World) (K : PySem.W.Frag) (mg : Str → Option Value) (base : Heap) (k : Nat) (x : Str) (st : Stmt) (wf : WF) : Prop := ∃ f fd, mg x = some (.ref f) ∧ Fun K x x st f fd ∧ FnSA P w K mg base k f fd wf
theorem DefS.mono {P : Program} {w : World} {K : PySem.W.Frag} {mg : Str → Option Value} {base : Heap} {j k : Nat} {x : Str} {st : Stmt} {wf : WF} (h : DefS P w K mg base j x st wf) (l : j ≤ k) : DefS P w K mg base k x st wf :=
  let ⟨f, fd, a, b, c⟩ := h; ⟨f, fd, a, b, fun A outer s H ar us vs Q E g r => c A outer s H ar us vs Q E g (r.mono l)⟩
end Dz
set_option Elab.async false
set_option linter.all false
set_option maxRecDepth 100000
set_option maxHeartbeats 4000000
namespace Dz
open PySem PySem.Spec L2 PyProof.Rows StX
variable [γ : Gd]
/-- as ItD, where what R0 frames is framed -/
structure ItR (K : PySem.W.Frag) (Hm R0 : Hp) (J : It) (xs : List DV) : Prop where
  go : ∀ R μ H i, Ok K R μ H → (∀ b o, R0 b = some o → R b = some o) → Same Hm (hid R μ H) → i < xs.length → J.go i H
  yld : ∀ R μ H i x H', Ok K R μ H → (∀ b o, R0 b = some o → R b = some o) → Same Hm (hid R μ H) → J.yld i H x H' → i < xs.length → ∃ d, xs[i]? = some d ∧ Ok K R μ H' ∧ Same (hid R μ H) (hid R μ H') ∧ Is K (hid R μ H') x d
  stop : ∀ R μ H i, Ok K R μ H → (∀ b o, R0 b = some o → R b = some o) → Same Hm (hid R μ H) → xs.length ≤ i → J.stop i H
theorem ItR.vals {K : PySem.W.Frag} {Hm R0 : Hp} {a : Addr} {od : Obj} {kvs : List (Key × V)} {xs : List DV} (h : R0 a = some (.frz od (.dK kvs))) (r : Iss K Hm (kvs.map (·.2)) xs) : ItR K Hm R0 (Itd a od kvs) xs where
  go := fun R μ H i o f s hi => ⟨o.fr a _ (f _ _ h), by rw [← r.length, List.length_map] at hi; exact hi⟩
  yld := fun R μ H i x H' o f s y hi => by
    obtain ⟨rfl, k, e⟩ := y
    have e2 : (kvs.map (·.2))[i]? = some x := by rw [List.getElem?_map, e]; rfl
    obtain ⟨d, e3, k⟩ := r.getV e2
    exact ⟨d, e3, o, Same.refl _, k.mono s⟩
  stop := fun R μ H i o f s hi => ⟨o.fr a _ (f _ _ h), by rw [← r.length, List.length_map] at hi; exact hi⟩
end Dz
set_option Elab.async false
set_option linter.all false
set_option maxRecDepth 100000
set_option maxHeartbeats 4000000
namespace Dz
open PySem PySem.Spec L2 PyProof.Rows StX
end Dz
set_option Elab.async false
set_option linter.all false
set_option maxRecDepth 100000
set_option maxHeartbeats 4000000
namespace Dz
open PySem PySem.Spec L2 PyProof.Rows StX
end Dz
set_option Elab.async false
set_option linter.all false
set_option maxRecDepth 100000
set_option maxHeartbeats 4000000
namespace Dz
open PySem PySem.Spec L2 PyProof.Rows StX
variable [γ : Gd]
theorem Iss.fields {K : PySem.W.Frag} {Hm : Hp} : ∀ {gs : List (Str × V)} {fs : List (Str × DV)} {f : Str} {d : DV}, gs.map (·.1) = fs.map (·.1) → Iss K Hm (gs.map (·.2)) (fs.map (·.2)) → fs.lookup f = some d → ∃ v, gs.lookup f = some v ∧ Is K Hm v d
  | [], [], _, _, _, _, l => by cases l
  | [], _ :: _, _, _, h, _, _ => by cases h
  | _ :: _, [], _, _, h, _, _ => by cases h
  | (g, v) :: gs, (g', d') :: fs, f, d, h, r, l => by
    have h1 : g = g' := (List.cons.inj h).1
    subst h1
    cases r with
    | cons r rr =>
      rw [List.lookup_cons] at l ⊢
      cases e : (f == g) with
      | true =>
        rw [e] at l
        cases l
        exact ⟨v, rfl, r⟩
      | false =>
        rw [e] at l
        exact Iss.fields (List.cons.inj h).2 rr l
end Dz
set_option Elab.async false
set_option linter.all false
set_option maxRecDepth 100000
set_option maxHeartbeats 4000000
namespace Dz
open PySem PySem.Spec L2 PyProof.Rows StX
variable [γ : Gd]
/-- the method m of the class C is the def st -/
def AtM (K : PySem.W.Frag) (C : Addr) (m qual : Str) (st : Stmt) : Prop := ∃ f fd, Cls K C ∧ Meth K C m f ∧ Fun K m qual st f fd
def DefM (P : Program) (w : World) (K : PySem.W.Frag) (mg : Str → Option Value) (base : Heap) (k : Nat) (C : Addr) (m qual : Str) (st : Stmt) (ps : List Str) (wf : WF) : Prop :=
  ∃ f fd, Cls K C ∧ Meth K C m f ∧ Fun K m qual st f fd ∧ FnG P w K mg base k f fd ps (spD K ps.length wf)
theorem DefM.mono {P : Program} {w : World} {K : PySem.W.Frag} {mg : Str → Option Value} {base : Heap} {j k : Nat} {C : Addr} {m qual : Str} {st : Stmt} {ps : List Str} {wf : WF} (h : DefM P w K mg base j C m qual st ps wf) (l : j ≤ k) : DefM P w K mg base k C m qual st ps wf :=
  let ⟨f, fd, a, b, c, d⟩ := h; ⟨f, fd, a, b, c, d.mono l⟩
theorem DefM.no {P : Program} {w : World} {K : PySem.W.Frag} {mg : Str → Option Value} {base : Heap} {k : Nat} {C : Addr} {m qual : Str} {st : Stmt} {ps : List Str} (h : AtM K C m qual st) : DefM P w K mg base k C m qual st ps wfNo := by
  obtain ⟨f, fd, a, b, c⟩ := h
  exact ⟨f, fd, a, b, c, fun vs H Q E ⟨_, _, _, _, _, _, _, z, _⟩ => z.elim, fun A fr s H ar us vs Q E _ _ _ _ _ ⟨_, _, _, _, _, _, _, z, _⟩ => z.elim⟩
end Dz
set_option Elab.async false
set_option linter.all false
set_option maxRecDepth 100000
set_option maxHeartbeats 4000000
namespace Dz
open PySem PySem.Spec L2 PyProof.Rows StX
variable [γ : Gd]
/-- the class C makes its instances by the def st -/
def DefK (P : Program) (w : World) (K : PySem.W.Frag) (mg : Str → Option Value) (base : Heap) (k : Nat) (x : Str) (C : Addr) (qual : Str) (st : Stmt) (ps : List Str) (wf : WF) : Prop :=
  ∃ f fd, Mk K C f ∧ mg x = some (.ref C) ∧ Fun K "__init__" qual st f fd ∧ FnG P w K mg base k f fd ps (spD K ps.length wf)
theorem DefK.mono {P : Program} {w : World} {K : PySem.W.Frag} {mg : Str → Option Value} {base : Heap} {j k : Nat} {x : Str} {C : Addr} {qual : Str} {st : Stmt} {ps : List Str} {wf : WF} (h : DefK P w K mg base j x C qual st ps wf) (l : j ≤ k) : DefK P w K mg base k x C qual st ps wf :=
  let ⟨f, fd, a, b, c, d⟩ := h; ⟨f, fd, a, b, c, d.mono l⟩
end Dz
set_option Elab.async false
set_option linter.all false
set_option maxRecDepth 100000
set_option maxHeartbeats 4000000
namespace Dz
open PySem PySem.Spec L2 PyProof.Rows
end Dz
set_option Elab.async false
set_option linter.all false
set_option maxRecDepth 100000
set_option maxHeartbeats 2000000
namespace Dz
open PySem L2
variable [γ : Gd]
mutual
/-- the data x in place of the object at a -/
def subD (a : Addr) (x : DV) : DV → DV
  | .obj b => if b = a then x else .obj b
  | .tup ds => .tup (subDs a x ds)
  | .lst ds => .lst (subDs a x ds)
  | .dct kvs => .dct (subKv a x kvs)
  | .fix ds => .fix ds
  | .dn hs ks vs => .dn hs ks vs
  | .none => .none
  | .bool b => .bool b
  | .int i => .int i
  | .str s => .str s
def subDs (a : Addr) (x : DV) : List DV → List DV
  | [] => []
  | d :: ds => subD a x d :: subDs a x ds
def subKv (a : Addr) (x : DV) : List (Key × DV) → List (Key × DV)
  | [] => []
  | (k, d) :: ds => (k, subD a x d) :: subKv a x ds
end
theorem subKv_keys (a : Addr) (x : DV) : ∀ kvs : List (Key × DV), (subKv a x kvs).map (·.1) = kvs.map (·.1)
  | [] => rfl
  | (k, d) :: r => by rw [subKv, List.map_cons, List.map_cons, subKv_keys a x r]
theorem subKv_vals (a : Addr) (x : DV) : ∀ kvs : List (Key × DV), (subKv a x kvs).map (·.2) = subDs a x (kvs.map (·.2))
  | [] => by rw [List.map_nil, subDs]; rfl
  | (k, d) :: r => by rw [subKv, List.map_cons, List.map_cons, subDs, subKv_vals a x r]
mutual
theorem Is.sub {K : PySem.W.Frag} {H : Hp} {a : Addr} {x : DV} (hx : Is K H (.ref a) x) : ∀ {v : V} {d : DV}, Is K H v d → Is K H v (subD a x d)
  | _, _, .none => .none
  | _, _, .bool b => .bool b
  | _, _, .int i => .int i
  | _, _, .str s => .str s
  | _, _, .tup h r => by rw [subD]; exact .tup h (Iss.sub hx r)
  | _, _, .lst h r => by rw [subD]; exact .lst h (Iss.sub hx r)
  | _, _, .dct h k r => by
    rw [subD]
    exact .dct h (by rw [subKv_keys]; exact k) (by rw [subKv_vals]; exact Iss.sub hx r)
  | _, _, .obj b => by
    rw [subD]
    by_cases e : b = a
    · rw [if_pos e]
      subst e
      exact hx
    · rw [if_neg e]
      exact .obj b
  | _, _, .fix h r => .fix h r
  | _, _, .dn h n dp nd r r2 => .dn h n dp nd r r2
theorem Iss.sub {K : PySem.W.Frag} {H : Hp} {a : Addr} {x : DV} (hx : Is K H (.ref a) x) : ∀ {vs : List V} {ds : List DV}, Iss K H vs ds → Iss K H vs (subDs a x ds)
  | _, _, .nil => .nil
  | _, _, .cons h r => .cons (Is.sub hx h) (Iss.sub hx r)
end
end Dz
set_option Elab.async false
set_option linter.all false
set_option maxRecDepth 100000
set_option maxHeartbeats 2000000
namespace Dz
open PySem PySem.Spec L2 PyProof.Rows
section
variable {X : Cx} {pins : List (Addr × Obj)} {σ : L2.St} {H Hm : Hp} {s : Shared}
mutual
theorem nkey_is (I : Inv X pins σ H s) (sm : Same Hm H) : ∀ {v : V} {d : DV} {k : NestedKey} {u : Value}, Is X.K Hm v d → nkey d = some k → RelV v u → NestedIs s.heap k u
  | _, _, _, _, .none, e, r => by
    cases e
    obtain rfl := (show _ = Value.none from r)
    exact .none
  | _, _, _, _, .int i, e, r => by
    cases e
    obtain ⟨t, rfl⟩ := (show ∃ t, _ = Value.int i t from r)
    exact .int i t
  | _, _, _, _, .str x, e, r => by
    cases e
    obtain ⟨t, rfl⟩ := (show ∃ t, _ = Value.str x t from r)
    exact .text x t
  | _, _, _, _, .tup (a := a) (ds := ds) hx rx, e, r => by
    have e : (nkeys ds).map NestedKey.tup = some _ := e
    obtain ⟨ks, h1, h2⟩ := Option.map_eq_some_iff.mp e
    subst h2
    obtain rfl := (show _ = Value.ref a from r)
    obtain ⟨its, r', ⟨o, g1, g2, n, g3⟩, _⟩ := I.tuple (Same.seqT sm hx.t)
    exact .tup g1 g2 g3 (nkeys_is I sm rx h1 (by simpa using r'))
  | _, _, _, _, .bool b, e, _ => by cases e
  | _, _, _, _, .lst _ _, e, _ => by cases e
  | _, _, _, _, .dct _ _ _, e, _ => by cases e
  | _, _, _, _, .obj _, e, _ => by cases e
  | _, _, _, _, .fix _ _, e, _ => by cases e
  | _, _, _, _, .dn _ _ _ _ _ _, e, _ => by cases e
theorem nkeys_is (I : Inv X pins σ H s) (sm : Same Hm H) : ∀ {vs : List V} {ds : List DV} {ks : List NestedKey} {us : List Value}, Iss X.K Hm vs ds → nkeys ds = some ks → Vals vs us → NestedAll s.heap ks us
  | _, _, _, _, .nil, e, r => by
    cases e
    cases r
    exact .nil
  | _, _, _, _, .cons (d := d) (ds := ds) h rs, e, r => by
    cases r with
    | cons r1 r2 =>
      have e : (match nkey d, nkeys ds with | some k, some ks => some (k :: ks) | _, _ => none) = some _ := e
      cases h1 : nkey d with
      | none => rw [h1] at e; cases e
      | some k =>
        cases h2 : nkeys ds with
        | none => rw [h1, h2] at e; cases e
        | some ks =>
          rw [h1, h2] at e
          cases e
          exact .cons (nkey_is I sm h h1 r1) (nkeys_is I sm rs h2 r2)
end
abbrev KN (X : Cx) : HeapKind X.prog X.w NestedKey := nestedKind X.prog X.w
abbrev hsOf (X : Cx) : NestedKey → Int := fun k => k.hash X.w
/-- the dict at a, its keys and values -/
structure NDict (K : PySem.W.Frag) (hs : NestedKey → Int) (Hm H : Hp) (a : Addr) (es : List (NestedKey × Addr × V)) : Prop where
  at_ : Rd H a (rawN a hs es)
  keys : ∀ e ∈ es, e.1.depth ≤ 8 ∧ ∃ d, Is K Hm (.ref e.2.1) d ∧ nkey d = some e.1
  nd : (es.map (·.1)).Nodup
abbrev xsOf (es : List (NestedKey × Addr × V)) (xs : List (NestedKey × Addr × Value)) : Prop := xs.map (fun x => (x.1, x.2.1)) = es.map (fun e => (e.1, e.2.1)) ∧ Vals (es.map (·.2.2)) (xs.map (·.2.2))
theorem NDict.dict {a : Addr} {es : List (NestedKey × Addr × V)} (n : NDict X.K (hsOf X) Hm H a es) (I : Inv X pins σ H s) (sm : Same Hm H) :
    es.length ≤ sizeLine ∧ (a == sysModules) = false ∧ ∃ xs, xsOf es xs ∧ s.heap.DictOfH (KN X) a xs := by
  obtain ⟨⟨h1, h2, xs, h3, h4, o, ds, ep, g1, g2, g3, g4⟩, _, _⟩ := (show ObjOk X.prog X.w H s.heap a (rawN a (hsOf X) es) from n.at_.ok I.hok)
  have hk : xs.map (·.1) = es.map (·.1) := by
    have := congrArg (List.map Prod.fst) h3
    rw [List.map_map, List.map_map] at this
    exact this
  refine ⟨h1, h2, xs, ⟨h3, h4⟩, o, ds, ep, g1, g2, g3, g4, fun x hx => ?_, by rw [hk]; exact n.nd⟩
  have hm : (x.1, x.2.1) ∈ es.map (fun e => (e.1, e.2.1)) := by
    rw [← h3]
    exact List.mem_map.mpr ⟨x, hx, rfl⟩
  obtain ⟨e, he, ee⟩ := List.mem_map.mp hm
  have e1 : e.1 = x.1 := congrArg Prod.fst ee
  have e2 : e.2.1 = x.2.1 := congrArg Prod.snd ee
  obtain ⟨z, d, i, nk⟩ := n.keys e he
  refine ⟨?_, by rw [← e1]; exact z⟩
  rw [← e1, ← e2]
  exact nkey_is I sm i nk rfl
def lkE (es : List (NestedKey × Addr × V)) (k : NestedKey) : Option V := (es.find? fun e => decide (e.1 = k)).map (·.2.2)
theorem xsOf.at {k : NestedKey} : ∀ {es : List (NestedKey × Addr × V)} {xs : List (NestedKey × Addr × Value)}, xsOf es xs → RelO (lkE es k) ((atKey xs k).map (·.2))
  | [], [], _ => trivial
  | [], _ :: _, h => by have := congrArg List.length h.1; simp at this
  | _ :: _, [], h => by have := congrArg List.length h.1; simp at this
  | e :: es, x :: xs, h => by
    obtain ⟨h1, h2⟩ := h
    rw [List.map_cons, List.map_cons] at h1 h2
    injection h1 with h3 h4
    cases h2 with
    | cons r1 r2 =>
      have ek : x.1 = e.1 := congrArg Prod.fst h3
      unfold lkE atKey
      rw [List.find?_cons, List.find?_cons, ek]
      cases decide (e.1 = k) with
      | true => exact r1
      | false => exact xsOf.at (k := k) ⟨h4, r2⟩
variable {a b : Addr} {es : List (NestedKey × Addr × V)} {k : NestedKey} {d : DV} {A : Around} {E : Value → Shared → Prop}
end
end Dz
set_option Elab.async false
set_option linter.all false
set_option maxRecDepth 100000
set_option maxHeartbeats 2000000
namespace Dz
open PySem PySem.Spec L2 PyProof.Rows
end Dz
set_option Elab.async false
set_option linter.all false
set_option maxRecDepth 100000
set_option maxHeartbeats 2000000
namespace Dz
open PySem PySem.Spec L2 PyProof.Rows
end Dz
set_option Elab.async false
set_option linter.all false
set_option maxRecDepth 100000
set_option maxHeartbeats 2000000
namespace Dz
open PySem PySem.Spec L2 PyProof.Rows
end Dz
set_option Elab.async false
set_option linter.all false
set_option maxRecDepth 100000
set_option maxHeartbeats 2000000
namespace Dz
open PySem PySem.Spec L2 PyProof.Rows
variable [γ : Gd]
mutual
/-- a key's data -/
def kd : NestedKey → DV
  | .none => .none
  | .num i => .int i
  | .text x => .str x
  | .tup ks => .tup (kds ks)
def kds : List NestedKey → List DV
  | [] => []
  | k :: ks => kd k :: kds ks
end
end Dz
set_option Elab.async false
set_option linter.all false
set_option maxRecDepth 100000
set_option maxHeartbeats 2000000
namespace Dz
open PySem PySem.Spec L2 PyProof.Rows
end Dz
set_option Elab.async false
set_option linter.all false
set_option maxRecDepth 100000
set_option maxHeartbeats 2000000
namespace Dz
open PySem L2
variable [γ : Gd]
/-- new lists and dicts aside, the same objects -/
def NewN (μ μ' : Mh) : Prop := ∀ b, μ' b = μ b ∨ (μ b = none ∧ ∃ o, μ' b = some o ∧ o ≠ .inner)
theorem NewN.refl {μ : Mh} : NewN μ μ := fun _ => .inl rfl
theorem NewN.del {μ μ1 : Mh} {p : Addr} (h : NewN μ μ1) (n : μ p = none) : NewN μ (delM μ1 p) := fun b => by
  by_cases e : b = p
  · subst e
    exact .inl (by rw [delM_same, n])
  · rw [delM_ne e]
    exact h b
theorem NewN.none {μ μ1 : Mh} {b : Addr} (h : NewN μ μ1) (n : μ1 b = none) : μ b = none := by
  rcases h b with e | ⟨e, _⟩
  · rw [← e]; exact n
  · exact e
theorem NewN.at {μ μ1 : Mh} {b : Addr} {o : MO} (h : NewN μ μ1) (n : μ b = some o) : μ1 b = some o := by
  rcases h b with e | ⟨e, _⟩
  · rw [e]; exact n
  · rw [n] at e; cases e
theorem NewN.trans {μ μ1 μ2 : Mh} (h : NewN μ μ1) (h2 : NewN μ1 μ2) : NewN μ μ2 := fun b => by
  rcases h2 b with e | ⟨e, o, e2, i⟩
  · rw [e]; exact h b
  · exact .inr ⟨h.none e, o, e2, i⟩
end Dz
set_option Elab.async false
set_option linter.all false
set_option maxRecDepth 100000
set_option maxHeartbeats 2000000
namespace Dz
open PySem PySem.Spec L2 PyProof.Rows
end Dz
set_option Elab.async false
set_option linter.all false
set_option maxRecDepth 100000
set_option maxHeartbeats 4000000
namespace Dz
open PySem PySem.Spec L2 PyProof.Rows StX
end Dz
set_option Elab.async false
set_option linter.all false
set_option maxRecDepth 100000
set_option maxHeartbeats 4000000
namespace Dz
open PySem PySem.Spec L2 PyProof.Rows StX
variable [γ : Gd]
/-- the class C makes its instances by the def st, which takes any number of arguments -/
def DefKS (P : Program) (w : World) (K : PySem.W.Frag) (mg : Str → Option Value) (base : Heap) (k : Nat) (x : Str) (C : Addr) (qual : Str) (st : Stmt) (wf : WF) : Prop :=
  ∃ f fd, Mk K C f ∧ mg x = some (.ref C) ∧ Fun K "__init__" qual st f fd ∧ FnSG P w K mg base k f wf
theorem DefKS.mono {P : Program} {w : World} {K : PySem.W.Frag} {mg : Str → Option Value} {base : Heap} {j k : Nat} {x : Str} {C : Addr} {qual : Str} {st : Stmt} {wf : WF} (h : DefKS P w K mg base j x C qual st wf) (l : j ≤ k) : DefKS P w K mg base k x C qual st wf :=
  let ⟨f, fd, a, b, c, d⟩ := h; ⟨f, fd, a, b, c, d.mono l⟩
end Dz
set_option Elab.async false
set_option linter.all false
set_option maxRecDepth 100000
set_option maxHeartbeats 4000000
namespace Dz
open PySem PySem.Spec L2 PyProof.Rows StX
end Dz
set_option Elab.async false
set_option linter.all false
set_option maxRecDepth 100000
set_option maxHeartbeats 1000000
namespace Dz
open PySem PySem.Spec L2 PyProof.Rows
end Dz
set_option Elab.async false
set_option linter.all false
set_option maxRecDepth 100000
set_option maxHeartbeats 4000000
namespace Dz
open PySem PySem.Spec L2 PyProof.Rows
/-- what is wished of an exception within a def: its class, its fields, the names' values -/
abbrev XR := Addr → List (Str × DV) → Rho → Mh → Prop
/-- .. of one that leaves a def -/
abbrev XC := Addr → List (Str × DV) → Mh → Prop
abbrev WFX := List DV → Mh → (DV → Mh → Prop) → XC → Prop
/-- an exception's dict (none, if it has no fields) -/
def ExD (K : PySem.W.Frag) (Hm : Hp) (d : Option Addr) (fs : List (Str × DV)) : Prop :=
  (d = none ∧ fs = []) ∨ ∃ dx gs, d = some dx ∧ Hm dx = some (.xd gs) ∧ gs.map (·.1) = fs.map (·.1) ∧ Iss K Hm (gs.map (·.2)) (fs.map (·.2))
theorem ExD.mono {K : PySem.W.Frag} {Hm Hm' : Hp} {d : Option Addr} {fs : List (Str × DV)} (s : Same Hm Hm') (h : ExD K Hm d fs) : ExD K Hm' d fs := by
  rcases h with h | ⟨dx, gs, e, h1, h2, h3⟩
  · exact .inl h
  · exact .inr ⟨dx, gs, e, s _ _ h1, h2, h3.mono s⟩
/-- the frame that began stands yet -/
theorem OkG.atR {K : PySem.W.Frag} {R R' : Hp} {μ μ' : Mh} {H H' : Hp} (k : OkG (gd R μ H) K R' μ' H') : OkG Gd.non K R μ' H' ∧ Same (hid R μ H) (hid R μ' H') ∧ Same (hid R' μ' H') (hid R μ' H') := by
  letI : Gd := Gd.non
  have hs : Same (hid R' μ' H') (hid R μ' H') := fun b u e => by
    obtain ⟨e1, e2, e3⟩ := hid_some e
    have n : R b = none := by
      cases q : R b with
      | none => rfl
      | some o => have z := k.sub b o q; rw [e1] at z; cases z
    rw [hid_at n e2]
    exact e3
  exact ⟨⟨fun a o e => k.fr a o (k.sub a o e), fun a o e => k.dj a o (k.sub a o e), fun a o e => (k.ob a o e).mono hs rfl (fun _ _ => rfl) e (fun _ z => z), fun _ _ z => (by cases z), fun _ _ z => (by cases z)⟩, k.sam.trans hs, hs⟩
def NxtX (K : PySem.W.Frag) (R : Hp) (μ : Mh) (H : Hp) (XP : XC) (E : XK) : Prop :=
  ∀ C d fs μ' H', XP C fs μ' → OkG Gd.non K R μ' H' → Same (hid R μ H) (hid R μ' H') → ExD K (hid R μ' H') d fs → E (.ref C) d H'
theorem NxtX.step {K : PySem.W.Frag} {R : Hp} {μ μ' : Mh} {H H' : Hp} {XP : XC} {E : XK} (k : NxtX K R μ H XP E) (s : Same (hid R μ H) (hid R μ' H')) : NxtX K R μ' H' XP E := fun C d fs μ2 H2 p o s2 x => k C d fs μ2 H2 p o (s.trans s2) x
/-- the promise of a def that may raise -/
def spX (K : PySem.W.Frag) (n : Nat) (w : WFX) : Sp := fun vs H Q E => ∃ R ds μ P XP, OkG Gd.non K R μ H ∧ Iss K (hid R μ H) vs ds ∧ ds.length = n ∧ w ds μ P XP ∧ @Nxt Gd.non K R μ H P Q ∧ NxtX K R μ H XP E
/-- what xr wishes is what the frame takes -/
def LinkW (γ : Gd) (K : PySem.W.Frag) (xr : XR) (W : WX) : Prop := ∀ R ρ μ σ H C d fs, @At γ K R σ ρ μ H → ExD K (hid R μ H) d fs → xr C fs ρ μ → W (.ref C) d σ H
structure FnX (P : Program) (w : World) (K : PySem.W.Frag) (mg : Str → Option Value) (base : Heap) (k : Nat) (f : Addr) (fd : FuncData) (ps : List Str) (sp : Sp) : Prop where
  len : ∀ vs H Q E, sp vs H Q E → vs.length = ps.length
  run : ∀ (A : Around) (fr : List Env) (s : Shared) (H : Hp) (ar : Args) (us : List Value) (vs : List V) (Q : VK) (E : XK), A.guards = some [] → Room k A → Env0 P w K mg base A fr s H → BindsTo s fd ar (ps.zip us) → Vals vs us → sp vs H Q E →
    codeAny (model P w) A (.call (.ref f) ar) (CR (L2.CX P w) fr P w H s Q E) s
theorem FnX.mono {P : Program} {w : World} {K : PySem.W.Frag} {mg : Str → Option Value} {base : Heap} {j k : Nat} {f : Addr} {fd : FuncData} {ps : List Str} {sp : Sp} (F : FnX P w K mg base j f fd ps sp) (h : j ≤ k) : FnX P w K mg base k f fd ps sp :=
  ⟨F.len, fun A fr s H ar us vs Q E hg hr => F.run A fr s H ar us vs Q E hg (hr.mono h)⟩
theorem fnx_of {P : Program} {w : World} {K : PySem.W.Frag} {mg : Str → Option Value} {base : Heap} {x qual : Str} {st : Stmt} {f : Addr} {fd : FuncData} {N ps : List Str} {k : Nat} {sp : Sp} {dvs : List V} {kws : List (Str × V)} (F : FunD K x qual (defArgs st) (defBody st) (defScope st) dvs kws f fd) (S : FnScope N ps (defScope st)) (len : ∀ vs H Q E, sp vs H Q E → vs.length = ps.length)
    (body : ∀ (cdv : Value), fd.code = cdv → ∀ (A : Around) (fr : List Env) (s : Shared) (H : Hp) (vs : List V) (Q : VK) (E : XK), A.guards = some [] → Room k (A.deeper (envOfC qual (defScope st) s.heap.objs.size f cdv)) → sp vs H Q E →
      ∃ t, PSs (cxOf (L2.CX P w) P w K mg base N qual (defScope st) f cdv A fr s H E) (defBody st) t ∧ t { nx := fun _ H' => Q .non H', rt := Q } (start N vs) H) : FnX P w K mg base (k + 1) f fd ps sp := by
  obtain ⟨oc, od, dV, kV, doc, pm, an, cdv, ct, osl, rfl, lk, hcd, _, _⟩ := F.ex
  refine ⟨len, fun A fr s H ar us vs Q E hgd room env bnd rel want => ?_⟩
  have inK : K.In s.heap := env.mod.kin.keeps fun b o q => (env.bs b o q).1
  have nolim : s.heap.NoLimit := env.mod.nolimit.keeps fun b o q => (env.bs b o q).1
  have count := len vs H Q E want
  have kinds : ∀ y ∈ ps.zip us, (defScope st).names.lookup y.1 = some .local ∨ ((defScope st).names.lookup y.1 = some .cell ∧ ((cellsFrom (s.heap.objs.size + 1) (defScope st).names []).lookup y.1).isSome = true) := by
    rintro ⟨nm, vv⟩ hy
    have hp := S.par nm (List.of_mem_zip hy).1
    rcases hp with hp | hp
    · exact Or.inl hp
    · exact Or.inr ⟨hp, PySem.W.cellsFrom_some _ _ _ (Or.inl hp)⟩
  refine codeAny_call_function room.depth (inK _ _ lk) rfl S.co S.gen rfl (PySem.W.codeRec_of inK hcd) (bnd _ _ _ _ ?_)
  refine wpAny_newFunctionEnv_cells S.kind kinds fun ev hev s1 x1 => ?_
  subst hev
  refine ⟨nolim.keeps x1.toInCall.keep, codeAny_func ?_⟩
  obtain ⟨t, ht, hq⟩ := body cdv rfl A fr s H vs Q E hgd (room.deeper _) want
  have I0 := inv_start (CX := L2.CX P w) (E := E) S room.hd env count rel x1
  refine wpAny_mono (ht.run [] s1 (start N vs) H _ I0 hq) (fun flow s2 hs => ?_) fun er s2 hs => hs
  cases flow with
  | next =>
    obtain ⟨σ2, H2, J, q⟩ := hs
    exact ⟨.non, H2, J.os, J.bare, J.base, J.hok, rfl, q⟩
  | ret u =>
    obtain ⟨v, σ2, H2, J, rv, q⟩ := hs
    exact ⟨v, H2, J.os, J.bare, J.base, J.hok, rv, q⟩
  | brk =>
    obtain ⟨_, _, _, q⟩ := hs
    exact q.elim
  | cont =>
    obtain ⟨_, _, _, q⟩ := hs
    exact q.elim
section
variable {P : Program} {w0 : World} {K : PySem.W.Frag} {mg : Str → Option Value} {base : Heap}
/-- a body's reading gives the promise -/
theorem fn_datXC {x qual : Str} {st : Stmt} {f : Addr} {fd : FuncData} {N ps : List Str} {k n : Nat} {w : XR → WS} {wf : WFX} {dvs : List V} {kws : List (Str × V)} (F : FunD K x qual (defArgs st) (defBody st) (defScope st) dvs kws f fd) (S : FnScope N ps (defScope st)) (hn : ps.length = n)
    (hb : ∀ (γ : Gd) (cdv : Value), fd.code = cdv → ∀ (A : Around) (outer : List Env) (s : Shared) (H : Hp) (E : XK) (W : WX) (xr : XR), A.guards = some [] → Room k (A.deeper (envOfC qual (defScope st) s.heap.objs.size f cdv)) →
      Takes (cxOf (L2.CX P w0) P w0 K mg base N qual (defScope st) f cdv A outer s H E) W → PassesOwn (model P w0) (A.deeper (envOfC qual (defScope st) s.heap.objs.size f cdv)) (envOfC qual (defScope st) s.heap.objs.size f cdv) (cxOf (L2.CX P w0) P w0 K mg base N qual (defScope st) f cdv A outer s H E).xe → LinkW γ K xr W →
      PSs (cxOf (L2.CX P w0) P w0 K mg base N qual (defScope st) f cdv A outer s H E) (defBody st) (@tDS γ K (w xr)))
    (hw : ∀ ds μ Q XP, ds.length = n → wf ds μ Q XP → w (fun C fs _ μ' => XP C fs μ') { nx := fun _ μ' => Q .none μ', rt := Q } (ds.map some ++ List.replicate (N.length - n) none) μ)   : FnX P w0 K mg base (k + 1) f fd ps (spX K n wf) := by
  letI : Gd := Gd.non
  refine fnx_of F S (fun vs H Q E h => ?_) (fun cdv hcd A outer s H vs Q E hgd hr h => ?_)
  · obtain ⟨R, ds, μ, P', XP, o, r, l, _⟩ := h
    rw [r.length, l, hn]
  · obtain ⟨R, ds, μ, P', XP, o, r, l, w1, k1, kx⟩ := h
    refine ⟨_, hb (gd R μ H) cdv hcd A outer s H E (fun cls d _ H' => E cls d H') (fun C fs _ μ' => XP C fs μ') hgd hr (takes_of (E := E) rfl rfl rfl rfl) (passes_of rfl) (fun R' ρ' μ' σ' H' C d fs a x p => ?_), R, ds.map some ++ List.replicate (N.length - n) none, μ, { nx := fun _ μ' => P' .none μ', rt := P' }, ?_, hw ds μ P' XP l w1, ?_⟩
    · obtain ⟨o2, s2, s3⟩ := OkG.atR (@At.ok (gd R μ H) _ _ _ _ _ _ a)
      exact kx C d fs μ' H' p o2 s2 (x.mono s3)
    · refine @At.mk (gd R μ H) K R _ _ μ H (Ok.now o) ?_
      rw [← l]
      exact Sl.start r
    · exact @NxtD.mk (gd R μ H) K R μ H _ _ (fun ρ' μ' σ' H' p a' s' => k1 .none μ' .non H' p (OkG.atR (@At.ok (gd R μ H) _ _ _ _ _ _ a')).1 s' .none) (fun d μ' v H' p o' s' i => k1 d μ' v H' p (OkG.atR o').1 s' i) (fun _ _ _ _ p => p.elim) (fun _ _ _ _ p => p.elim)
theorem fn_datX {x qual : Str} {st : Stmt} {f : Addr} {fd : FuncData} {N ps : List Str} {k n : Nat} {w : XR → WS} {wf : WFX} {dvs : List V} {kws : List (Str × V)} (F : FunD K x qual (defArgs st) (defBody st) (defScope st) dvs kws f fd) (S : FnScope N ps (defScope st)) (hn : ps.length = n)
    (hb : ∀ (γ : Gd) (cdv : Value) (A : Around) (outer : List Env) (s : Shared) (H : Hp) (E : XK) (W : WX) (xr : XR), A.guards = some [] → Room k (A.deeper (envOfC qual (defScope st) s.heap.objs.size f cdv)) →
      Takes (cxOf (L2.CX P w0) P w0 K mg base N qual (defScope st) f cdv A outer s H E) W → PassesOwn (model P w0) (A.deeper (envOfC qual (defScope st) s.heap.objs.size f cdv)) (envOfC qual (defScope st) s.heap.objs.size f cdv) (cxOf (L2.CX P w0) P w0 K mg base N qual (defScope st) f cdv A outer s H E).xe → LinkW γ K xr W →
      PSs (cxOf (L2.CX P w0) P w0 K mg base N qual (defScope st) f cdv A outer s H E) (defBody st) (@tDS γ K (w xr)))
    (hw : ∀ ds μ Q XP, ds.length = n → wf ds μ Q XP → w (fun C fs _ μ' => XP C fs μ') { nx := fun _ μ' => Q .none μ', rt := Q } (ds.map some ++ List.replicate (N.length - n) none) μ)   : FnX P w0 K mg base (k + 1) f fd ps (spX K n wf) :=
  fn_datXC F S hn (fun γ cdv _ => hb γ cdv) hw
end
variable [γ : Gd]
abbrev WMk := Rho → Mh → XC → Prop
/-- an exception made -/
def tMk (K : PySem.W.Frag) (w : WMk) : L2.St → Hp → XK → Prop := fun σ H Q => ∃ R ρ μ XP, At K R σ ρ μ H ∧ w ρ μ XP ∧ ∀ C d fs μ' H', XP C fs μ' → Ok K R μ' H' → Same (hid R μ H) (hid R μ' H') → ExD K (hid R μ' H') d fs → Q (.ref C) d H'
def wRaise (xr : XR) (w : WMk) : WS := fun _ ρ μ => w ρ μ fun C fs μ1 => xr C fs ρ μ1
theorem PMk.imp {X : Cx} {e : Expr} {t t' : L2.St → Hp → XK → Prop} (h : PMk X e t) (i : ∀ σ H Q, t' σ H Q → t σ H Q) : PMk X e t' := fun pins s σ H Q I w => h pins s σ H Q I (i _ _ _ w)
theorem ds_raise {X : Cx} {W : WX} {xr : XR} {e : Expr} {w : WMk} {pos : Pos} (tk : Takes X W) (lk : LinkW γ X.K xr W) (he : PMk X e (tMk X.K w)) (hc : X.calm = true := by rfl) : PS X (.Raise (some e) none pos) (tDS X.K (wRaise xr w)) :=
  PS.imp (ps_raise hc tk he) fun D σ H ⟨R, ρ, μ, E, a, w, k⟩ => ⟨R, ρ, μ, _, a, w, fun C d fs μ1 H1 p o s x => lk R ρ μ1 σ H1 C d fs (a.step o s) x p⟩
section
variable {X : Cx} {k j n : Nat} {f : Addr} {fd : FuncData} {ps : List Str} {sp : Sp} {wf : WFX} {x : Str} {p pos : Pos} {e : Expr} {es : List Expr} {wa wk : WA} {W : WX} {xr : XR}
theorem runX {pins : List (Addr × Obj)} {σ : L2.St} {H : Hp} {s : Shared} {Q : VK} {ar : Args} {us : List Value} {vs : List V} (F : FnX X.prog X.w X.K X.mg X.base k f fd ps sp) (hgd : X.A.guards = some []) (hr : Room k X.A) (tk : Takes X W) (I : Inv X pins σ H s) (hb : BindsTo s fd ar (ps.zip us)) (r : Vals vs us)
    (h : sp vs H Q fun cls d H' => W cls d σ H') : wpAny (model X.prog X.w) X.A (PySem.call (.ref f) ar.pos ar.kw) (EP X pins σ Q) X.xe s := by
  refine wpAny_call (codeAny_mono (F.run X.A X.stack s H ⟨ar.pos, ar.kw⟩ us vs Q _ hgd hr I.env0 hb r h) fun res s' hq => ?_)
  match res, hq with
  | .ok (.ret u), hq => exact I.after hq
  | .error er, hq => exact tk er s' (XE.of_call I (fun _ _ _ z => z) hq)
/-- what a caller's data give -/
theorem spX_of {K : PySem.W.Frag} {R : Hp} {ρ : Rho} {μ μ1 : Mh} {H H1 : Hp} {σ : L2.St} {P : DV → Mh → Prop} {Q : VK} {vs : List V} {ds : List DV} (a : At K R σ ρ μ H) (lk : LinkW γ K xr W) (kk : Nxt K R μ1 H1 P Q) (o1 : Ok K R μ1 H1) (s1 : Same (hid R μ H) (hid R μ1 H1)) (i1 : Iss K (hid R μ1 H1) vs ds)
    (hl : ds.length = n) (w : wf ds μ1 P fun C fs μ2 => xr C fs ρ μ2) : spX K n wf vs H1 Q fun cls d H' => W cls d σ H' :=
  ⟨R, ds, μ1, P, _, o1.non, i1, hl, w, kk.non o1, fun C d fs μ' H' p o' s' x => lk R ρ μ' σ H' C d fs (a.step (o1.back o' s') (s1.trans s')) x p⟩
end
end Dz
set_option Elab.async false
set_option linter.all false
set_option maxRecDepth 100000
set_option maxHeartbeats 4000000
namespace Dz
open PySem PySem.Spec L2 PyProof.Rows
/-- a def without defaults, as one with -/
theorem toD {K : PySem.W.Frag} {x qual : Str} {st : Stmt} {f : Addr} {fd : FuncData} (F : Fun K x qual st f fd) : FunD K x qual (defArgs st) (defBody st) (defScope st) [] [] f fd := by
  obtain ⟨oc, od, kV, doc, pm, an, cdv, ct, osl, h1, h2, h3⟩ := F.ex
  exact ⟨⟨oc, od, .none, kV, doc, pm, an, cdv, ct, osl, h1, h2, h3, .inl ⟨rfl, rfl⟩, .inl rfl⟩, F.kp⟩
abbrev FunS (K : PySem.W.Frag) (x qual : Str) (st : Stmt) (dvs : List V) (kws : List (Str × V)) (f : Addr) (fd : FuncData) : Prop := FunD K x qual (defArgs st) (defBody st) (defScope st) dvs kws f fd
def AtD (K : PySem.W.Frag) (mg : Str → Option Value) (x : Str) (st : Stmt) (dvs : List V) (kws : List (Str × V)) : Prop := ∃ f fd, mg x = some (.ref f) ∧ FunS K x x st dvs kws f fd
theorem at1_d {K : PySem.W.Frag} {mg : Str → Option Value} {x : Str} {st : Stmt} (h : At1 K mg x st) : AtD K mg x st [] [] := let ⟨f, fd, a, F⟩ := h; ⟨f, fd, a, toD F⟩
/-- a def that may raise -/
def DefX (P : Program) (w : World) (K : PySem.W.Frag) (mg : Str → Option Value) (base : Heap) (k : Nat) (x : Str) (st : Stmt) (dvs : List V) (kws : List (Str × V)) (ps : List Str) (wf : WFX) : Prop :=
  ∃ f fd, mg x = some (.ref f) ∧ FunS K x x st dvs kws f fd ∧ FnX P w K mg base k f fd ps (spX K ps.length wf)
def DefMX (P : Program) (w : World) (K : PySem.W.Frag) (mg : Str → Option Value) (base : Heap) (k : Nat) (C : Addr) (m qual : Str) (st : Stmt) (dvs : List V) (kws : List (Str × V)) (ps : List Str) (wf : WFX) : Prop :=
  ∃ f fd, Cls K C ∧ Meth K C m f ∧ FunS K m qual st dvs kws f fd ∧ FnX P w K mg base k f fd ps (spX K ps.length wf)
section
variable {P : Program} {w0 : World} {K : PySem.W.Frag} {mg : Str → Option Value} {base : Heap} {C : Addr} {x m qual : Str} {st : Stmt} {dvs : List V} {kws : List (Str × V)} {N ps : List Str} {j k : Nat} {w : XR → WS} {wf : WFX}
theorem DefX.mono (h : DefX P w0 K mg base j x st dvs kws ps wf) (l : j ≤ k) : DefX P w0 K mg base k x st dvs kws ps wf := let ⟨f, fd, a, b, c⟩ := h; ⟨f, fd, a, b, c.mono l⟩
theorem DefMX.mono (h : DefMX P w0 K mg base j C m qual st dvs kws ps wf) (l : j ≤ k) : DefMX P w0 K mg base k C m qual st dvs kws ps wf := let ⟨f, fd, a, b, c, d⟩ := h; ⟨f, fd, a, b, c, d.mono l⟩
/-- what is shown of a body that may raise -/
def BodyX (P : Program) (w0 : World) (K : PySem.W.Frag) (mg : Str → Option Value) (base : Heap) (k : Nat) (qual : Str) (st : Stmt) (N : List Str) (w : XR → WS) : Prop :=
  ∀ (γ : Gd) (f : Addr) (cdv : Value) (A : Around) (outer : List Env) (s : Shared) (H : Hp) (E : XK) (W : WX) (xr : XR), A.guards = some [] → Room k (A.deeper (envOfC qual (defScope st) s.heap.objs.size f cdv)) →
    Takes (cxOf (L2.CX P w0) P w0 K mg base N qual (defScope st) f cdv A outer s H E) W → PassesOwn (model P w0) (A.deeper (envOfC qual (defScope st) s.heap.objs.size f cdv)) (envOfC qual (defScope st) s.heap.objs.size f cdv) (cxOf (L2.CX P w0) P w0 K mg base N qual (defScope st) f cdv A outer s H E).xe → LinkW γ K xr W →
    PSs (cxOf (L2.CX P w0) P w0 K mg base N qual (defScope st) f cdv A outer s H E) (defBody st) (@tDS γ K (w xr))
theorem defX_of (h : AtD K mg x st dvs kws) (S : FnScope N ps (defScope st)) (hb : BodyX P w0 K mg base k x st N w)
    (hw : ∀ ds μ Q XP, ds.length = ps.length → wf ds μ Q XP → w (fun C fs _ μ' => XP C fs μ') { nx := fun _ μ' => Q .none μ', rt := Q } (ds.map some ++ List.replicate (N.length - ps.length) none) μ) : DefX P w0 K mg base (k + 1) x st dvs kws ps wf := by
  obtain ⟨f, fd, a, F⟩ := h
  exact ⟨f, fd, a, F, fn_datX F S rfl (fun γ => hb γ f) hw⟩
end
variable [γ : Gd]
/-- a method of an instance of C that may raise; gD puts the arguments in the parameters' order -/
def wMethX (xr : XR) (C : Addr) (m : Str) (n1 n2 n : Nat) (wf : WFX) (gD : List DV → List DV → List DV) (wo : WE) (wa wk : WA) : WE := fun ρ μ P => wo ρ μ fun x μ1 => match x with
  | .obj a => (match μ1 a with | some (.ins C' fs) => C' = C ∧ fs.lookup m = none | _ => False) ∧ wa ρ μ1 fun ds μ2 => wk ρ μ2 fun zs μ3 => ds.length = n1 ∧ zs.length = n2 ∧ (gD (.obj a :: ds) zs).length = n ∧ wf (gD (.obj a :: ds) zs) μ3 P fun C fs μ4 => xr C fs ρ μ4
  | _ => False
def wFnX (xr : XR) (n1 n2 n : Nat) (wf : WFX) (gD : List DV → List DV → List DV) (wa wk : WA) : WE := fun ρ μ P => wa ρ μ fun ds μ2 => wk ρ μ2 fun zs μ3 => ds.length = n1 ∧ zs.length = n2 ∧ (gD ds zs).length = n ∧ wf (gD ds zs) μ3 P fun C fs μ4 => xr C fs ρ μ4
section
variable {X : Cx} {k j n n1 : Nat} {C : Addr} {st : Stmt} {dvs : List V} {kwd : List (Str × V)} {ps ks : List Str} {wf : WFX} {x m qual : Str} {p apos pos : Pos} {o e : Expr} {es : List Expr} {kws : List Keyword} {wo : WE} {wa wk : WA} {pl : Sem Bool} {W : WX} {xr : XR}
  {gV : List V → List V → List V} {gD : List DV → List DV → List DV}
/-- how a call binds: n1 values by place, the keywords ks -/
abbrev HowB (K : PySem.W.Frag) (x qual : Str) (st : Stmt) (dvs : List V) (kwd : List (Str × V)) (ps : List Str) (n1 : Nat) (ks : List Str) (gV : List V → List V → List V) : Prop := ∀ f fd, FunS K x qual st dvs kwd f fd → ∃ g, KBn K fd ps n1 ks g gV
abbrev HowD (K : PySem.W.Frag) (gV : List V → List V → List V) (gD : List DV → List DV → List DV) : Prop := ∀ (H : Hp) (vs zs : List V) (ds es : List DV), Iss K H vs ds → Iss K H zs es → Iss K H (gV vs zs) (gD ds es)
/-- f(e, .., k = v, ..) that may raise -/
theorem d_fnX (D : DefX X.prog X.w X.K X.mg X.base k x st dvs kwd ps wf) (hgd : X.A.guards = some []) (hr : Room j X.A) (hk : k ≤ j) (tk : Takes X W) (lk : LinkW γ X.K xr W) (hgl : Gl X x) (hb : HowB X.K x x st dvs kwd ps n1 ks gV) (hg : HowD X.K gV gD)
    (ha : PA X (e :: es) (tDA X.K wa)) (hkw : PK X kws (tDA X.K wk)) (hall : (backToKw pos (keywordEach kws X.env)).all (·.1.isSome) = true := by rfl) (hks : (backToKw pos (keywordEach kws X.env)).filterMap (·.1) = ks := by rfl) (hdb : (x == ("__debug__" : Str)) = false := by decide)
    (hst : starEach (e :: es) X.env = (false, eval e X.env) :: starEach es X.env := by rfl) (hpl : ((backTo pos (starEach (e :: es) X.env)).any (·.1) || (backToKw pos (keywordEach kws X.env)).any (·.1.isNone)) = false := by rfl) (hn : ps.length = n := by rfl) :
    PE X (.Call (.Name x p) (e :: es) kws pos) (tD X.K (wFnX xr n1 ks.length n wf gD wa wk)) := by
  subst hn
  obtain ⟨f, fd, hm, F, G⟩ := D
  obtain ⟨g, KB⟩ := hb f fd F
  refine ⟨fun pins s σ H Q I ⟨R, ρ, μ, P, a, w, kk⟩ => ?_⟩
  have h1 : tDA X.K wa σ H (fun vs H2 => tDA X.K wk σ H2 fun zs H3 => vs.length = n1 ∧ zs.length = ks.length ∧ spX X.K ps.length wf (gV vs zs) H3 Q fun cls d H' => W cls d σ H') := ⟨R, ρ, μ, _, a, w, fun ds μ2 vs H2 p4 o2 s2 i2 => ⟨R, ρ, μ2, _, a.step o2 s2, p4, fun zs μ3 ws H3 p5 o3 s3 i3 => by
    obtain ⟨q1, q2, q3, q4⟩ := p5
    exact ⟨by rw [i2.length]; exact q1, by rw [i3.length]; exact q2, spX_of a lk (kk.step (s2.trans s3)) o3 (s2.trans s3) (hg _ _ _ _ _ (i2.mono s3) i3) q3 q4⟩⟩⟩
  refine wpAny_Call_Name_kw (ld_glob I hgl hm ?_ hdb)
  refine PySem.W.callWith_KW (h₀ := X.base) I.ok.mod.kin F.kp hall (thn (ha.run pos pins s σ H _ I h1) fun us s2 ⟨vs, H2, I2, r, q2⟩ => ?_) hpl hst
  refine thn (hkw.run pos pins s2 σ H2 _ I2 q2) fun ws s3 ⟨zs, H3, I3, rz, l1, l2, q3⟩ => ⟨I3.kIn, ?_⟩
  rw [hks]
  exact runX (ar := ⟨us, ks.zip ws⟩) G hgd (hr.mono hk) tk I3 (KB.to s3 us ws I3.kIn (by rw [← r.length, l1]) (by rw [← rz.length, l2])) (KB.rel r rz) q3
end
end Dz
set_option Elab.async false
set_option linter.all false
set_option maxRecDepth 100000
set_option maxHeartbeats 4000000
namespace Dz
open PySem PySem.W PySem.Calls PyProof.Rows
abbrev exB : List Value := [.type "Exception", .type "BaseException", .type "object"]
theorem exB_ne {l : List Value} (h : excTail exB l = true) : l.isEmpty = false := by
  cases l with
  | cons _ _ => rfl
  | nil => exact absurd h (by decide)
section
open Builtin Builtin.ObjectAttr
variable {prog : Program} {w : World} {A : Around} {E : Value → Shared → Prop} {R : Result → Shared → Prop} {hp : Heap} {g : Array GenState} {dr : Drawn} {t : Nat} {os : OsState}
  {K : Frag} {nm : Str} {tok : Tok} {u : Value} {a C : Addr} {fv : Array Value} {cd : ClassData}
/-- what object.__setattr__ asks before it stores -/
theorem osa_ask {ob : Obj} {od : Option Obj} (KI : K.In hp) (at_ : InstAt hp a ob C od) (hcl : clsIn K C = some cd) (htl : excTail exB cd.mro = true) (hat : findIn K (.ref C) nm = some none)
    (next : wpAny (model prog w) A.in1 (storeInOwnDict (.ref a) (.ref C) (.str nm tok) nm u false) (fun fin s' => match fin with | .done f => R (.ok f) s' | .again c' => c'.quiet = true ∧ codeAny (model prog w) A c' R s') (fun e s' => R (.error e) s') ⟨hp, g, dr, t, os⟩) :
    codeAny (model prog w) A (.call (.builtin "object.__setattr__") ⟨[.ref a, .str nm tok, u], []⟩) R ⟨hp, g, dr, t, os⟩ := by
  have facts := PySem.F.store_object
  have top : cd.mro.contains (.type "object") = true := by
    rw [excTail_contains "object" _ htl]
    decide +kernel
  have isO : mroIn K C (.type "object") = some true := by
    unfold mroIn
    rw [hcl, Option.bind_some, exB_ne htl, if_neg Bool.false_ne_true, top]
  have lkT : Looks (model prog w) hp (typeOf (.ref a)) (.ref C) := at_.type
  have lkI : Looks (model prog w) hp (isInstance (.ref a) (.type "object")) true := lkT.andThen (looks_mroIn KI isO)
  have lkM : Looks (model prog w) hp (mroOf (.ref C)) cd.mro := Looks.andThen (looks_clsIn KI hcl) .now
  refine codeAny_call_builtin facts.slot.plain facts.entry ?_
  refine @check_slot (model prog w) _ _ ⟨hp, g, dr, t, os⟩ "object.__setattr__" "object" "__setattr__" (.ref a) [.str nm tok, u] [] _ facts.kind facts.split lkI (facts.args (.ref a) (.str nm tok) u) ?_
  rw [osa_eq]
  rw [refuse_eq]
  refine wpAny_bind (wpAny_bind (lkT.at ?_))
  refine wpAny_bind (lkM.at ?_)
  rw [excTail_pass (.ref a) (PySem.F.store_Exception.passes _) cd.mro htl]
  refine wpAny_pure (wpAny_bind (lkT.at ?_))
  refine wpAny_bind (Looks.at (looks_findIn KI hat) ?_)
  refine wpAny_bind (Looks.at (show Looks (model prog w) hp (storeTaker? none) none from .now) ?_)
  exact next
/-- the first attribute: the dict is laid -/
theorem osa_one (KI : K.In hp) (hob : hp.get? a = some { cls := .ref C, data := .fields fv }) (hcl : clsIn K C = some cd) (htl : excTail exB cd.mro = true) (hhd : cd.hasDict = true) (hat : findIn K (.ref C) nm = some none)
    (fin : ∀ h' tk' dx, (∀ b o, b ≠ a → hp.get? b = some o → h'.get? b = some o) → hp.objs.size ≤ dx → dx ≠ a → h'.get? a = some { cls := .ref C, dict := some dx, data := .fields fv } →
      h'.Ns1 dx (fun y => if y = nm then some u else none) → R (.ok (.ret .none)) ⟨h', g, dr, tk', os⟩) :
    codeAny (model prog w) A (.call (.builtin "object.__setattr__") ⟨[.ref a, .str nm tok, u], []⟩) R ⟨hp, g, dr, t, os⟩ := by
  refine osa_ask (od := none) KI ⟨hob, rfl, rfl, trivial⟩ hcl htl hat ?_
  have kcl : Looks (model prog w) hp (classData C) cd := looks_clsIn KI hcl
  have apart : hp.objs.size ≠ a := Nat.ne_of_gt (Heap.lt_size hob)
  obtain ⟨n1, n2, n3, n4, n5, n6, n7, n8, n9, n10, n11⟩ := cd
  dsimp only at hhd
  subst hhd
  unfold storeInOwnDict
  unfold ownDictForStores
  repeat
    first
    | with_reducible refine HandSPX.store_in_new ?_ ?_
    | with_reducible refine wpAny_loadPart_at hob ?_
    | with_reducible refine kcl.at ?_
    | wp_step
  · refine ⟨_, #[], _, (Heap.get?_update_ne _ _ _ _ apart).trans (Heap.get?_push_at rfl rfl), rfl, fun e he => ?_, fun _ => rfl⟩
    exact absurd he (by simp)
  · intro h' tk' ns same
    have pushed : (hp.push { cls := .type "dict", data := .dict #[] }).get? a = some { cls := .ref C, data := .fields fv } := Heap.get?_push_of_some _ hob
    refine fin h' tk' hp.objs.size (fun b o hb ho => ?_) (Nat.le_refl _) apart ?_ ns
    · have neb : b ≠ hp.objs.size := Nat.ne_of_lt (Heap.lt_size ho)
      rw [same.2 b neb, Heap.get?_update_ne _ _ _ _ hb]
      exact Heap.get?_push_of_some _ ho
    · rw [same.2 a (Ne.symm apart)]
      exact Heap.get?_update_self _ pushed rfl
/-- a further attribute -/
theorem osa_more {dx : Addr} {m0 : Str → Option Value} {nl : List Str} (KI : K.In hp) (hob : hp.get? a = some { cls := .ref C, dict := some dx, data := .fields fv }) (hns : hp.Ns1 dx m0) (hwi : Within m0 nl) (hsz : nl.length ≤ 1000) (hcl : clsIn K C = some cd) (htl : excTail exB cd.mro = true) (hhd : cd.hasDict = true)
    (hat : findIn K (.ref C) nm = some none)
    (fin : ∀ h' tk', (∀ b o, b ≠ dx → hp.get? b = some o → h'.get? b = some o) → h'.Ns1 dx (fun y => if y = nm then some u else m0 y) → R (.ok (.ret .none)) ⟨h', g, dr, tk', os⟩) :
    codeAny (model prog w) A (.call (.builtin "object.__setattr__") ⟨[.ref a, .str nm tok, u], []⟩) R ⟨hp, g, dr, t, os⟩ := by
  obtain ⟨od, _, _, hod, _, _⟩ := hns.count hwi
  refine osa_ask (od := some od) KI ⟨hob, rfl, rfl, hod⟩ hcl htl hat ?_
  have kcl : Looks (model prog w) hp (classData C) cd := looks_clsIn KI hcl
  obtain ⟨n1, n2, n3, n4, n5, n6, n7, n8, n9, n10, n11⟩ := cd
  dsimp only at hhd
  subst hhd
  unfold storeInOwnDict
  unfold ownDictForStores
  repeat
    first
    | with_reducible refine PySem.OEX.store_in_old hns hwi hsz ?_
    | with_reducible refine wpAny_loadPart_at hob ?_
    | with_reducible refine kcl.at ?_
    | wp_step
  intro h' tk' ns same
  refine fin h' tk' (fun b o hb ho => ?_) ns
  rw [same.2 b hb]
  exact ho
end
end Dz
namespace Dz
open PySem PySem.Spec L2 PyProof.Rows
/-- what the text says of such a class -/
structure ExcI (K : PySem.W.Frag) (C : Addr) : Prop where
  cls : PySem.W.excInitIn K C exB "Exception.__new__" = true
  hd : PySem.W.hasDictIn K C = true
  sa : PySem.W.findIn K (.ref C) "__setattr__" = some (some (.builtin "object.__setattr__"))
  ex : PySem.W.subIn K (.ref C) (.type "BaseException") = some true
  ty : PySem.W.typeIn K (.ref C) = some (.type "type")
  kp : PySem.W.keepIn K (.ref C) = true
theorem ExcI.obj {K : PySem.W.Frag} {C : Addr} {h : Heap} (T : ExcI K C) (KI : K.In h) : ∃ nm q N bs bm sn sub ab col dd k0 k1 k2 k3 k5, h.get? C = some (excClassObj nm q C N bs bm true sn sub ab col dd k0 k1 k2 k3 k5 "Exception.__new__") ∧ PySem.W.excTail exB bm = true ∧
    PySem.W.clsIn K C = some { name := nm, bases := bs, mro := .ref C :: bm, ns := N, qualname := q, hasDict := true, slotNames := sn, subclasses := sub, abstract := ab, collection := col, hasDel := false } := by
  have q := T.cls
  have hdq := T.hd
  unfold PySem.W.excInitIn at q
  split at q
  case h_2 => cases q
  rename_i dd cd sl lk
  split at q
  case h_2 => cases q
  rename_i c1 tail a0 a1 a2 a3 id a5 em es
  rw [Bool.and_eq_true, Bool.and_eq_true, Bool.and_eq_true] at q
  obtain ⟨⟨⟨e1, e2⟩, e3⟩, e4⟩ := q
  have e1 := beq_iff_eq.mp e1
  have e2 := beq_iff_eq.mp e2
  have nodel : cd.hasDel = false := by
    cases z : cd.hasDel with
    | false => rfl
    | true => rw [z] at e3; cases e3
  clear e3
  have lc : PySem.W.clsIn K C = some cd := by
    unfold PySem.W.clsIn
    rw [lk]
  have hdct : cd.hasDict = true := by
    unfold PySem.W.hasDictIn at hdq
    rw [lc] at hdq
    exact hdq
  subst e1 e2
  obtain ⟨m1, m2, m3, m4, m5, m6, m7, m8, m9, m10, m11⟩ := cd
  dsimp only at em nodel hdct
  subst em nodel hdct
  have esl : sl = #[a0, a1, a2, a3, some (.builtin "Exception.__new__"), a5] := by
    apply Array.toList_inj.mp
    exact es
  subst esl
  exact ⟨m1, m5, m4, m2, tail, m7, m8, m9, m10, dd, a0, a1, a2, a3, a5, KI _ _ lk, e4, lc⟩
section
variable {X : Cx} {pins : List (Addr × Obj)} {σ : L2.St} {H : Hp} {s : Shared} {a C dx : Addr} {f : Str} {y : V} {u : Value} {fs : List (Str × V)} {Q : Unit → Shared → Prop} {E : Value → Shared → Prop} {A : Around}
/-- self.f = y, no attribute before it -/
theorem ex_one (T : ExcI X.K C) (I : Inv X pins σ H s) (ea : H a = some (exo a C none)) (hat : PySem.W.findIn X.K (.ref C) f = some none) (ry : RelV y u)
    (go : ∀ dx s', H dx = none → dx ≠ a → Inv X pins σ (upd (upd H dx (exd dx [(f, y)])) a (exo a C (some dx))) s' → Q () s') : wpAny (model X.prog X.w) A (setAttr (.ref a) f u) Q E s := by
  obtain ⟨_, _, _, _, _, _, _, _, _, _, _, _, _, _, _, oC, tl, cl⟩ := T.obj I.kIn
  obtain ⟨t1, oa⟩ := exo_at I.hok ea
  obtain ⟨hp, g, dr, tk, os⟩ := s
  have inst : PySem.W.InstAt hp a { cls := .ref C, dict := none, data := .fields #[.ref t1, .none, .none, .none, .bool false, .none] } C none := ⟨oa, rfl, rfl, trivial⟩
  refine PySem.W.set_plain I.kIn inst T.sa ?_
  refine osa_one I.kIn oa cl tl rfl hat fun h' tk' dx kept fresh dne now ns => ?_
  have nd := I.hok.fresh fresh
  have older : ∀ {b : Addr} {o : Obj}, hp.get? b = some o → b ≠ dx := fun {b o} q => Nat.ne_of_lt (Nat.lt_of_lt_of_le (Heap.lt_size q) fresh)
  have other : ∀ {b : Addr}, H b = none → b ≠ a := fun {b} n z => by
    subst z
    rw [ea] at n
    cases n
  have un : Un X.fs [] H (upd (upd H dx (exd dx [(f, y)])) a (exo a C (some dx))) hp h' := by
    refine { keep := fun b o q n _ _ => kept b o (other n) q, slot := fun b o q n _ _ => ⟨o.slots, kept b o (other n) q⟩, free := fun b o q n _ => ?_, there := fun b o q _ => ?_, tups := fun b xs q => ?_, frzs := fun b o v q => ?_, tbls := fun b ps q => ⟨#[], ?_⟩ }
    · rw [upd_ne (other n), upd_ne (older q)]
      exact n
    · by_cases z : b = a
      · exact ⟨_, by rw [z]; exact now⟩
      · exact ⟨o, kept b o z q⟩
    · rw [upd_ne (at_ne ea q exo_tup), upd_ne (ne_of_none q nd)]
      exact q
    · rw [upd_ne (at_ne ea q exo_frz), upd_ne (ne_of_none q nd)]
      exact q
    · rw [upd_ne (at_ne ea q exo_tbl), upd_ne (ne_of_none q nd), q]
      simp
  refine go dx _ nd dne (I.un (t' := tk') un fun b o q => ?_)
  by_cases z : b = a
  · subst z
    rw [upd_same] at q
    cases q
    exact exo_ok now
  rw [upd_ne z] at q
  by_cases z2 : b = dx
  · subst z2
    rw [upd_same] at q
    cases q
    exact exd_ok ns (relO_put (fs := []) ry fun _ => True.intro)
  rw [upd_ne z2] at q
  refine (I.hok b o q).stay (fun c v hc zz => kept c v ?_ zz) (fun c hc => ?_) fun c xs hc => ?_
  · rcases hc with hc | hc
    · rw [hc]; exact z
    · exact at_ne ea hc exo_own
  · rw [upd_ne (at_ne ea hc exo_own), upd_ne (ne_of_none hc nd)]
    exact hc
  · rw [upd_ne (at_ne ea hc exo_tup), upd_ne (ne_of_none hc nd)]
    exact hc
/-- self.f = y, others before it -/
theorem ex_more (T : ExcI X.K C) (I : Inv X pins σ H s) (ea : H a = some (exo a C (some dx))) (ed : H dx = some (exd dx fs)) (few : fs.length ≤ 900) (hat : PySem.W.findIn X.K (.ref C) f = some none) (ry : RelV y u)
    (go : ∀ s', Inv X pins σ (upd H dx (exd dx ((f, y) :: fs))) s' → Q () s') : wpAny (model X.prog X.w) A (setAttr (.ref a) f u) Q E s := by
  obtain ⟨_, _, _, _, _, _, _, _, _, _, _, _, _, _, _, oC, tl, cl⟩ := T.obj I.kIn
  obtain ⟨t1, oa⟩ := exo_at I.hok ea
  obtain ⟨mA, ns0, rel⟩ := exd_at I.hok ed
  obtain ⟨hp, g, dr, tk, os⟩ := s
  obtain ⟨od, _, _, hod, _, _⟩ := ns0.count (within_of rel)
  have inst : PySem.W.InstAt hp a { cls := .ref C, dict := some dx, data := .fields #[.ref t1, .none, .none, .none, .bool false, .none] } C (some od) := ⟨oa, rfl, rfl, hod⟩
  refine PySem.W.set_plain I.kIn inst T.sa ?_
  refine osa_more I.kIn oa ns0 (within_of rel) (by rw [List.length_map]; omega) cl tl rfl hat fun h' tk' kept ns => ?_
  have there : ∃ o, h'.get? dx = some o := let ⟨o, _, _, q, _⟩ := ns; ⟨o, q⟩
  exact go _ (I.write (t' := tk') (x := dx) (e := dx) (o := exd dx ((f, y) :: fs)) (by rw [ed]; trivial) (.inl rfl) kept there (exd_ok ns (relO_put ry rel)))
/-- the base's __init__: nothing of it is told -/
theorem ex_base {us : List Value} {Q : Value → Shared → Prop} (T : ExcI X.K C) (I : Inv X pins σ H s) (ea : H a = some (exo a C none)) (few : us.length ≤ sizeLine) (go : ∀ s', Inv X pins σ H s' → Q .none s') :
    wpAny (model X.prog X.w) A (call (.builtin "Exception.__init__") (.ref a :: us)) Q E s := by
  obtain ⟨_, _, _, _, _, _, _, _, _, _, _, _, _, _, _, oC, tl, cl⟩ := T.obj I.kIn
  obtain ⟨t1, oa⟩ := exo_at I.hok ea
  obtain ⟨hp, g, dr, tk, os⟩ := s
  refine wpAny_call (PySem.HandSPX.init_base PySem.F.excBase_Exception (fun Y => PySem.W.excTail_contains Y _ tl) oC oa few fun h' t2 kept now => ?_)
  have same : upd H a (exo a C none) = H := funext fun b => by
    by_cases z : b = a
    · rw [z, upd_same, ea]
    · rw [upd_ne z]
  have J := I.write (t' := tk) (x := a) (e := a) (o := exo a C none) (by rw [ea]; trivial) (.inl rfl) kept ⟨_, now⟩ (exo_ok now)
  rw [same] at J
  exact go _ J
end
end Dz
set_option Elab.async false
set_option linter.all false
set_option maxRecDepth 100000
set_option maxHeartbeats 4000000
namespace Dz
open PySem PySem.Spec L2 PyProof.Rows
/-- the class whose __init__ is called by its name: it has that of Exception -/
structure BaseI (K : PySem.W.Frag) (B : Addr) : Prop where
  rd : PySem.W.readsIn K B (.type "type") = true
  ga : PySem.W.specialIn K (.ref B) "__getattribute__" = some (some (.builtin "type.__getattribute__"))
  at_ : PySem.W.findCls K (.ref B) (.type "type") "__init__" = some (.val (.builtin "Exception.__init__"))
def tExB (K : PySem.W.Frag) (ta : TA) : TE := fun σ H Q => ta σ H fun vs H1 => ∃ (a C : Addr) (ws : List V), vs = .ref a :: ws ∧ ws.length ≤ 1000 ∧ ExcI K C ∧ H1 a = some (exo a C none) ∧ Q .non H1
def tExS (K : PySem.W.Frag) (f : Str) (to te : TE) : TS := fun D σ H => te σ H fun y H1 => to σ H1 fun x H2 => ∃ a C : Addr, x = .ref a ∧ ExcI K C ∧ PySem.W.findIn K (.ref C) f = some none ∧
  ((H2 a = some (exo a C none) ∧ ∀ dx, H2 dx = none → dx ≠ a → D.nx σ (upd (upd H2 dx (exd dx [(f, y)])) a (exo a C (some dx)))) ∨
    ∃ (dx : Addr) (fs : List (Str × V)), H2 a = some (exo a C (some dx)) ∧ H2 dx = some (exd dx fs) ∧ fs.length ≤ 900 ∧ D.nx σ (upd H2 dx (exd dx ((f, y) :: fs))))
section
variable {X : Cx} {B : Addr} {b : Str} {o e : Expr} {es : List Expr} {to te : TE} {ta : TA} {f : Str} {p p1 p2 pos : Pos}
theorem pe_exB {pl : Sem Bool} (T : BaseI X.K B) (hg : Gl X b) (hm : X.mg b = some (.ref B)) (ha : PA X (e :: es) ta) (hdb : (b == ("__debug__" : Str)) = false := by decide)
    (ht : eval (.Call (.Attribute (.Name b p1) "__init__" p2) (e :: es) [] pos) X.env = (do
      let ov ← eval (.Name b p1) X.env
      standAt p2.atName
      let (f, first) ← holding [ov] (getMethod ov "__init__" pl)
      callWith pos f first (backTo pos (starEach (e :: es) X.env)) (backToKw pos (keywordEach [] X.env))) := by rfl)
    (hst : starEach (e :: es) X.env = (false, eval e X.env) :: starEach es X.env := by rfl) (hpl : (backTo pos (starEach es X.env)).any (·.1) = false := by rfl) :
    PE X (.Call (.Attribute (.Name b p1) "__init__" p2) (e :: es) [] pos) (tExB X.K ta) := by
  constructor
  intro pins s σ H Q I w
  refine PySem.W.methodCall_KW (pl := pl) (ld_glob I hg hm ?_ hdb) ht
  refine PySem.W.method_cls I.kIn T.ga ?_
  refine PySem.W.cls_value I.kIn T.rd T.at_ rfl ?_
  show wpAny _ _ (callWith pos (Value.builtin "Exception.__init__") [] (backTo pos (starEach (e :: es) X.env)) []) _ _ _
  refine PyProof.Rows.callWith_method1 (thn (ha.run pos pins _ σ H _ (I.tok _) w) ?_) hst hpl
  rintro us s1 ⟨vs, H1, I1, rv, a, C, ws, ev, hl, TC, ea, q⟩
  subst ev
  cases rv with
  | @cons _ u0 _ ur r0 rr =>
    have e0 : u0 = Value.ref a := r0
    subst e0
    have few : ur.length ≤ sizeLine := by
      have := Paired.length rr
      rw [sizeLine_eq]
      omega
    exact ex_base TC I1 ea few fun s' J => ⟨.non, H1, J, rfl, q⟩
theorem ps_exS (ho : PE X o to) (he : PE X e te) (hs : swapsWith e (some (.Attribute o f p)) pos.line X.env = pure false := by rfl) : PS X (.Assign [.Attribute o f p] e pos) (tExS X.K f to te) := by
  constructor
  intro pins s σ H D I w
  refine plainObj_wpAny_Assign_Attribute (thn (he.run pins s σ H _ I w) ?_) hs
  rintro v s1 ⟨y, H1, I1, ry, w1⟩
  refine thn (ho.run pins s1 σ H1 _ I1 w1) ?_
  rintro u s2 ⟨x, H2, I2, rx, a, C, ex, TC, hat, w2⟩
  subst ex
  have eu : u = Value.ref a := rx
  subst eu
  rcases w2 with ⟨ea, w3⟩ | ⟨dx, fs, ea, ed, few, w3⟩
  · exact ex_one TC I2 ea hat ry fun dx s' n ne J => ⟨σ, _, J, w3 dx n ne⟩
  · exact ex_more TC I2 ea ed few hat ry fun s' J => ⟨σ, _, J, w3⟩
end
/-- what such an __init__ does with the new exception -/
def inSp (C : Addr) (fs : List Str) : Sp := fun vs H Q _ => ∃ a ws, vs = .ref a :: ws ∧ ws.length = fs.length ∧ H a = some (exo a C none) ∧ ∀ dx, H dx = none → dx ≠ a → Q .non (upd (upd H dx (exd dx (fs.zip ws).reverse)) a (exo a C (some dx)))
/-- a class of exceptions, as the text has it: its parameters become its attributes -/
def DefE (P : Program) (w : World) (K : PySem.W.Frag) (mg : Str → Option Value) (base : Heap) (k : Nat) (x : Str) (C : Addr) (fs : List Str) : Prop :=
  ∃ fI fd, ExcI K C ∧ PySem.W.findIn K (.ref C) "__init__" = some (some (.ref fI)) ∧ PySem.W.typeIn K (.ref fI) = some (.type "function") ∧ mg x = some (.ref C) ∧ Binds K fd ("self" :: fs) [] ∧ FnOk P w K mg base CX0 k fI fd ("self" :: fs) (inSp C fs)
/-- the def of an __init__ with one parameter -/
theorem fnE1 {P : Program} {w : World} {K : PySem.W.Frag} {mg : Str → Option Value} {base : Heap} {k : Nat} {x qual f msg : Str} {C B fI : Addr} {st : Stmt} {fd : FuncData} {j : Nat} {p1 p2 p3 p4 p5 p6 p7 p8 p9 p10 : Pos} (T : ExcI K C) (iC : PySem.W.findIn K (.ref C) "__init__" = some (some (.ref fI))) (tI : PySem.W.typeIn K (.ref fI) = some (.type "function")) (hm : mg x = some (.ref C))
    (hat : PySem.W.findIn K (.ref C) f = some none) (F : Fun K "__init__" qual st fI fd) (S : FnScope ["self", f] ["self", f] (defScope st)) (BI : BaseI K B) (hB : mg "FailsError" = some (.ref B)) (hgl : (defScope st).names.lookup ("FailsError" : Str) = some NameKind.globalImplicit) (hv0 : Vis (defScope st) "self") (hv1 : Vis (defScope st) f)
    (hd : (f == ("__debug__" : Str)) = false) (hcd : (f == ("__classdict__" : Str)) = false)
    (hbind : ∀ (kV doc pm : Value) (an : Option Addr) (cdv ct : Value) (us : List Value), us.length = [("self" : Str), f].length → bindArgs (PySem.W.fnOf "__init__" qual (defArgs st) (defBody st) (defScope st) .none kV doc pm an cdv ct) ⟨us, []⟩ = pure ([("self" : Str), f].zip us))
    (hbody : defBody st = [.Expr (.Call (.Attribute (.Name "FailsError" p1) "__init__" p2) [.Name "self" p3, .Constant (.str msg) j p4] [] p5) p6, .Assign [.Attribute (.Name "self" p7) f p8] (.Name f p9) p10])
    (ht : ∀ env : Env, ∃ pl : Sem Bool, eval (.Call (.Attribute (.Name "FailsError" p1) "__init__" p2) [.Name "self" p3, .Constant (.str msg) j p4] [] p5) env = (do
      let ov ← eval (.Name "FailsError" p1) env
      standAt p2.atName
      let (f, first) ← holding [ov] (getMethod ov "__init__" pl)
      callWith p5 f first (backTo p5 (starEach [.Name "self" p3, .Constant (.str msg) j p4] env)) (backToKw p5 (keywordEach [] env)))) (hsw : ∀ env : Env, swapsWith (.Call (.Attribute (.Name "FailsError" p1) "__init__" p2) [.Name "self" p3, .Constant (.str msg) j p4] [] p5) none p6.line env = pure false) : FnOk P w K mg base CX0 (k + 1) fI fd ("self" :: [f]) (inSp C [f]) := by
  refine F.ok S (fun vs H Q E h => ?_) fun cdv A outer s H vs Q E hr h => ?_
  · obtain ⟨a, ws, e, l, _⟩ := h
    rw [e, List.length_cons, l]
    rfl
  obtain ⟨a, ws, e, l, ea, q⟩ := h
  subst e
  obtain ⟨v, rfl⟩ : ∃ v, ws = [v] := List.length_eq_one_iff.mp l
  rw [hbody]
  obtain ⟨pl, ht⟩ := ht (PyProof.Rows.envOfC qual (defScope st) s.heap.objs.size fI cdv)
  refine ⟨_, pss_cons (ps_expr (pe_exB (pl := pl) (ht := ht) BI hgl hB (pa_cons (pe_var (i := 0) rfl hv0) (pa_cons pe_str pa_nil))) (hsw _)) (pss_one (ps_exS (pe_var (i := 0) rfl hv0) (pe_var (i := 1) rfl hv1 hd hcd))), ?_⟩
  refine ⟨.ref a, rfl, a, C, [.str msg], rfl, Nat.le_of_ble_eq_true rfl, T, ea, ?_⟩
  exact ⟨v, rfl, .ref a, rfl, a, C, rfl, T, hat, .inl ⟨ea, fun dx n ne => q dx n ne⟩⟩
theorem defE1 {P : Program} {w : World} {K : PySem.W.Frag} {mg : Str → Option Value} {base : Heap} {k : Nat} {x qual f msg : Str} {C B fI : Addr} {st : Stmt} {fd : FuncData} {j : Nat} {p1 p2 p3 p4 p5 p6 p7 p8 p9 p10 : Pos} (T : ExcI K C) (iC : PySem.W.findIn K (.ref C) "__init__" = some (some (.ref fI))) (tI : PySem.W.typeIn K (.ref fI) = some (.type "function")) (hm : mg x = some (.ref C))
    (hat : PySem.W.findIn K (.ref C) f = some none) (F : Fun K "__init__" qual st fI fd) (S : FnScope ["self", f] ["self", f] (defScope st)) (BI : BaseI K B) (hB : mg "FailsError" = some (.ref B)) (hgl : (defScope st).names.lookup ("FailsError" : Str) = some NameKind.globalImplicit) (hv0 : Vis (defScope st) "self") (hv1 : Vis (defScope st) f)
    (hd : (f == ("__debug__" : Str)) = false) (hcd : (f == ("__classdict__" : Str)) = false)
    (hbind : ∀ (kV doc pm : Value) (an : Option Addr) (cdv ct : Value) (us : List Value), us.length = [("self" : Str), f].length → bindArgs (PySem.W.fnOf "__init__" qual (defArgs st) (defBody st) (defScope st) .none kV doc pm an cdv ct) ⟨us, []⟩ = pure ([("self" : Str), f].zip us))
    (hbody : defBody st = [.Expr (.Call (.Attribute (.Name "FailsError" p1) "__init__" p2) [.Name "self" p3, .Constant (.str msg) j p4] [] p5) p6, .Assign [.Attribute (.Name "self" p7) f p8] (.Name f p9) p10])
    (ht : ∀ env : Env, ∃ pl : Sem Bool, eval (.Call (.Attribute (.Name "FailsError" p1) "__init__" p2) [.Name "self" p3, .Constant (.str msg) j p4] [] p5) env = (do
      let ov ← eval (.Name "FailsError" p1) env
      standAt p2.atName
      let (f, first) ← holding [ov] (getMethod ov "__init__" pl)
      callWith p5 f first (backTo p5 (starEach [.Name "self" p3, .Constant (.str msg) j p4] env)) (backToKw p5 (keywordEach [] env)))) (hsw : ∀ env : Env, swapsWith (.Call (.Attribute (.Name "FailsError" p1) "__init__" p2) [.Name "self" p3, .Constant (.str msg) j p4] [] p5) none p6.line env = pure false) : DefE P w K mg base (k + 1) x C [f] :=
  ⟨fI, fd, T, iC, tI, hm, F.binds hbind, fnE1 (x := x) (k := k) T iC tI hm hat F S BI hB hgl hv0 hv1 hd hcd hbind hbody ht hsw⟩
variable [γ : Gd]
def wMkE (C : Addr) (fs : List Str) (wa : WA) : WMk := fun ρ μ XP => wa ρ μ fun ds μ1 => ds.length = fs.length ∧ XP C (fs.zip ds).reverse μ1
theorem zipE_fst {α β : Type} : ∀ {fs : List α} {l : List β}, l.length = fs.length → (fs.zip l).map (·.1) = fs
  | [], [], _ => rfl
  | [], _ :: _, h => by cases h
  | _ :: _, [], h => by cases h
  | f :: fs, x :: l, h => by
    rw [List.zip_cons_cons, List.map_cons, zipE_fst (by simpa using h)]
theorem zipE_snd {α β : Type} : ∀ {fs : List α} {l : List β}, l.length = fs.length → (fs.zip l).map (·.2) = l
  | [], [], _ => rfl
  | [], _ :: _, h => by cases h
  | _ :: _, [], h => by cases h
  | f :: fs, x :: l, h => by
    rw [List.zip_cons_cons, List.map_cons, zipE_snd (by simpa using h)]
theorem d_exc {X : Cx} {k j : Nat} {x : Str} {C : Addr} {fs : List Str} {e : Expr} {es : List Expr} {wa : WA} {p pos : Pos} (D : DefE X.prog X.w X.K X.mg X.base k x C fs) (hr : Room j X.A) (hk : k + 1 ≤ j) (hg : Gl X x) (ha : PA X (e :: es) (tDA X.K wa)) (hfs : fs.length ≤ 900 := by decide)
    (hdb : (x == ("__debug__" : Str)) = false := by decide) (hst : starEach (e :: es) X.env = (false, eval e X.env) :: starEach es X.env := by rfl) (hpl : (backTo pos (starEach es X.env)).any (·.1) = false := by rfl) :
    PMk X (.Call (.Name x p) (e :: es) [] pos) (tMk X.K (wMkE C fs wa)) := by
  obtain ⟨fI, fd, T, iC, tI, hm, hb, F⟩ := D
  intro pins s σ H Q I ⟨R, ρ, μ, XP, a, w, kx⟩
  have w1 : tDA X.K wa σ H fun vs H1 => vs.length = fs.length ∧ ∀ d, H1 d = none → Q (.ref C) (some d) (upd H1 d (.xd (fs.zip vs).reverse)) := ⟨R, ρ, μ, _, a, w, fun ds μ1 vs H1 p1 o1 s1 i1 => by
    have lv : vs.length = fs.length := by rw [i1.length]; exact p1.1
    refine ⟨lv, fun d n => ?_⟩
    have sn := o1.sameNew (o := .xd (fs.zip vs).reverse) n
    refine kx C (some d) _ μ1 _ p1.2 (o1.new n) (s1.trans sn) (.inr ⟨d, _, rfl, hid_new o1 n, ?_, ?_⟩)
    · rw [List.map_reverse, List.map_reverse, zipE_fst lv, zipE_fst p1.1]
    · rw [List.map_reverse, List.map_reverse, zipE_snd lv, zipE_snd p1.1]
      exact (i1.mono sn).reverse⟩
  refine wpAny_Call_Name_kw (ld_glob I hg hm ?_ hdb)
  refine PySem.W.callWith_K (h₀ := X.base) I.ok.mod.kin T.kp (thn (ha.run pos pins s σ H _ I w1) ?_) hst hpl
  rintro us s1 ⟨vs, H1, I1, rv, lv, q⟩
  refine ⟨I1.kIn, ?_⟩
  show wpAny _ _ (call (.ref C) us) _ _ _
  obtain ⟨hp, g, dr, tk, os⟩ := s1
  have fresh : H1 (hp.objs.size + 1) = none := I1.hok.fresh (Nat.le_succ _)
  have kept : ∀ b o, hp.get? b = some o → ((hp.push (PySem.W.kdv_tup us)).push (PySem.HandSPX.excO C hp.objs.size)).get? b = some o := fun b o z => Heap.get?_push_of_some _ (Heap.get?_push_of_some _ z)
  have got : ((hp.push (PySem.W.kdv_tup us)).push (PySem.HandSPX.excO C hp.objs.size)).get? (hp.objs.size + 1) = some (PySem.HandSPX.excO C hp.objs.size) := by heap_get
  have J0 := I1.laid (t' := tk) (a := hp.objs.size + 1) (o := exo (hp.objs.size + 1) C none) (h' := (hp.push (PySem.W.kdv_tup us)).push (PySem.HandSPX.excO C hp.objs.size)) kept (Nat.le_succ _) (exo_ok got)
  have rr : Vals (V.ref (hp.objs.size + 1) :: vs) (Value.ref (hp.objs.size + 1) :: us) := .cons rfl rv
  have lu : us.length = fs.length := by rw [← rv.length, lv]
  have few : us.length ≤ sizeLine := by rw [sizeLine_eq]; omega
  obtain ⟨_, _, _, _, _, _, _, _, _, _, _, _, _, _, _, oC, tl, cl⟩ := T.obj I1.kIn
  have bnd := hb ⟨(hp.push (PySem.W.kdv_tup us)).push (PySem.HandSPX.excO C hp.objs.size), g, dr, tk, os⟩ (Value.ref (hp.objs.size + 1) :: us) J0.kIn (by rw [List.append_nil, List.length_cons, List.length_cons, lu])
  rw [List.append_nil] at bnd
  have room : Room (k + 1) X.A := hr.mono hk
  have inw : inSp C fs (V.ref (hp.objs.size + 1) :: vs) (upd H1 (hp.objs.size + 1) (exo (hp.objs.size + 1) C none)) (fun v H2 => v = .non ∧ ∃ d, H1 d = none ∧ d ≠ hp.objs.size + 1 ∧ H2 = upd (upd (upd H1 (hp.objs.size + 1) (exo (hp.objs.size + 1) C none)) d (exd d (fs.zip vs).reverse)) (hp.objs.size + 1) (exo (hp.objs.size + 1) C (some d))) E0 :=
    ⟨hp.objs.size + 1, vs, rfl, lv, upd_same, fun dx n ne => ⟨rfl, dx, by rw [upd_ne ne] at n; exact n, ne, rfl⟩⟩
  refine wpAny_call (PySem.HandSPX.call_own PySem.F.excBase_Exception (fun Y => PySem.W.excTail_contains Y _ tl) oC (PySem.W.looks_findIn I1.kIn iC) (fun self => PySem.W.bind_fn I1.kIn self tI) few ?_)
  refine codeAny_mono (F.run _ X.stack _ _ ⟨Value.ref (hp.objs.size + 1) :: us, []⟩ (Value.ref (hp.objs.size + 1) :: us) _ _ E0 (room.make C us []) (J0.env0.make C us []) bnd rr inw) fun res s' hq => ?_
  match res, hq with
  | .ok (.ret u), hq =>
    obtain ⟨v, H2, os2, bare2, un2, hok2, rr2, ev, d, nd, ne, eH⟩ := hq
    subst ev
    obtain ⟨h2, g2, d2, t2, os'⟩ := s'
    refine ⟨rr2, mk_end (raises_own T.ex T.ty) I1 (Nat.le_succ _) kept un2 hok2 os2 bare2 (d := d) (fs := (fs.zip vs).reverse) ?_ ?_ nd ?_⟩
    · rw [eH, upd_same]
    · rw [eH, upd_ne ne, upd_same]
    · have e2 : upd (del H2 (hp.objs.size + 1)) d (.xd (fs.zip vs).reverse) = upd H1 d (.xd (fs.zip vs).reverse) := funext fun b => by
        by_cases z : b = d
        · rw [z, upd_same, upd_same]
        · rw [upd_ne z, upd_ne z]
          by_cases z2 : b = hp.objs.size + 1
          · rw [z2, del_same, fresh]
          · rw [del_ne z2, eH, upd_ne z2, upd_ne z, upd_ne z2]
      rw [e2]
      exact q d nd
end Dz
set_option Elab.async false
set_option linter.all false
set_option maxRecDepth 100000
set_option maxHeartbeats 4000000
namespace Dz
open PySem PySem.Spec L2 PyProof.Rows
/-- a clause: the class, the name's slot, the suite's reading -/
structure Clause where
  c : Value
  i : Option Nat
  ts : Addr → Value → Option Addr → TS
def endC (i : Option Nat) (D : Ends) : Ends := match i with
  | none => D
  | some i => { nx := fun σ H => D.nx (σ.set i none) H, rt := D.rt, bk := fun σ H => D.bk (σ.set i none) H, ct := fun σ H => D.ct (σ.set i none) H }
def slotC (i : Option Nat) (a : Addr) (σ : L2.St) : L2.St := match i with
  | none => σ
  | some i => σ.set i (some (.ref a))
def wClauses (K : PySem.W.Frag) (Wout : WX) (D : Ends) : List Clause → WX
  | [] => Wout
  | q :: r => fun cls d σ H => ∃ b, PySem.W.exmOne K cls q.c = some b ∧ (b = true → ∀ a, H a = none → q.ts a cls d (endC q.i D) (slotC q.i a σ) H) ∧ (b = false → wClauses K Wout D r cls d σ H)
/-- the clauses as they are written -/
inductive Clauses (X : Cx) : List ExceptHandler → List Clause → Prop
  | nil : Clauses X [] []
  | plain {x : Str} {q : Clause} {b₀ : Stmt} {suite : List Stmt} {np hp : Pos} {hds : List ExceptHandler} {l : List Clause} (hi : q.i = none) (hc : Names X x q.c)
      (hsu : ∀ (a : Addr) (oe : Obj) (cls : Value) (d : Option Addr) (pn : List (Addr × Obj)), Zc cls d oe → (∃ vs, oe.data = .fields vs) → PSs (X.suite a ((a, oe) :: pn)) (b₀ :: suite) (q.ts a cls d)) (r : Clauses X hds l) :
      Clauses X (.ExceptHandler (some (.Name x np)) none (b₀ :: suite) hp :: hds) (q :: l)
  | named {x n : Str} {i : Nat} {q : Clause} {b₀ : Stmt} {suite : List Stmt} {np hp : Pos} {hds : List ExceptHandler} {l : List Clause} (hi : q.i = some i) (hN : X.N[i]? = some n) (hl : X.env.kindOf n = some .local) (hc : Names X x q.c)
      (hsu : ∀ (a : Addr) (oe : Obj) (cls : Value) (d : Option Addr) (pn : List (Addr × Obj)), Zc cls d oe → (∃ vs, oe.data = .fields vs) → PSs (X.suite a ((a, oe) :: pn)) (b₀ :: suite) (q.ts a cls d)) (r : Clauses X hds l) :
      Clauses X (.ExceptHandler (some (.Name x np)) (some n) (b₀ :: suite) hp :: hds) (q :: l)
section
variable {X : Cx} {body : List Stmt} {h₀ : ExceptHandler} {hds : List ExceptHandler} {l : List Clause} {pos : Pos} {tb : WX → TS} {Wout : WX}
/-- the frame's own objects are no exception -/
theorem not_frame {env : Env} {outer : List Env} {a : Addr} {B h : Heap} {o : Obj} {vs : Array Value} (ff : h.FunFrames B (env :: outer)) (e : h.get? a = some o) (ed : o.data = .fields vs) : a ∉ frs (env :: outer) := fun hm => by
  obtain ⟨_, o2, e2, no⟩ := ff.mem hm
  rw [e] at e2
  cases e2
  exact no _ ed
theorem ps_try_hds (hst : X.stack = X.env :: X.outer) (hfr : X.env.frame = some X.env.locals) (hNd : X.N.Nodup) (tk : Takes X Wout)
    (hb : ∀ (W : WX) (pn : List (Addr × Obj)) (xe : Value → Shared → Prop), Takes (X.tr pn xe) W → PassesOwn (model X.prog X.w) X.A X.env xe → PSs (X.tr pn xe) body (tb W))
    (hh : Clauses X (h₀ :: hds) l) : PS X (.Try body (h₀ :: hds) [] [] pos) (fun D σ H => tb (wClauses X.K Wout D l) D σ H) := by
  constructor
  intro pins s σ H D I w
  have ok := I.ok
  have frames : X.A.frames = some (X.env :: X.outer) := by rw [ok.frames, hst]
  refine wpAny_Try_except ?_
  have inner := hb (wClauses X.K Wout D l) (X.pn ++ pins) (fun e s₁ => wpAny (model X.prog X.w) X.A (noteFrame e X.env) (fun _ s₂ => wpAny (model X.prog X.w) X.A (setFlight e none) (fun _ s₃ => wpAny (model X.prog X.w) X.A (handleBy e X.env (h₀ :: hds)) (SP X pins D) X.xe s₃) X.xe s₂) X.xe s₁)
    ?caught PassesOwn.looking
  · refine wpAny_mono (inner.run [] s σ H D (I.toTry _) w) (fun flow s1 q => ?_) fun e s1 q => q
    cases flow with
    | ret u =>
      obtain ⟨v, σ1, H1, J, rv, z⟩ := q
      exact ⟨v, σ1, H1, J.ofTry ok, rv, z⟩
    | next =>
      obtain ⟨σ1, H1, J, z⟩ := q
      exact wpAny_execs_nil ⟨σ1, H1, J.ofTry ok, z⟩
    | cont =>
      obtain ⟨σ1, H1, J, z⟩ := q
      exact ⟨σ1, H1, J.ofTry ok, z⟩
    | brk =>
      obtain ⟨σ1, H1, J, z⟩ := q
      exact ⟨σ1, H1, J.ofTry ok, z⟩
  intro u s' air
  obtain ⟨a, B, sI, pins', σ', H', cls, d, rfl, J', ground, up, sky, na, os, bare, wx⟩ := air
  have J : Inv X pins σ' H' sI := J'.ofTry ok
  rw [show (X.tr (X.pn ++ pins) (fun e s₁ => wpAny (model X.prog X.w) X.A (noteFrame e X.env) (fun _ s₂ => wpAny (model X.prog X.w) X.A (setFlight e none) (fun _ s₃ => wpAny (model X.prog X.w) X.A (handleBy e X.env (h₀ :: hds)) (SP X pins D) X.xe s₃) X.xe s₂) X.xe s₁)).stack = X.env :: X.outer from hst] at sky
  show wpAny (model X.prog X.w) X.A (noteFrame (.ref a) X.env) _ _ _
  refine Sky.land Zc.steady frames hfr sky fun g fly up1 => ?_
  have landed : Inv X pins σ' H' { s' with heap := g } := J.landed ground fly.1 (up.trans up1) os bare
  obtain ⟨oe, fv, geta, zc, dat⟩ := fly.there
  have noF := not_frame fly.2.2.1 geta dat
  have noL : a ≠ X.env.locals := fun z => noF (by
    refine List.mem_filterMap.mpr ⟨X.env, List.mem_cons_self, ?_⟩
    rw [hfr, z])
  have noS : a ∉ X.fs := fun hm => by
    obtain ⟨en, hen, q⟩ := List.mem_filterMap.mp hm
    exact noF (List.mem_filterMap.mpr ⟨en, List.mem_cons_of_mem _ hen, q⟩)
  have inSuite := landed.suite geta dat na noL noS
  -- a suite runs, behind the second landing
  have suiteRun : ∀ {q : Clause} {st0 : Stmt} {sts : List Stmt} {Q' : Flow → Shared → Prop}, (∀ (a : Addr) (oe : Obj) (cls : Value) (d : Option Addr) (pn : List (Addr × Obj)), Zc cls d oe → (∃ vs, oe.data = .fields vs) → PSs (X.suite a ((a, oe) :: pn)) (st0 :: sts) (q.ts a cls d)) → True := fun _ => trivial
  have go : ∀ {hs2 : List ExceptHandler} {l2 : List Clause}, Clauses X hs2 l2 → wClauses X.K Wout D l2 cls d σ' H' → wpAny (model X.prog X.w) X.A (handleBy (.ref a) X.env hs2) (SP X pins D) X.xe { s' with heap := g } := by
    intro hs2 l2 hk
    induction hk with
    | nil =>
      intro wo
      refine wpAny_handleBy_nil ?_
      obtain ⟨_, _, _, oo, ov, tr, otr, tv, go1, _, go2, go3, _⟩ := id fly
      unfold PySem.passOn
      refine wpAny_bind (wpAny_field go1 go2 go3 ?_)
      rw [if_neg (by simp : ¬ ((Value.ref tr == Value.none) = true))]
      have rethrow : wpAny (model X.prog X.w) X.A (setFlight (.ref a) X.env.frame) (fun _ s4 => wpAny (model X.prog X.w) X.A (throw (.ref a) : Sem Flow) (SP X pins D) X.xe s4) X.xe { s' with heap := g } := by
        rw [hfr]
        refine HandSPX.setFlight_upZ fly fun g2 held up2 => wpAny_throw (tk _ _ ⟨a, B, sI, pins, σ', H', cls, d, rfl, J, ground, (up.trans up1).trans up2, Or.inr (Or.inr ?_), na, os, bare, wo⟩)
        rw [hst]
        exact held
      first
        | exact wpAny_bind (wpAny_pure (wpAny_bind rethrow))
        | exact wpAny_bind rethrow
    | @plain x q b₀ suite np hp hds2 l3 hi hc hsu r ih =>
      intro wo
      obtain ⟨b, match_, yes, no⟩ := wo
      refine wpAny_handleBy_cons (codeAny_handlers_test ?_) (by intro z; cases z)
      have lkT : PySem.W.Looks (model X.prog X.w) g (typeOf (.ref a)) cls := fun _ _ _ _ kp z => wpAny_typeOf_ref (kp _ _ geta) (by rw [zc.1]; exact z)
      have lkM := PySem.W.exm_one (M := model X.prog X.w) landed.kIn lkT match_
      have asked : ∀ {Q E : Value → Shared → Prop}, Q q.c { s' with heap := g } → wpAny (model X.prog X.w) (X.A.mark (some (.ref a))) (eval (.Name x np) X.env) Q E { s' with heap := g } := fun {Q E} z => by
        obtain ⟨k1, k2, k3 | ⟨k3, k4, k5⟩⟩ := hc
        · exact ld_glob (X := X.suite a ((a, oe) :: (X.pn ++ pins))) inSuite k1 k3 z k2
        · exact ld_blt (X := X.suite a ((a, oe) :: (X.pn ++ pins))) inSuite k1 k3 k4 z k5 k2
      refine asked (lkM.here ?_)
      cases b with
      | false => exact ih (no rfl)
      | true =>
        refine codeAny_handlers_suite ?_
        refine HandSPX.lands_againZ fly fun g2 fly2 up2 => ?_
        have landed2 : Inv X pins σ' H' { s' with heap := g2 } := J.landed ground fly2.1 ((up.trans up1).trans up2) os bare
        obtain ⟨oe2, fv2, geta2, zc2, dat2⟩ := fly2.there
        have w2 := yes rfl a na
        unfold endC slotC at w2
        rw [hi] at w2
        refine wpAny_mono ((hsu a oe2 cls d (X.pn ++ pins) zc2 ⟨_, dat2⟩).run [] _ _ H' _ (landed2.suite geta2 dat2 na noL noS) w2) (fun flow s6 z => ?_) fun _ _ z => False.elim z
        cases flow with
        | ret u =>
          obtain ⟨v6, σ6, H6, J6, r6, z6⟩ := z
          exact ⟨v6, σ6, H6, J6.unsuite ok, r6, z6⟩
        | next =>
          obtain ⟨σ6, H6, J6, z6⟩ := z
          exact ⟨σ6, H6, J6.unsuite ok, z6⟩
        | brk =>
          obtain ⟨σ6, H6, J6, z6⟩ := z
          exact ⟨σ6, H6, J6.unsuite ok, z6⟩
        | cont =>
          obtain ⟨σ6, H6, J6, z6⟩ := z
          exact ⟨σ6, H6, J6.unsuite ok, z6⟩
    | @named x n i q b₀ suite np hp hds2 l3 hi hN hl hc hsu r ih =>
      intro wo
      obtain ⟨b, match_, yes, no⟩ := wo
      refine wpAny_handleBy_cons (codeAny_handlers_test ?_) (by intro z; cases z)
      have lkT : PySem.W.Looks (model X.prog X.w) g (typeOf (.ref a)) cls := fun _ _ _ _ kp z => wpAny_typeOf_ref (kp _ _ geta) (by rw [zc.1]; exact z)
      have lkM := PySem.W.exm_one (M := model X.prog X.w) landed.kIn lkT match_
      have asked : ∀ {Q E : Value → Shared → Prop}, Q q.c { s' with heap := g } → wpAny (model X.prog X.w) (X.A.mark (some (.ref a))) (eval (.Name x np) X.env) Q E { s' with heap := g } := fun {Q E} z => by
        obtain ⟨k1, k2, k3 | ⟨k3, k4, k5⟩⟩ := hc
        · exact ld_glob (X := X.suite a ((a, oe) :: (X.pn ++ pins))) inSuite k1 k3 z k2
        · exact ld_blt (X := X.suite a ((a, oe) :: (X.pn ++ pins))) inSuite k1 k3 k4 z k5 k2
      refine asked (lkM.here ?_)
      cases b with
      | false => exact ih (no rfl)
      | true =>
        refine codeAny_handlers_suite_as ?_
        refine HandSPX.lands_againZ fly fun g2 fly2 up2 => ?_
        have landed2 : Inv X pins σ' H' { s' with heap := g2 } := J.landed ground fly2.1 ((up.trans up1).trans up2) os bare
        obtain ⟨oe2, fv2, geta2, zc2, dat2⟩ := fly2.there
        have w2 := yes rfl a na
        unfold endC slotC at w2
        rw [hi] at w2
        refine store_ok (X := X.suite a ((a, oe2) :: (X.pn ++ pins))) (v := .ref a) (landed2.suite geta2 dat2 na noL noS) hNd hN (Or.inl hl) rfl (fun s5 J5 => ?_) (.inr hl)
        refine wpAny_mono ((hsu a oe2 cls d (X.pn ++ pins) zc2 ⟨_, dat2⟩).run [] s5 _ H' _ J5 w2) (fun flow s6 z => ?_) fun _ _ z => False.elim z
        have leave : ∀ {σ6 : L2.St} {H6 : Hp} {Q : Shared → Prop}, Inv (X.suite a ((a, oe2) :: (X.pn ++ pins))) [] σ6 H6 s6 → (∀ s7, Inv X pins (σ6.set i none) H6 s7 → Q s7) → wpAny (model X.prog X.w) X.A (do bindName X.env n .none; unbindBehindTheSuite X.env n hp) (fun _ s7 => Q s7) X.xe s6 :=
          fun J6 k6 => gone_ok (J6.unsuite ok) hNd hN hl k6
        cases flow with
        | ret u =>
          obtain ⟨v6, σ6, H6, J6, r6, z6⟩ := z
          exact leave J6 fun s7 J7 => ⟨v6, _, H6, J7, r6, z6⟩
        | next =>
          obtain ⟨σ6, H6, J6, z6⟩ := z
          exact leave J6 fun s7 J7 => ⟨_, H6, J7, z6⟩
        | brk =>
          obtain ⟨σ6, H6, J6, z6⟩ := z
          exact leave J6 fun s7 J7 => ⟨_, H6, J7, z6⟩
        | cont =>
          obtain ⟨σ6, H6, J6, z6⟩ := z
          exact leave J6 fun s7 J7 => ⟨_, H6, J7, z6⟩
  exact go hh wx
end
end Dz
set_option Elab.async false
set_option linter.all false
set_option maxRecDepth 100000
set_option maxHeartbeats 4000000
namespace Dz
open PySem PySem.Spec L2 PyProof.Rows
/-- a clause over data: its class, the name's slot, the suite (of the exception's place and fields) -/
structure CD where
  c : Addr
  i : Option Nat
  su : Addr → List (Str × DV) → WS
/-- does a clause for the second class take one of the first? -/
abbrev Mt := Addr → Addr → Option Bool
def mtOf (K : PySem.W.Frag) : Mt := fun C c => PySem.W.exmOne K (.ref C) (.ref c)
def endD (i : Option Nat) (E : DEnds) : DEnds := match i with
  | none => E
  | some i => { nx := fun ρ μ => E.nx (ρ.set i none) μ, rt := E.rt, bk := fun ρ μ => E.bk (ρ.set i none) μ, ct := fun ρ μ => E.ct (ρ.set i none) μ }
def slotD (i : Option Nat) (a : Addr) (ρ : Rho) : Rho := match i with
  | none => ρ
  | some i => ρ.set i (some (.obj a))
/-- what a suite knows -/
structure Caught (γ : Gd) (K : PySem.W.Frag) (cls : Value) (d : Option Addr) (C : Addr) (fs : List (Str × DV)) : Prop where
  cls : cls = .ref C
  ex : ExD K γ.S d fs
theorem Sl.any {K : PySem.W.Frag} {H : Hp} {σ : L2.St} {ρ : Rho} (h : Sl K H σ ρ) (i : Nat) (x : Option V) : Sl K H (σ.set i x) (ρ.set i none) := by
  refine ⟨by rw [List.length_set, List.length_set, h.len], fun j e he => ?_⟩
  by_cases z : i = j
  · subst z
    by_cases hl : i < ρ.length
    · rw [List.getElem?_set_self hl] at he
      cases he
    · rw [List.getElem?_eq_none (by rw [List.length_set]; omega)] at he
      cases he
  · rw [List.getElem?_set_ne z] at he ⊢
    exact h.at_ j e he
/-- .. as it is walked -/
def clauseOf (K : PySem.W.Frag) (q : CD) : Clause := ⟨.ref q.c, q.i, fun a cls d D σ H => ∃ (γ : Gd) (C : Addr) (fs : List (Str × DV)), (q.i.isSome = true → C = q.c) ∧ Caught γ K cls d C fs ∧ @tDS γ K (q.su a fs) D σ H⟩
inductive ClausesD (X : Cx) : List ExceptHandler → List CD → Prop
  | nil : ClausesD X [] []
  | plain {x : Str} {c : Addr} {su : Addr → List (Str × DV) → WS} {b₀ : Stmt} {suite : List Stmt} {np hp : Pos} {hds : List ExceptHandler} {l : List CD} (hc : Names X x (.ref c))
      (hsu : ∀ (γ : Gd) (a : Addr) (oe : Obj) (cls : Value) (d : Option Addr) (pn : List (Addr × Obj)) (C : Addr) (fs : List (Str × DV)), Zc cls d oe → (∃ vs, oe.data = .fields vs) → Caught γ X.K cls d C fs → PSs (X.suite a ((a, oe) :: pn)) (b₀ :: suite) (@tDS γ X.K (su a fs))) (r : ClausesD X hds l) :
      ClausesD X (.ExceptHandler (some (.Name x np)) none (b₀ :: suite) hp :: hds) (⟨c, none, su⟩ :: l)
  | named {x n : Str} {i : Nat} {c : Addr} {su : Addr → List (Str × DV) → WS} {b₀ : Stmt} {suite : List Stmt} {np hp : Pos} {hds : List ExceptHandler} {l : List CD} (hN : X.N[i]? = some n) (hl : X.env.kindOf n = some .local) (hc : Names X x (.ref c))
      (hsu : ∀ (γ : Gd) (a : Addr) (oe : Obj) (cls : Value) (d : Option Addr) (pn : List (Addr × Obj)) (fs : List (Str × DV)), Zc cls d oe → (∃ vs, oe.data = .fields vs) → Caught γ X.K cls d c fs → PSs (X.suite a ((a, oe) :: pn)) (b₀ :: suite) (@tDS γ X.K (su a fs))) (r : ClausesD X hds l) :
      ClausesD X (.ExceptHandler (some (.Name x np)) (some n) (b₀ :: suite) hp :: hds) (⟨c, some i, su⟩ :: l)
theorem ClausesD.k {X : Cx} {hds : List ExceptHandler} {l : List CD} (h : ClausesD X hds l) : Clauses X hds (l.map (clauseOf X.K)) := by
  induction h with
  | nil => exact .nil
  | plain hc hsu r ih =>
    refine .plain rfl hc (fun a oe cls d pn hz hf => ⟨fun pins s σ H D I w => ?_⟩) ih
    obtain ⟨γ, C, fs, _, k, w⟩ := w
    exact (hsu γ a oe cls d pn C fs hz hf k).run pins s σ H D I w
  | named hN hl hc hsu r ih =>
    refine .named rfl hN hl hc (fun a oe cls d pn hz hf => ⟨fun pins s σ H D I w => ?_⟩) ih
    obtain ⟨γ, C, fs, e, k, w⟩ := w
    have e := e rfl
    subst e
    exact (hsu γ a oe cls d pn fs hz hf k).run pins s σ H D I w
variable [γ : Gd]
end Dz
set_option Elab.async false
set_option linter.all false
set_option maxRecDepth 100000
set_option maxHeartbeats 2000000
namespace Dz
open PySem PySem.Spec L2 PyProof.Rows
end Dz
set_option Elab.async false
set_option linter.all false
set_option maxRecDepth 100000
set_option maxHeartbeats 2000000
namespace Dz
open PySem PySem.Spec L2 PyProof.Rows
end Dz
set_option Elab.async false
set_option linter.all false
set_option maxRecDepth 100000
set_option maxHeartbeats 4000000
namespace Dz
open PySem PySem.Spec L2 PyProof.Rows
end Dz
set_option Elab.async false
set_option linter.all false
set_option maxRecDepth 100000
set_option maxHeartbeats 4000000
namespace Dz
open PySem PySem.Spec L2 PyProof.Rows
variable [γ : Gd]
/-- keys at addresses, and what they and the values are -/
structure KOk (K : PySem.W.Frag) (Hm : Hp) (es : List (NestedKey × Addr × V)) (kvs : List (NestedKey × DV)) : Prop where
  keys : ∀ e ∈ es, e.1.depth ≤ 8 ∧ ∃ d, Is K Hm (.ref e.2.1) d ∧ nkey d = some e.1
  nd : (es.map (·.1)).Nodup
  eq : es.map (·.1) = kvs.map (·.1)
  vals : Iss K Hm (es.map (·.2.2)) (kvs.map (·.2))
theorem KOk.mono {K : PySem.W.Frag} {H H' : Hp} {es : List (NestedKey × Addr × V)} {kvs : List (NestedKey × DV)} (h : KOk K H es kvs) (s : Same H H') : KOk K H' es kvs :=
  ⟨fun e he => let ⟨a, d, i, n⟩ := h.keys e he; ⟨a, d, i.mono s, n⟩, h.nd, h.eq, h.vals.mono s⟩
theorem KOk.len {K : PySem.W.Frag} {Hm : Hp} {es : List (NestedKey × Addr × V)} {kvs : List (NestedKey × DV)} (h : KOk K Hm es kvs) : es.length = kvs.length := by
  have := congrArg List.length h.eq
  rwa [List.length_map, List.length_map] at this
end Dz
set_option Elab.async false
set_option linter.all false
set_option maxRecDepth 100000
set_option maxHeartbeats 2000000
namespace Dz
open PySem PySem.Spec L2 PyProof.Rows
end Dz
set_option Elab.async false
set_option linter.all false
set_option maxRecDepth 100000
set_option maxHeartbeats 2000000
namespace Dz
open PySem PySem.Spec L2 PyProof.Rows
end Dz
set_option Elab.async false
set_option linter.all false
set_option maxRecDepth 100000
set_option maxHeartbeats 2000000
namespace Dz
open PySem PySem.Spec L2 PyProof.Rows
end Dz
set_option Elab.async false
set_option linter.all false
set_option maxRecDepth 100000
set_option maxHeartbeats 4000000
namespace Dz
open PySem PySem.Spec L2 PyProof.Rows StX
end Dz
set_option Elab.async false
set_option linter.all false
set_option maxRecDepth 100000
set_option maxHeartbeats 2000000
namespace Dz
open PySem PySem.Spec L2 PyProof.Rows
end Dz
set_option Elab.async false
set_option linter.all false
set_option maxRecDepth 100000
set_option maxHeartbeats 4000000
namespace Dz
open PySem PySem.Spec L2 PyProof.Rows
variable [γ : Gd]
def dkD : Key → DV
  | .inl i => .int i
  | .inr x => .str x
theorem dkD_is {K : PySem.W.Frag} {H : Hp} : ∀ k : Key, Is K H (kV k) (dkD k)
  | .inl i => .int i
  | .inr x => .str x
def DefP (P : Program) (w : World) (K : PySem.W.Frag) (mg : Str → Option Value) (base : Heap) (k : Nat) (C : Addr) (f qual : Str) (st : Stmt) (ps : List Str) (wf : WF) : Prop :=
  ∃ p g fd, Cls K C ∧ PropOf K C f p g ∧ Fun K f qual st g fd ∧ FnG P w K mg base k g fd ps (spD K ps.length wf)
omit γ in
theorem DefP.mono {P : Program} {w : World} {K : PySem.W.Frag} {mg : Str → Option Value} {base : Heap} {j k : Nat} {C : Addr} {f qual : Str} {st : Stmt} {ps : List Str} {wf : WF} (h : DefP P w K mg base j C f qual st ps wf) (l : j ≤ k) : DefP P w K mg base k C f qual st ps wf :=
  let ⟨p, g, fd, a, b, c, d⟩ := h; ⟨p, g, fd, a, b, c, d.mono l⟩
end Dz
set_option Elab.async false
set_option linter.all false
set_option maxRecDepth 100000
set_option maxHeartbeats 4000000
namespace Dz
open PySem PySem.Spec L2 PySem.Froz PyProof.Rows
end Dz
set_option Elab.async false
set_option linter.all false
set_option maxRecDepth 100000
set_option maxHeartbeats 4000000
namespace Dz
open PySem PySem.Spec L2 PyProof.Rows StX
end Dz
set_option Elab.async false
set_option linter.all false
set_option maxRecDepth 100000
set_option maxHeartbeats 4000000
namespace Dz
open PySem PySem.Spec L2 PyProof.Rows
/-- nothing is wished: nothing may be raised -/
def xrNo : XR := fun _ _ _ _ => False
def wxNo : WX := fun _ _ _ _ => False
theorem takes_no {X : Cx} : Takes X wxNo := fun _ _ ⟨_, _, _, _, _, _, _, _, _, _, _, _, _, _, _, _, w⟩ => w.elim
theorem link_no {γ : Gd} {K : PySem.W.Frag} : LinkW γ K xrNo wxNo := fun _ _ _ _ _ _ _ _ _ _ z => z.elim
variable [γ : Gd]
end Dz
set_option Elab.async false
set_option linter.all false
set_option maxRecDepth 100000
set_option maxHeartbeats 2000000
namespace Dz
open PySem PySem.Spec L2 PyProof.Rows
end Dz
set_option Elab.async false
set_option linter.all false
set_option maxRecDepth 100000
set_option maxHeartbeats 2000000
namespace Dz
open PySem PySem.Spec L2 PyProof.Rows
end Dz
set_option Elab.async false
set_option linter.all false
set_option maxRecDepth 100000
set_option maxHeartbeats 2000000
namespace Dz
open PySem PySem.Spec L2 PyProof.Rows PySem.MeetsSeq PySem.SeqAt
end Dz
set_option Elab.async false
set_option linter.all false
set_option maxRecDepth 100000
set_option maxHeartbeats 2000000
namespace Dz
open PySem PySem.Spec L2 PyProof.Rows
end Dz
set_option Elab.async false
set_option linter.all false
set_option maxRecDepth 100000
set_option maxHeartbeats 2000000
namespace Dz
open PySem PySem.Spec L2 PyProof.Rows
end Dz
set_option Elab.async false
set_option linter.all false
set_option maxRecDepth 100000
set_option maxHeartbeats 4000000
namespace Dz
open PySem PySem.Spec L2 PyProof.Rows
/-- a class of exceptions whose __init__ is the def st, f its parameter -/
def AtE (K : PySem.W.Frag) (C : Addr) (f qual : Str) (st : Stmt) : Prop :=
  ∃ fI fd, ExcI K C ∧ PySem.W.findIn K (.ref C) "__init__" = some (some (.ref fI)) ∧ PySem.W.typeIn K (.ref fI) = some (.type "function") ∧ PySem.W.findIn K (.ref C) f = some none ∧ Fun K "__init__" qual st fI fd
section
variable {K : PySem.W.Frag} {C f0 p g D : Addr} {f m qual : Str} {st : Stmt} {oc kV dc pm cd ct : Value} {od an : Option Addr} {sl : Array (Option Value)}
theorem excI_of (a : PySem.W.excInitIn K C exB "Exception.__new__" = true) (b : PySem.W.hasDictIn K C = true) (c : PySem.W.findIn K (.ref C) "__setattr__" = some (some (.builtin "object.__setattr__"))) (d : PySem.W.subIn K (.ref C) (.type "BaseException") = some true)
    (e : PySem.W.typeIn K (.ref C) = some (.type "type")) (k : PySem.W.keepIn K (.ref C) = true) : ExcI K C := ⟨a, b, c, d, e, k⟩
theorem atE_of (e : ExcI K C) (a : PySem.W.findIn K (.ref C) "__init__" = some (some (.ref f0))) (t : PySem.W.typeIn K (.ref f0) = some (.type "function")) (n : PySem.W.findIn K (.ref C) f = some none)
    (l : K.lookup f0 = some ⟨oc, od, .func (PySem.W.fnOf "__init__" qual (defArgs st) (defBody st) (defScope st) .none kV dc pm an cd ct), sl⟩) (c : PySem.W.codeIn K cd qual = true) (k : PySem.W.keepIn K (.ref f0) = true) : AtE K C f qual st :=
  ⟨f0, _, e, a, t, n, fun_mk l c k⟩
theorem baseI_of {B : Addr} (a : PySem.W.readsIn K B (.type "type") = true) (b : PySem.W.specialIn K (.ref B) "__getattribute__" = some (some (.builtin "type.__getattribute__"))) (c : PySem.W.findCls K (.ref B) (.type "type") "__init__" = some (.val (.builtin "Exception.__init__"))) : BaseI K B := ⟨a, b, c⟩
theorem mt_of {b : Bool} {c : Addr} (h : PySem.W.exmOne K (.ref C) (.ref c) = some b) : mtOf K C c = some b := h
end
end Dz
set_option Elab.async false
set_option linter.all false
set_option maxRecDepth 100000
set_option maxHeartbeats 4000000
namespace Dz
open PySem PySem.Spec L2 PyProof.Rows
end Dz
set_option Elab.async false
set_option linter.all false
set_option maxRecDepth 100000
set_option maxHeartbeats 4000000
namespace Dz
open PySem PySem.Spec L2 PyProof.Rows HT
end Dz
set_option Elab.async false
set_option linter.all false
set_option maxRecDepth 100000
set_option maxHeartbeats 4000000
namespace Dz
open PySem PySem.Spec L2 PyProof.Rows StX
/-- as FnSG, where it may raise -/
def FnXS (P : Program) (w : World) (K : PySem.W.Frag) (mg : Str → Option Value) (base : Heap) (k : Nat) (f : Addr) (wf : WFX) : Prop :=
  ∀ (A : Around) (outer : List Env) (s : Shared) (H : Hp) (us : List Value) (vs : List V) (Q : VK) (E : XK), A.guards = some [] → Room k A → Env0 P w K mg base A outer s H → Vals vs us →
    (∃ R ds μ P' XP, OkG Gd.non K R μ H ∧ Iss K (hid R μ H) vs ds ∧ wf ds μ P' XP ∧ @Nxt Gd.non K R μ H P' Q ∧ NxtX K R μ H XP E) → codeAny (model P w) A (.call (.ref f) ⟨us, []⟩) (CR (L2.CX P w) outer P w H s Q E) s
theorem FnXS.mono {P : Program} {w : World} {K : PySem.W.Frag} {mg : Str → Option Value} {base : Heap} {j k : Nat} {f : Addr} {wf : WFX} (F : FnXS P w K mg base j f wf) (h : j ≤ k) : FnXS P w K mg base k f wf :=
  fun A outer s H us vs Q E g r => F A outer s H us vs Q E g (r.mono h)
def DefMXS (P : Program) (w : World) (K : PySem.W.Frag) (mg : Str → Option Value) (base : Heap) (k : Nat) (C : Addr) (m qual : Str) (st : Stmt) (wf : WFX) : Prop :=
  ∃ f fd, Cls K C ∧ Meth K C m f ∧ Fun K m qual st f fd ∧ FnXS P w K mg base k f wf
theorem DefMXS.mono {P : Program} {w : World} {K : PySem.W.Frag} {mg : Str → Option Value} {base : Heap} {C : Addr} {m qual : Str} {st : Stmt} {j k : Nat} {wf : WFX} (h : DefMXS P w K mg base j C m qual st wf) (l : j ≤ k) : DefMXS P w K mg base k C m qual st wf := let ⟨f, fd, a, b, c, d⟩ := h; ⟨f, fd, a, b, c, d.mono l⟩
variable [γ : Gd]
/-- every parameter written, by place or by name -/
theorem howB_ks {K : PySem.W.Frag} {x qual : Str} {st : Stmt} {ps : List Str} {n : Nat} {ks : List Str} (ix : List Nat)
    (h : ∀ (kV doc pm : Value) (an : Option Addr) (cdv ct : Value) (us ws : List Value), us.length = n → ws.length = ks.length → bindArgs (PySem.W.fnOf x qual (defArgs st) (defBody st) (defScope st) .none kV doc pm an cdv ct) ⟨us, ks.zip ws⟩ = pure (ps.zip (perm ix (us ++ ws)))) :
    HowB K x qual st [] [] ps n ks fun vs zs => perm ix (vs ++ zs) := fun f fd F => by
  obtain ⟨oc, od, dV, kV, doc, pm, an, cdv, ct, osl, rfl, lk, hcd, hD, hK⟩ := F.ex
  rcases hD with ⟨_, rfl⟩ | ⟨e, _⟩
  · exact ⟨fun us ws => perm ix (us ++ ws), ⟨fun s us ws X l1 l2 => .of_eq (h kV doc pm an cdv ct us ws l1 l2), fun r1 r2 => perm_vals (r1.append r2) ix⟩⟩
  · exact absurd rfl e
theorem howD_ks {K : PySem.W.Frag} {ix : List Nat} : HowD K (fun vs zs => perm ix (vs ++ zs)) fun ds es => perm ix (ds ++ es) := fun _ _ _ _ _ i1 i2 => perm_iss (i1.append i2) ix
end Dz
set_option Elab.async false
set_option linter.all false
set_option maxRecDepth 100000
set_option maxHeartbeats 4000000
namespace Dz
open PySem PySem.Spec L2 PyProof.Rows StX
variable [γ : Gd]
theorem ItR.keys {K : PySem.W.Frag} {Hm R0 : Hp} {a : Addr} {od : Obj} {kvs : List (Key × V)} {ds : List (Key × DV)} (h : R0 a = some (.frz od (.dK kvs))) (hk : kvs.map (·.1) = ds.map (·.1)) : ItR K Hm R0 (Itk a od kvs) (ds.map fun kv => dkD kv.1) := by
  have hl : kvs.length = ds.length := by have := congrArg List.length hk; simpa using this
  refine ⟨fun R μ H i o f s hi => ⟨o.fr a _ (f _ _ h), by rw [hl]; simpa using hi⟩, fun R μ H i x H' o f s y hi => ?_, fun R μ H i o f s hi => ⟨o.fr a _ (f _ _ h), by rw [hl]; simpa using hi⟩⟩
  obtain ⟨rfl, k, v, at_i, rfl⟩ := y
  have ek : (ds.map (·.1))[i]? = some k := by rw [← hk, List.getElem?_map, at_i]; rfl
  rw [List.getElem?_map] at ek
  cases q : ds[i]? with
  | none => rw [q] at ek; cases ek
  | some kd =>
    rw [q] at ek
    cases ek
    exact ⟨_, by rw [List.getElem?_map, q]; rfl, o, Same.refl _, dkD_is _⟩
end Dz
set_option Elab.async false
set_option linter.all false
set_option maxRecDepth 100000
set_option maxHeartbeats 4000000
namespace Dz
open PySem PySem.Spec L2 PyProof.Rows StX
variable [γ : Gd]
section
variable {K : PySem.W.Frag} {R : Hp} {σ : L2.St} {ρ : Rho} {μ : Mh} {H : Hp} {a : Addr} {ds : List (Key × DV)} {kvs : List (Key × V)} {od : Obj}
theorem Ok.lck (o : Ok K R μ H) (em : μ a = some (.lck od kvs ds)) : H a = some (.frz od (.dK kvs)) := (show H a = some (.frz od (.dK kvs)) ∧ _ ∧ _ from o.ob a _ em).1
end
end Dz
set_option Elab.async false
set_option linter.all false
set_option maxRecDepth 100000
set_option maxHeartbeats 4000000
namespace Dz
open PySem PySem.Spec L2 PyProof.Rows StX
end Dz
set_option Elab.async false
set_option linter.all false
set_option maxRecDepth 100000
set_option maxHeartbeats 4000000
namespace Dz
open PySem PySem.Spec L2 PyProof.Rows StX
end Dz
set_option Elab.async false
set_option linter.all false
set_option maxRecDepth 100000
set_option maxHeartbeats 4000000
namespace PySem.SeqAt
open AutoSeq1 (wpAny_loadPart')
open MeetsSeq
end PySem.SeqAt
namespace Dz
open PySem PySem.Spec L2 PyProof.Rows StX
end Dz
set_option Elab.async false
set_option linter.all false
set_option maxRecDepth 100000
set_option maxHeartbeats 4000000
namespace Dz
open PySem PySem.Spec L2 PyProof.Rows StX
end Dz
set_option Elab.async false
set_option linter.all false
set_option maxRecDepth 100000
set_option maxHeartbeats 4000000
namespace Dz
open PySem L2
section
variable {X : Cx} {pins : List (Addr × Obj)} {σ : L2.St} {H : Hp} {s : Shared} {b : Addr}
/-- what is true of an address that was free -/
structure Own (X : Cx) (pins : List (Addr × Obj)) (b : Addr) : Prop where
  loc : b ≠ X.env.locals
  s0 : X.s_0.heap.objs.size ≤ b
  cel : ∀ x c, X.env.cells.lookup x = some c → c ≠ b
  pin : ∀ p ∈ X.pn ++ pins, p.1 ≠ b
  fs : b ∉ X.fs
/-- an own record is written -/
theorem Own.write (o : Own X pins b) (I : Inv X pins σ H s) (hn : H b = none) {g : Heap} {t : Nat} (k : ∀ d u, d ≠ b → s.heap.get? d = some u → g.get? d = some u) : Inv X pins σ H { s with heap := g, toks := t } :=
  I.turned k hn o.loc (.inr o.s0) o.cel o.pin
end
end Dz
set_option Elab.async false
set_option linter.all false
set_option maxRecDepth 100000
set_option maxHeartbeats 4000000
namespace Dz
open PySem PySem.Spec L2
end Dz
set_option Elab.async false
set_option linter.all false
set_option maxRecDepth 100000
set_option maxHeartbeats 4000000
namespace Dz
open PySem PySem.Spec L2 PyProof.Rows
end Dz
set_option Elab.async false
set_option linter.all false
set_option maxRecDepth 100000
set_option maxHeartbeats 4000000
namespace Dz
open PySem PySem.Spec L2 PyProof.Rows
end Dz
set_option Elab.async false
set_option linter.all false
set_option maxRecDepth 100000
set_option maxHeartbeats 1000000
namespace Dz
open PySem PySem.Spec L2 PyProof.Rows
section
variable {X : Cx} {C : Addr} {bmB : List Value} {B newId initId : String}
theorem pmk_own0 {x : Str} {p pos : Pos} (F : ExcBaseFacts B newId initId bmB) (q : PySem.W.excIn X.K C bmB newId = true) (gC : X.mg x = some (.ref C)) (kC : PySem.W.keepIn X.K (.ref C) = true) (r : Raises X (.ref C)) (hg : Gl X x)
    (hdb : (x == ("__debug__" : Str)) = false := by decide) : PMk X (.Call (.Name x p) [] [] pos) (fun _ H Q => Q (.ref C) none H) := by
  intro pins s σ H Q I h
  refine wpAny_Call_Name_kw (ld_glob I hg gC ?_ hdb)
  refine PySem.W.callWith_K0 (first := []) I.kIn kC ?_
  obtain ⟨bm, N, nm, qn, bs, hdct, sn, sub, ab, col, dd, k0, k1, k2, k3, k5, mN, hC, hN, hni, T⟩ := exc_obj I.kIn q
  refine wpAny_call_exc_subT F T hC hN hni (fun h' e hm => ?_) (by show 0 ≤ sizeLine; exact Nat.zero_le _)
  exact mk_of I hm r h (I.hok.gone hm.new)
end
/-- X(), X without an __init__ of its own -/
def wMk0 (C : Addr) : WMk := fun _ μ XP => XP C [] μ
theorem d_exc0 [γ : Gd] {X : Cx} {C : Addr} {bmB : List Value} {B newId initId : String} {x : Str} {p pos : Pos} (F : ExcBaseFacts B newId initId bmB) (q : PySem.W.excIn X.K C bmB newId = true) (gC : X.mg x = some (.ref C)) (kC : PySem.W.keepIn X.K (.ref C) = true) (r : Raises X (.ref C)) (hg : Gl X x)
    (hdb : (x == ("__debug__" : Str)) = false := by decide) : PMk X (.Call (.Name x p) [] [] pos) (tMk X.K (wMk0 C)) :=
  PMk.imp (pmk_own0 F q gC kC r hg hdb) fun σ H Q ⟨R, ρ, μ, XP, a, w, k⟩ => k C none [] μ H w a.ok (Same.refl _) (.inl ⟨rfl, rfl⟩)
/-- the class x at C: exceptions without an __init__ of their own -/
structure AtEN (K : PySem.W.Frag) (mg : Str → Option Value) (x : Str) (C : Addr) : Prop where
  mg : mg x = some (.ref C)
  q : PySem.W.excIn K C [.type "Exception", .type "BaseException", .type "object"] "Exception.__new__" = true
  kp : PySem.W.keepIn K (.ref C) = true
  sb : PySem.W.subIn K (.ref C) (.type "BaseException") = some true
  ty : PySem.W.typeIn K (.ref C) = some (.type "type")
theorem d_excN [γ : Gd] {X : Cx} {C : Addr} {x : Str} {p pos : Pos} (T : AtEN X.K X.mg x C) (hg : Gl X x) (hdb : (x == ("__debug__" : Str)) = false := by decide) : PMk X (.Call (.Name x p) [] [] pos) (tMk X.K (wMk0 C)) :=
  d_exc0 PySem.F.excBase_Exception T.q T.mg T.kp (raises_own T.sb T.ty) hg hdb
end Dz
set_option Elab.async false
set_option linter.all false
set_option maxRecDepth 100000
set_option maxHeartbeats 1000000
namespace Dz
open PySem PySem.Spec L2 PyProof.Rows
end Dz
set_option Elab.async false
set_option linter.all false
set_option maxRecDepth 100000
set_option maxHeartbeats 1000000
namespace Dz
open PySem PySem.Spec L2 PyProof.Rows
end Dz
set_option Elab.async false
set_option linter.all false
set_option maxRecDepth 100000
set_option maxHeartbeats 4000000
namespace Dz
open PySem PySem.Spec L2 PyProof.Rows StX
variable [γ : Gd]
theorem ItR.lst {K : PySem.W.Frag} {Hm R0 : Hp} {a : Addr} {vs : List V} {xs : List DV} (h : R0 a = some (.lst vs)) (r : Iss K Hm vs xs) : ItR K Hm R0 (Itl K a) xs where
  go := fun R μ H i o f s hi => by
    obtain ⟨v, e, _⟩ := r.get (List.getElem?_eq_getElem hi)
    exact ⟨vs, v, SqL.of (o.fr a _ (f _ _ h)), e⟩
  yld := fun R μ H i x H' o f s y hi => by
    obtain ⟨rfl, y⟩ := y
    have e := y vs (SqL.of (o.fr a _ (f _ _ h)))
    obtain ⟨d, e2, k⟩ := r.getV e
    exact ⟨d, e2, o, Same.refl _, k.mono s⟩
  stop := fun R μ H i o f s hi => ⟨vs, SqL.of (o.fr a _ (f _ _ h)), by rw [r.length]; exact hi⟩
end Dz
set_option Elab.async false
set_option linter.all false
set_option maxRecDepth 100000
set_option maxHeartbeats 1000000
namespace Dz
open PySem PySem.Spec L2 PyProof.Rows
end Dz
set_option Elab.async false
set_option linter.all false
set_option maxRecDepth 100000
set_option maxHeartbeats 2000000
namespace Dz
open PySem PySem.Spec L2 PyProof.Rows
end Dz
set_option Elab.async false
set_option linter.all false
set_option maxRecDepth 100000
set_option maxHeartbeats 2000000
namespace Dz
open PySem PySem.Spec L2 PyProof.Rows PySem.MeetsSeq PySem.SeqAt
end Dz
set_option Elab.async false
set_option linter.all false
set_option maxRecDepth 100000
set_option maxHeartbeats 2000000
namespace Dz
open PySem PySem.Spec L2 PyProof.Rows
end Dz
set_option Elab.async false
set_option linter.all false
set_option maxRecDepth 100000
set_option maxHeartbeats 2000000
namespace Dz
open PySem PySem.Spec L2 PyProof.Rows
variable [γ : Gd]
/-- l + more: a list that will change -/
def wAddL : W2 := fun x y μ P => match look μ x, look μ y with
  | .lst xs, .lst ys => xs.length + ys.length ≤ sizeLine ∧ ∀ p, μ p = none → P (.obj p) (updM μ p (.lst (xs ++ ys)))
  | _, _ => False
/-- l + more: as it stands -/
def wAddI : W2 := fun x y μ P => match look μ x, look μ y with
  | .lst xs, .lst ys => xs.length + ys.length ≤ sizeLine ∧ P (.lst (xs ++ ys)) μ
  | _, _ => False
end Dz
set_option Elab.async false
set_option linter.all false
set_option maxRecDepth 100000
set_option maxHeartbeats 2000000
namespace Dz
open PySem PySem.Spec L2 PyProof.Rows
end Dz
set_option Elab.async false
set_option linter.all false
set_option maxRecDepth 100000
set_option maxHeartbeats 4000000
namespace Dz
open PySem PySem.Spec L2 PyProof.Rows StX
end Dz
set_option Elab.async false
set_option linter.all false
set_option maxRecDepth 100000
set_option maxHeartbeats 4000000
namespace Dz
open PySem L2
end Dz
set_option Elab.async false
set_option linter.all false
set_option maxRecDepth 100000
set_option maxHeartbeats 4000000
namespace Dz
open PySem PySem.Spec PyProof.Rows PySem.W PySem.SeqAt PySem.Calls
/-- they can be compared, up to the first place at which they differ -/
def upTo : List PyData → List PyData → Bool
  | x :: xs, y :: ys => alike x y && (!PyData.eqv x y || upTo xs ys)
  | _, _ => true
def upToD : PyData → PyData → Bool
  | .tuple xs, .tuple ys => upTo xs ys
  | _, _ => false
mutual
/-- none, truths, numbers, texts and tuples of them -/
def keyP : PyData → Bool
  | .none => true
  | .bool _ => true
  | .int _ => true
  | .str _ => true
  | .tuple xs => keyPs xs
  | _ => false
def keyPs : List PyData → Bool
  | [] => true
  | x :: xs => keyP x && keyPs xs
end
end Dz
set_option Elab.async false
set_option linter.all false
set_option maxRecDepth 100000
set_option maxHeartbeats 4000000
namespace Dz
open PySem PySem.Spec PyProof.Rows PySem.W PySem.SeqAt PySem.Calls
section
variable {prog : Program} {w : World} {A : Around} {s : Shared} {E : Value → Shared → Prop}
/-- what such a sort asks of the data -/
structure Tops (ds : List PyData) : Prop where
  key : ∀ d ∈ ds, keyP d = true
  cmp : ∀ d ∈ ds, ∀ d' ∈ ds, upToD d d' = true
  tup : ∀ d ∈ ds, ∃ x r, d = .tuple (x :: r)
variable {β : Type} {vs : List Value} {bs : List β} {enc : β → PyData} {R : Value → β → Prop}
end
end Dz
set_option Elab.async false
set_option linter.all false
set_option maxRecDepth 100000
set_option maxHeartbeats 1000000
namespace Dz
open PySem PySem.Spec L2 PyProof.Rows
end Dz
set_option Elab.async false
set_option linter.all false
set_option maxRecDepth 100000
set_option maxHeartbeats 4000000
namespace Dz
open PySem PySem.Spec L2 PyProof.Rows
def wfNoX : WFX := fun _ _ _ _ => False
theorem DefX.no {P : Program} {w : World} {K : PySem.W.Frag} {mg : Str → Option Value} {base : Heap} {k : Nat} {x : Str} {st : Stmt} {dvs : List V} {kws : List (Str × V)} {ps : List Str} (h : AtD K mg x st dvs kws) : DefX P w K mg base k x st dvs kws ps wfNoX := by
  obtain ⟨f, fd, a, F⟩ := h
  exact ⟨f, fd, a, F, fun vs H Q E ⟨_, _, _, _, _, _, _, _, z, _⟩ => z.elim, fun A fr s H ar us vs Q E _ _ _ _ _ ⟨_, _, _, _, _, _, _, _, z, _⟩ => z.elim⟩
theorem DefX.imp {P : Program} {w : World} {K : PySem.W.Frag} {mg : Str → Option Value} {base : Heap} {k : Nat} {x : Str} {st : Stmt} {dvs : List V} {kws : List (Str × V)} {ps : List Str} {wf wf' : WFX} (h : DefX P w K mg base k x st dvs kws ps wf) (i : ∀ ds μ Q XP, wf' ds μ Q XP → wf ds μ Q XP) : DefX P w K mg base k x st dvs kws ps wf' := by
  obtain ⟨f, fd, a, b, c⟩ := h
  refine ⟨f, fd, a, b, fun vs H Q E ⟨R, ds, μ, P', XP, h1, h2, h3, h4, h5⟩ => c.len vs H Q E ⟨R, ds, μ, P', XP, h1, h2, h3, i _ _ _ _ h4, h5⟩, fun A fr s H ar us vs Q E g r e bb v ⟨R, ds, μ, P', XP, h1, h2, h3, h4, h5⟩ => c.run A fr s H ar us vs Q E g r e bb v ⟨R, ds, μ, P', XP, h1, h2, h3, i _ _ _ _ h4, h5⟩⟩
/-- an exception's __init__ with three parameters -/
theorem fnE3 {P : Program} {w : World} {K : PySem.W.Frag} {mg : Str → Option Value} {base : Heap} {k : Nat} {x qual f1 f2 f3 msg : Str} {C B fI : Addr} {st : Stmt} {fd : FuncData} {j : Nat} {p1 p2 p3 p4 p5 p6 p7 p8 p9 p10 q1 q2 q3 q4 q5 q6 q7 q8 : Pos} (T : ExcI K C) (iC : PySem.W.findIn K (.ref C) "__init__" = some (some (.ref fI))) (tI : PySem.W.typeIn K (.ref fI) = some (.type "function")) (hm : mg x = some (.ref C))
    (ha1 : PySem.W.findIn K (.ref C) f1 = some none) (ha2 : PySem.W.findIn K (.ref C) f2 = some none) (ha3 : PySem.W.findIn K (.ref C) f3 = some none) (F : Fun K "__init__" qual st fI fd) (S : FnScope ["self", f1, f2, f3] ["self", f1, f2, f3] (defScope st)) (BI : BaseI K B) (hB : mg "FailsError" = some (.ref B)) (hgl : (defScope st).names.lookup ("FailsError" : Str) = some NameKind.globalImplicit) (hv0 : Vis (defScope st) "self") (hv1 : Vis (defScope st) f1) (hv2 : Vis (defScope st) f2) (hv3 : Vis (defScope st) f3)
    (hd1 : (f1 == ("__debug__" : Str)) = false) (hc1 : (f1 == ("__classdict__" : Str)) = false) (hd2 : (f2 == ("__debug__" : Str)) = false) (hc2 : (f2 == ("__classdict__" : Str)) = false) (hd3 : (f3 == ("__debug__" : Str)) = false) (hc3 : (f3 == ("__classdict__" : Str)) = false)
    (hbind : ∀ (kV doc pm : Value) (an : Option Addr) (cdv ct : Value) (us : List Value), us.length = [("self" : Str), f1, f2, f3].length → bindArgs (PySem.W.fnOf "__init__" qual (defArgs st) (defBody st) (defScope st) .none kV doc pm an cdv ct) ⟨us, []⟩ = pure ([("self" : Str), f1, f2, f3].zip us))
    (hbody : defBody st = [.Expr (.Call (.Attribute (.Name "FailsError" p1) "__init__" p2) [.Name "self" p3, .Constant (.str msg) j p4] [] p5) p6, .Assign [.Attribute (.Name "self" p7) f1 p8] (.Name f1 p9) p10, .Assign [.Attribute (.Name "self" q1) f2 q2] (.Name f2 q3) q4, .Assign [.Attribute (.Name "self" q5) f3 q6] (.Name f3 q7) q8])
    (ht : ∀ env : Env, ∃ pl : Sem Bool, eval (.Call (.Attribute (.Name "FailsError" p1) "__init__" p2) [.Name "self" p3, .Constant (.str msg) j p4] [] p5) env = (do
      let ov ← eval (.Name "FailsError" p1) env
      standAt p2.atName
      let (f, first) ← holding [ov] (getMethod ov "__init__" pl)
      callWith p5 f first (backTo p5 (starEach [.Name "self" p3, .Constant (.str msg) j p4] env)) (backToKw p5 (keywordEach [] env)))) (hsw : ∀ env : Env, swapsWith (.Call (.Attribute (.Name "FailsError" p1) "__init__" p2) [.Name "self" p3, .Constant (.str msg) j p4] [] p5) none p6.line env = pure false) : FnOk P w K mg base CX0 (k + 1) fI fd ("self" :: [f1, f2, f3]) (inSp C [f1, f2, f3]) := by
  refine F.ok S (fun vs H Q E h => ?_) fun cdv A outer s H vs Q E hr h => ?_
  · obtain ⟨a, ws, e, l, _⟩ := h
    rw [e, List.length_cons, l]
    rfl
  obtain ⟨a, ws, e, l, ea, q⟩ := h
  subst e
  match ws, l with
  | [v1, v2, v3], _ =>
  rw [hbody]
  obtain ⟨pl, ht⟩ := ht (PyProof.Rows.envOfC qual (defScope st) s.heap.objs.size fI cdv)
  refine ⟨_, pss_cons (ps_expr (pe_exB (pl := pl) (ht := ht) BI hgl hB (pa_cons (pe_var (i := 0) rfl hv0) (pa_cons pe_str pa_nil))) (hsw _)) (pss_cons (ps_exS (pe_var (i := 0) rfl hv0) (pe_var (i := 1) rfl hv1 hd1 hc1)) (pss_cons (ps_exS (pe_var (i := 0) rfl hv0) (pe_var (i := 2) rfl hv2 hd2 hc2)) (pss_one (ps_exS (pe_var (i := 0) rfl hv0) (pe_var (i := 3) rfl hv3 hd3 hc3))))), ?_⟩
  refine ⟨.ref a, rfl, a, C, [.str msg], rfl, Nat.le_of_ble_eq_true rfl, T, ea, ?_⟩
  refine ⟨v1, rfl, .ref a, rfl, a, C, rfl, T, ha1, .inl ⟨ea, fun dx n ne => ?_⟩⟩
  refine ⟨v2, rfl, .ref a, rfl, a, C, rfl, T, ha2, .inr ⟨dx, _, upd_same, by rw [upd_ne ne, upd_same], Nat.le_of_ble_eq_true rfl, ?_⟩⟩
  refine ⟨v3, rfl, .ref a, rfl, a, C, rfl, T, ha3, .inr ⟨dx, _, by rw [upd_ne ne.symm, upd_same], upd_same, Nat.le_of_ble_eq_true rfl, ?_⟩⟩
  have e : upd (upd (upd (upd H dx (exd dx [(f1, v1)])) a (exo a C (some dx))) dx (exd dx [(f2, v2), (f1, v1)])) dx (exd dx [(f3, v3), (f2, v2), (f1, v1)]) = upd (upd H dx (exd dx [(f3, v3), (f2, v2), (f1, v1)])) a (exo a C (some dx)) := funext fun b => by
    by_cases z : b = dx
    · rw [z, upd_same, upd_ne ne, upd_same]
    · rw [upd_ne z, upd_ne z]
      by_cases z2 : b = a
      · rw [z2, upd_same, upd_same]
      · rw [upd_ne z2, upd_ne z2, upd_ne z, upd_ne z]
  rw [e]
  exact q dx n ne
theorem defE3 {P : Program} {w : World} {K : PySem.W.Frag} {mg : Str → Option Value} {base : Heap} {k : Nat} {x qual f1 f2 f3 msg : Str} {C B fI : Addr} {st : Stmt} {fd : FuncData} {j : Nat} {p1 p2 p3 p4 p5 p6 p7 p8 p9 p10 q1 q2 q3 q4 q5 q6 q7 q8 : Pos} (T : ExcI K C) (iC : PySem.W.findIn K (.ref C) "__init__" = some (some (.ref fI))) (tI : PySem.W.typeIn K (.ref fI) = some (.type "function")) (hm : mg x = some (.ref C))
    (ha1 : PySem.W.findIn K (.ref C) f1 = some none) (ha2 : PySem.W.findIn K (.ref C) f2 = some none) (ha3 : PySem.W.findIn K (.ref C) f3 = some none) (F : Fun K "__init__" qual st fI fd) (S : FnScope ["self", f1, f2, f3] ["self", f1, f2, f3] (defScope st)) (BI : BaseI K B) (hB : mg "FailsError" = some (.ref B)) (hgl : (defScope st).names.lookup ("FailsError" : Str) = some NameKind.globalImplicit) (hv0 : Vis (defScope st) "self") (hv1 : Vis (defScope st) f1) (hv2 : Vis (defScope st) f2) (hv3 : Vis (defScope st) f3)
    (hd1 : (f1 == ("__debug__" : Str)) = false) (hc1 : (f1 == ("__classdict__" : Str)) = false) (hd2 : (f2 == ("__debug__" : Str)) = false) (hc2 : (f2 == ("__classdict__" : Str)) = false) (hd3 : (f3 == ("__debug__" : Str)) = false) (hc3 : (f3 == ("__classdict__" : Str)) = false)
    (hbind : ∀ (kV doc pm : Value) (an : Option Addr) (cdv ct : Value) (us : List Value), us.length = [("self" : Str), f1, f2, f3].length → bindArgs (PySem.W.fnOf "__init__" qual (defArgs st) (defBody st) (defScope st) .none kV doc pm an cdv ct) ⟨us, []⟩ = pure ([("self" : Str), f1, f2, f3].zip us))
    (hbody : defBody st = [.Expr (.Call (.Attribute (.Name "FailsError" p1) "__init__" p2) [.Name "self" p3, .Constant (.str msg) j p4] [] p5) p6, .Assign [.Attribute (.Name "self" p7) f1 p8] (.Name f1 p9) p10, .Assign [.Attribute (.Name "self" q1) f2 q2] (.Name f2 q3) q4, .Assign [.Attribute (.Name "self" q5) f3 q6] (.Name f3 q7) q8])
    (ht : ∀ env : Env, ∃ pl : Sem Bool, eval (.Call (.Attribute (.Name "FailsError" p1) "__init__" p2) [.Name "self" p3, .Constant (.str msg) j p4] [] p5) env = (do
      let ov ← eval (.Name "FailsError" p1) env
      standAt p2.atName
      let (f, first) ← holding [ov] (getMethod ov "__init__" pl)
      callWith p5 f first (backTo p5 (starEach [.Name "self" p3, .Constant (.str msg) j p4] env)) (backToKw p5 (keywordEach [] env)))) (hsw : ∀ env : Env, swapsWith (.Call (.Attribute (.Name "FailsError" p1) "__init__" p2) [.Name "self" p3, .Constant (.str msg) j p4] [] p5) none p6.line env = pure false) : DefE P w K mg base (k + 1) x C [f1, f2, f3] :=
  ⟨fI, fd, T, iC, tI, hm, F.binds hbind, fnE3 (x := x) (k := k) T iC tI hm ha1 ha2 ha3 F S BI hB hgl hv0 hv1 hv2 hv3 hd1 hc1 hd2 hc2 hd3 hc3 hbind hbody ht hsw⟩
/-- .. as the top has it -/
def AtE3 (K : PySem.W.Frag) (C : Addr) (f1 f2 f3 qual : Str) (st : Stmt) : Prop :=
  ∃ fI fd, ExcI K C ∧ PySem.W.findIn K (.ref C) "__init__" = some (some (.ref fI)) ∧ PySem.W.typeIn K (.ref fI) = some (.type "function") ∧ PySem.W.findIn K (.ref C) f1 = some none ∧ PySem.W.findIn K (.ref C) f2 = some none ∧ PySem.W.findIn K (.ref C) f3 = some none ∧ Fun K "__init__" qual st fI fd
section
variable {K : PySem.W.Frag} {C f0 : Addr} {f1 f2 f3 qual : Str} {st : Stmt} {oc kV dc pm cd ct : Value} {od an : Option Addr} {sl : Array (Option Value)}
theorem atE3_of (e : ExcI K C) (a : PySem.W.findIn K (.ref C) "__init__" = some (some (.ref f0))) (t : PySem.W.typeIn K (.ref f0) = some (.type "function")) (n1 : PySem.W.findIn K (.ref C) f1 = some none) (n2 : PySem.W.findIn K (.ref C) f2 = some none) (n3 : PySem.W.findIn K (.ref C) f3 = some none)
    (l : K.lookup f0 = some ⟨oc, od, .func (PySem.W.fnOf "__init__" qual (defArgs st) (defBody st) (defScope st) .none kV dc pm an cd ct), sl⟩) (c : PySem.W.codeIn K cd qual = true) (k : PySem.W.keepIn K (.ref f0) = true) : AtE3 K C f1 f2 f3 qual st :=
  ⟨f0, _, e, a, t, n1, n2, n3, fun_mk l c k⟩
end
variable [γ : Gd]
end Dz
set_option Elab.async false
set_option linter.all false
set_option maxRecDepth 100000
set_option maxHeartbeats 4000000
namespace Dz
open PySem PySem.Spec L2 PyProof.Rows
/-- is an exception of the first class one of the second? -/
abbrev KtM := Addr → Value → Option Bool
open Classical in
noncomputable def isOf (K : PySem.W.Frag) : KtM := fun C v => if L2.ExcC K C then PySem.W.kitOne K (.ref C) v else none
theorem isOf_is {K : PySem.W.Frag} {C : Addr} {v : Value} {b : Bool} (h : isOf K C v = some b) : L2.ExcC K C ∧ PySem.W.kitOne K (.ref C) v = some b := by
  unfold isOf at h
  split at h
  · exact ⟨‹_›, h⟩
  · cases h
theorem isOf_of {K : PySem.W.Frag} {C : Addr} {v : Value} {b : Bool} (T : L2.ExcC K C) (h : PySem.W.kitOne K (.ref C) v = some b) : isOf K C v = some b := by
  unfold isOf
  rw [if_pos T]
  exact h
theorem exO_inst {P : Program} {w : World} {H : Hp} {h : Heap} {a C : Addr} {d : Option Addr} (ok : HOk P w H h) (ea : H a = some (exo a C d)) (ed : ∀ dx, d = some dx → ∃ fs, H dx = some (exd dx fs)) : ∃ oe od, PySem.W.InstAt h a oe C od := by
  obtain ⟨t1, e⟩ := exo_at ok ea
  cases d with
  | none => exact ⟨_, none, e, rfl, rfl, trivial⟩
  | some dx =>
    obtain ⟨fs, e2⟩ := ed dx rfl
    obtain ⟨mA, ns, _⟩ := exd_at ok e2
    obtain ⟨od, e3, _⟩ := lookIn_ns ns
    exact ⟨_, some od, e, rfl, rfl, e3⟩
section
variable {X : Cx} {pins : List (Addr × Obj)} {σ : L2.St} {H : Hp} {s : Shared} {Q : VK} {a C : Addr} {oe : Obj} {od : Option Obj} {cv : Value} {b : Bool}
theorem ask_is (I : Inv X pins σ H s) (J : PySem.W.InstAt s.heap a oe C od) (T : L2.ExcC X.K C) (e : PySem.W.kitOne X.K (.ref C) cv = some b) (q : Q (.bl b) H) : wpAny (model X.prog X.w) X.A (PySem.call (.builtin "isinstance") [.ref a, cv]) (EP X pins σ Q) X.xe s := by
  have hc : (PySem.W.clsIn X.K C).isSome = true := by
    have := T.hd
    unfold PySem.W.hasDictIn at this
    cases z : PySem.W.clsIn X.K C with
    | none => rw [z] at this; cases this
    | some cd => rfl
  exact PySem.W.kia_one (PySem.W.kitx_exc hc T.hg T.hk T.hs T.ha T.hn T.ht T.hm) I.kIn J e (fun z => nomatch z) fun tk => ⟨.bl b, H, I.kept (t' := tk) fun _ _ z => z, rfl, q⟩
/-- isinstance of an exception that is held -/
def rIsO (K : PySem.W.Frag) : List V → Hp → VK → Prop := fun xs H Q => ∃ (a C : Addr) (d : Option Addr) (c : V) (cv : Value) (b : Bool), xs = [.ref a, c] ∧ H a = some (exo a C d) ∧ (∀ dx, d = some dx → ∃ fs, H dx = some (exd dx fs)) ∧ L2.ExcC K C ∧ (∀ u, RelV c u → u = cv) ∧ PySem.W.kitOne K (.ref C) cv = some b ∧ Q (.bl b) H
theorem call_isO : CallR X (.builtin "isinstance") (rIsO X.K) := by
  intro pins s σ H xs us Q I r h
  obtain ⟨a, C, d, c, cv, b, rfl, ea, ed, T, hcv, e, q⟩ := h
  cases r with
  | cons rx rr =>
    cases rr with
    | cons rt rr =>
      cases rr
      cases rx
      have ec := hcv _ rt
      subst ec
      obtain ⟨oe, od, J⟩ := exO_inst I.hok ea ed
      exact ask_is I J T e q
end
/-- a class as it is written: one's own, or a built-in one -/
inductive ClsN (X : Cx) : Str → V → Value → Prop
  | own {x : Str} {C : Addr} (hg : Gl X x) (hm : X.mg x = some (.ref C)) (hdb : (x == ("__debug__" : Str)) = false) : ClsN X x (.ref C) (.ref C)
  | blt {x : Str} {T : String} (hg : Gl X x) (hm : X.mg x = none) (hv : bootBuiltins x = some (.type T)) (hn : x ≠ "__name__") (hdb : (x == ("__debug__" : Str)) = false) : ClsN X x (.ty T) (.type T)
theorem ClsN.pe {X : Cx} {x : Str} {v : V} {cv : Value} {p : Pos} (h : ClsN X x v cv) : PE X (.Name x p) (tC v) := by
  cases h with
  | own hg hm hdb => exact pe_glob (v := .ref _) hg hm rfl hdb
  | blt hg hm hv hn hdb => exact pe_bltn (v := .ty _) hg hm hv rfl hn hdb
theorem ClsN.rel {X : Cx} {x : Str} {v : V} {cv : Value} (h : ClsN X x v cv) : ∀ u, RelV v u → u = cv := by
  cases h with
  | own => exact fun u r => r
  | blt => exact fun u r => r
variable [γ : Gd]
/-- isinstance(e, c), e an exception that is held -/
def wIsO (kt : KtM) (cv : Value) (w : WE) : WE := fun ρ μ P => w ρ μ fun d μ1 => ∃ a C fs b, d = .obj a ∧ μ1 a = some (.xo C fs) ∧ kt C cv = some b ∧ P (.bool b) μ1
theorem xo_at {K : PySem.W.Frag} {R : Hp} {μ : Mh} {H : Hp} {a C : Addr} {fs : List (Str × DV)} (o : Ok K R μ H) (e : μ a = some (.xo C fs)) : ∃ d, H a = some (exo a C d) ∧ (∀ dx, d = some dx → ∃ fs, H dx = some (exd dx fs)) := by
  rcases o.ob a _ e with ⟨_, h⟩ | ⟨dx, gs, h, h2, _⟩
  · exact ⟨none, h, fun _ z => by cases z⟩
  · exact ⟨some dx, h, fun _ z => by cases z; exact ⟨gs, hid_le _ _ h2⟩⟩
section
variable {X : Cx} {x : Str} {p p2 pos : Pos} {e : Expr} {w : WE} {cv : Value} {v : V}
theorem d_isO (c : ClsN X x v cv) (hg : Gl X "isinstance") (hm : X.mg "isinstance" = none) (ha : PE X e (tD X.K w))
    (hs : starEach [e, .Name x p2] X.env = (false, eval e X.env) :: starEach [.Name x p2] X.env := by rfl) (hs2 : starEach [.Name x p2] X.env = [(false, eval (.Name x p2) X.env)] := by rfl) :
    PE X (.Call (.Name "isinstance" p) [e, .Name x p2] [] pos) (tD X.K (wIsO (isOf X.K) cv w)) :=
  PE.imp (pe_callB call_isO hg hm (by decide +kernel) (pa_cons ha (pa_cons c.pe pa_nil hs2) hs) (by decide) (by decide) hs (by rw [hs2]; rfl)) fun σ H Q ⟨R, ρ, μ, P, a, w, k⟩ =>
    ⟨R, ρ, μ, _, a, w, fun d μ1 v1 H1 p1 o1 s1 i1 => by
      obtain ⟨b, C, fs, r, rfl, e1, e2, p3⟩ := p1
      cases i1
      obtain ⟨dd, h1, h2⟩ := xo_at o1 e1
      obtain ⟨T, kk⟩ := isOf_is e2
      exact ⟨b, C, dd, v, cv, r, rfl, h1, h2, T, c.rel, kk, k _ μ1 _ H1 p3 o1 s1 (.bool _)⟩⟩
/-- may the field f be read of an exception of this class? -/
abbrev FoM := Addr → Str → Prop
def fldOf (K : PySem.W.Frag) : FoM := fun C f => XfC K C ∧ PySem.W.findIn K (.ref C) f = some none
def wXo (fo : FoM) (f : Str) (w : WE) : WE := fun ρ μ P => w ρ μ fun d μ1 => ∃ a C fs y, d = .obj a ∧ μ1 a = some (.xo C fs) ∧ fo C f ∧ fs.lookup f = some y ∧ P y μ1
theorem d_xo {f : Str} (he : PE X e (tD X.K w)) (hb : attributeBase e f X.env (eval e X.env) = eval e X.env := by rfl) : PE X (.Attribute e f pos) (tD X.K (wXo (fldOf X.K) f w)) := by
  refine ⟨fun pins s σ H Q I h => ?_⟩
  refine attr_of hb ?_
  obtain ⟨R, ρ, μ, P, a, w, k⟩ := h
  refine thn (he.run pins s σ H (fun v H1 => ∃ (a C dx : Addr) (gs : List (Str × V)) (y : V), v = .ref a ∧ H1 a = some (exo a C (some dx)) ∧ H1 dx = some (exd dx gs) ∧ fldOf X.K C f ∧ gs.lookup f = some y ∧ Q y H1) I ⟨R, ρ, μ, _, a, w, fun d μ1 v1 H1 p1 o1 s1 i1 => ?_⟩) fun u s1 hh => ?_
  · obtain ⟨b, C, fs, y, rfl, e1, e2, e3, p3⟩ := p1
    cases i1
    rcases o1.ob b _ e1 with ⟨z, _⟩ | ⟨dx, gs, h, h2, q, r⟩
    · rw [z] at e3
      cases e3
    · obtain ⟨v, l1, l2⟩ := Iss.fields q r e3
      exact ⟨b, C, dx, gs, v, rfl, h, hid_le _ _ h2, e2, l1, k _ μ1 _ H1 p3 o1 s1 l2⟩
  · obtain ⟨v, H1, I1, rv, b, C, dx, gs, y, rfl, h1, h2, ⟨T, hno⟩, l, q⟩ := hh
    obtain rfl : u = Value.ref b := rv
    obtain ⟨t1, geta⟩ := exo_at I1.hok h1
    obtain ⟨mA, ns, rel⟩ := exd_at I1.hok h2
    obtain ⟨od, ho, look⟩ := lookIn_ns ns
    obtain ⟨u, hu, ru⟩ := RelO.some_of (v := y) (o := mA f) (by rw [← l]; exact rel f)
    exact HandSPX.exc_get I1.kIn (od := some od) ⟨geta, rfl, rfl, ho⟩ T.ga T.gg T.exC (PySem.W.findObj_own T.hdC hno rfl (by rw [look, hu])) (handed_of ru) ⟨y, H1, I1.tok _, ru, q⟩
end
/-- a new exception with its fields, over data -/
theorem Ok.newX {K : PySem.W.Frag} {R : Hp} {μ : Mh} {H : Hp} {a dx C : Addr} {gs : List (Str × V)} {fs : List (Str × DV)} (o : Ok K R μ H) (na : H a = none) (nd : H dx = none) (ne : dx ≠ a) (q : gs.map (·.1) = fs.map (·.1)) (r : Iss K (hid R μ H) (gs.map (·.2)) (fs.map (·.2))) :
    Ok K R (updM μ a (.xo C fs)) (upd (upd H dx (exd dx gs)) a (exo a C (some dx))) ∧ Same (hid R μ H) (hid R (updM μ a (.xo C fs)) (upd (upd H dx (exd dx gs)) a (exo a C (some dx)))) ∧ μ a = none := by
  have o1 := o.new (o := exd dx gs) nd
  have s1 := o.sameNew (o := exd dx gs) nd
  have na1 : upd H dx (exd dx gs) a = none := by rw [upd_ne ne.symm]; exact na
  have fm := o1.freeM na1
  have fr := o1.freeR na1
  have hs : Same (hid R μ (upd H dx (exd dx gs))) (hid R (updM μ a (.xo C fs)) (upd (upd H dx (exd dx gs)) a (exo a C (some dx)))) := fun b u e => by
    obtain ⟨e1, e2, e3⟩ := hid_some e
    have nb : b ≠ a := fun z => by rw [z, na1] at e3; cases e3
    rw [hid_at e1 (by rw [updM_ne nb]; exact e2), upd_ne nb]
    exact e3
  have hdx : hid R μ (upd H dx (exd dx gs)) dx = some (exd dx gs) := by rw [hid_at (o.freeR nd) (o.freeM nd), upd_same]
  obtain ⟨o2, _⟩ := o1.newM (o := exo a C (some dx)) (m := .xo C fs) na1 (.inr ⟨dx, gs, upd_same, hs _ _ hdx, q, r.mono (s1.trans hs)⟩) (fun z => by cases z)
  exact ⟨o2, s1.trans hs, fm⟩
theorem Ok.newX0 {K : PySem.W.Frag} {R : Hp} {μ : Mh} {H : Hp} {a C : Addr} (o : Ok K R μ H) (na : H a = none) :
    Ok K R (updM μ a (.xo C [])) (upd H a (exo a C none)) ∧ Same (hid R μ H) (hid R (updM μ a (.xo C [])) (upd H a (exo a C none))) ∧ μ a = none := by
  obtain ⟨o2, s2⟩ := o.newM (o := exo a C none) (m := .xo C []) na (.inl ⟨rfl, upd_same⟩) (fun z => by cases z)
  exact ⟨o2, s2, o.freeM na⟩
/-- C(..) runs -/
theorem run_mkV {X : Cx} {k j : Nat} {x : Str} {C : Addr} {fs : List Str} {pins : List (Addr × Obj)} {σ : L2.St} {H1 : Hp} {s1 : Shared} {Q : VK} {us : List Value} {vs : List V} {ar : Args} (D : DefE X.prog X.w X.K X.mg X.base k x C fs) (hr : Room j X.A) (hk : k + 1 ≤ j) (I1 : Inv X pins σ H1 s1) (rv : Vals vs us) (lv : vs.length = fs.length) (hfs : fs.length ≤ 900)
    (q : ∀ a dx, H1 a = none → H1 dx = none → dx ≠ a → Q (.ref a) (upd (upd H1 dx (exd dx (fs.zip vs).reverse)) a (exo a C (some dx)))) : wpAny (model X.prog X.w) X.A (PySem.call (.ref C) us) (EP X pins σ Q) X.xe s1 := by
  obtain ⟨fI, fd, T, iC, tI, hm, hb, F⟩ := D
  obtain ⟨hp, g, dr, tk, os⟩ := s1
  have fresh : H1 (hp.objs.size + 1) = none := I1.hok.fresh (Nat.le_succ _)
  have kept : ∀ b o, hp.get? b = some o → ((hp.push (PySem.W.kdv_tup us)).push (PySem.HandSPX.excO C hp.objs.size)).get? b = some o := fun b o z => Heap.get?_push_of_some _ (Heap.get?_push_of_some _ z)
  have got : ((hp.push (PySem.W.kdv_tup us)).push (PySem.HandSPX.excO C hp.objs.size)).get? (hp.objs.size + 1) = some (PySem.HandSPX.excO C hp.objs.size) := by heap_get
  have J0 := I1.laid (t' := tk) (a := hp.objs.size + 1) (o := exo (hp.objs.size + 1) C none) (h' := (hp.push (PySem.W.kdv_tup us)).push (PySem.HandSPX.excO C hp.objs.size)) kept (Nat.le_succ _) (exo_ok got)
  have rr : Vals (V.ref (hp.objs.size + 1) :: vs) (Value.ref (hp.objs.size + 1) :: us) := .cons rfl rv
  have lu : us.length = fs.length := by rw [← rv.length, lv]
  have few : us.length ≤ sizeLine := by rw [sizeLine_eq]; omega
  obtain ⟨_, _, _, _, _, _, _, _, _, _, _, _, _, _, _, oC, tl, cl⟩ := T.obj I1.kIn
  have bnd := hb ⟨(hp.push (PySem.W.kdv_tup us)).push (PySem.HandSPX.excO C hp.objs.size), g, dr, tk, os⟩ (Value.ref (hp.objs.size + 1) :: us) J0.kIn (by rw [List.append_nil, List.length_cons, List.length_cons, lu])
  rw [List.append_nil] at bnd
  have room : Room (k + 1) X.A := hr.mono hk
  have inw : inSp C fs (V.ref (hp.objs.size + 1) :: vs) (upd H1 (hp.objs.size + 1) (exo (hp.objs.size + 1) C none)) (fun v H2 => v = .non ∧ Q (.ref (hp.objs.size + 1)) H2) E0 :=
    ⟨hp.objs.size + 1, vs, rfl, lv, upd_same, fun dx n ne => ⟨rfl, by
      rw [upd_ne ne] at n
      have e : upd (upd (upd H1 (hp.objs.size + 1) (exo (hp.objs.size + 1) C none)) dx (exd dx (fs.zip vs).reverse)) (hp.objs.size + 1) (exo (hp.objs.size + 1) C (some dx)) = upd (upd H1 dx (exd dx (fs.zip vs).reverse)) (hp.objs.size + 1) (exo (hp.objs.size + 1) C (some dx)) := funext fun b => by
        by_cases z : b = hp.objs.size + 1
        · rw [z, upd_same, upd_same]
        · rw [upd_ne z, upd_ne z]
          by_cases z2 : b = dx
          · rw [z2, upd_same, upd_same]
          · rw [upd_ne z2, upd_ne z2, upd_ne z]
      rw [e]
      exact q _ dx fresh n ne⟩⟩
  refine wpAny_call (PySem.HandSPX.call_own PySem.F.excBase_Exception (fun Y => PySem.W.excTail_contains Y _ tl) oC (PySem.W.looks_findIn I1.kIn iC) (fun self => PySem.W.bind_fn I1.kIn self tI) few ?_)
  refine codeAny_mono (F.run _ X.stack _ _ ⟨Value.ref (hp.objs.size + 1) :: us, []⟩ (Value.ref (hp.objs.size + 1) :: us) _ _ E0 (room.make C us []) (J0.env0.make C us []) bnd rr inw) fun res s' hq => ?_
  match res, hq with
  | .ok (.ret u), hq =>
    obtain ⟨v, H2, os2, bare2, un2, hok2, rr2, ev, qq⟩ := hq
    subst ev
    obtain ⟨h2, g2, d2, t2, os'⟩ := s'
    obtain rfl : os' = os := os2
    exact ⟨rr2, .ref (hp.objs.size + 1), H2, J0.call (h' := h2) (g' := g2) (d' := d2) (t' := t2) (ch := []) un2 hok2 bare2 (fun b z => absurd z (by simp)), rfl, qq⟩
def wNewE (C : Addr) (fs : List Str) (wa : WA) : WE := fun ρ μ P => wa ρ μ fun ds μ1 => ds.length = fs.length ∧ ∀ p, μ1 p = none → P (.obj p) (updM μ1 p (.xo C (fs.zip ds).reverse))
/-- C(e, ..), held -/
theorem d_newE {X : Cx} {k j : Nat} {x : Str} {C : Addr} {fs : List Str} {e : Expr} {es : List Expr} {wa : WA} {p pos : Pos} (D : DefE X.prog X.w X.K X.mg X.base k x C fs) (hr : Room j X.A) (hk : k + 1 ≤ j) (hg : Gl X x) (ha : PA X (e :: es) (tDA X.K wa)) (hfs : fs.length ≤ 900 := by decide)
    (hdb : (x == ("__debug__" : Str)) = false := by decide) (hst : starEach (e :: es) X.env = (false, eval e X.env) :: starEach es X.env := by rfl) (hpl : (backTo pos (starEach es X.env)).any (·.1) = false := by rfl) :
    PE X (.Call (.Name x p) (e :: es) [] pos) (tD X.K (wNewE C fs wa)) := by
  have kp : PySem.W.keepIn X.K (.ref C) = true := by
    obtain ⟨_, _, T, _⟩ := D
    exact T.kp
  refine ⟨fun pins s σ H Q I ⟨R, ρ, μ, P, a, w, k1⟩ => ?_⟩
  have w1 : tDA X.K wa σ H fun vs H1 => vs.length = fs.length ∧ ∀ a dx, H1 a = none → H1 dx = none → dx ≠ a → Q (.ref a) (upd (upd H1 dx (exd dx (fs.zip vs).reverse)) a (exo a C (some dx))) := ⟨R, ρ, μ, _, a, w, fun ds μ1 vs H1 p1 o1 s1 i1 => by
    have lv : vs.length = fs.length := by rw [i1.length]; exact p1.1
    refine ⟨lv, fun a dx na nd ne => ?_⟩
    obtain ⟨o2, s2, fm⟩ := o1.newX (C := C) (gs := (fs.zip vs).reverse) (fs := (fs.zip ds).reverse) na nd ne (by rw [List.map_reverse, List.map_reverse, zipE_fst lv, zipE_fst p1.1]) (by rw [List.map_reverse, List.map_reverse, zipE_snd lv, zipE_snd p1.1]; exact i1.reverse)
    exact k1 _ _ _ _ (p1.2 a fm) o2 (s1.trans s2) (.obj a)⟩
  refine wpAny_Call_Name_kw (ld_glob I hg D.choose_spec.choose_spec.2.2.2.1 ?_ hdb)
  refine PySem.W.callWith_K (h₀ := X.base) I.ok.mod.kin kp (thn (ha.run pos pins s σ H _ I w1) ?_) hst hpl
  rintro us s1 ⟨vs, H1, I1, rv, lv, q⟩
  exact ⟨I1.kIn, run_mkV (ar := ⟨[], []⟩) D hr hk I1 rv lv hfs q⟩
/-- C(), held; C without an __init__ of its own -/
def wNew0 (C : Addr) : WE := fun _ μ P => ∀ p, μ p = none → P (.obj p) (updM μ p (.xo C []))
theorem d_new0 {X : Cx} {x : Str} {C : Addr} {p pos : Pos} (T : AtEN X.K X.mg x C) (hg : Gl X x) (hdb : (x == ("__debug__" : Str)) = false := by decide) : PE X (.Call (.Name x p) [] [] pos) (tD X.K (wNew0 C)) := by
  refine ⟨fun pins s σ H Q I ⟨R, ρ, μ, P, a, w, k1⟩ => ?_⟩
  refine wpAny_Call_Name_kw (ld_glob I hg T.mg ?_ hdb)
  refine PySem.W.callWith_K0 (first := []) I.kIn T.kp ?_
  obtain ⟨bm, N, nm, qn, bs, hdct, sn, sub, ab, col, dd, k0, k1', k2, k3, k5, mN, hC, hN, hni, Tl⟩ := exc_obj I.kIn T.q
  refine wpAny_call_exc_subT PySem.F.excBase_Exception Tl hC hN hni (fun h' e hm => ?_) (Nat.zero_le _)
  have hn : H e = none := I.hok.gone hm.new
  obtain ⟨t, ht, _, _⟩ := hm.there
  obtain ⟨o2, s2, fm⟩ := a.ok.newX0 (C := C) hn
  exact ⟨.ref e, upd H e (exo e C none), I.laidN hm.keeps hm.new hn (exo_ok ht), rfl, k1 _ _ _ _ (w e fm) o2 s2 (.obj e)⟩
end Dz
set_option Elab.async false
set_option linter.all false
set_option maxRecDepth 100000
set_option maxHeartbeats 4000000
namespace Dz
open PySem PySem.W PySem.Calls PyProof.Rows PySem.HandSPX
section
variable {M : Model} {A : Around} {E : Value → Shared → Prop} {h : Heap} {g : Array GenState} {d : Drawn} {t : Nat} {os : OsState}
variable {nm q : Str} {C N : Addr} {bs bm bmB : List Value} {hdct : Bool} {sn : List Str} {sub : List Value} {ab : Bool} {col : Option Bool} {dd : Option Addr} {k0 k1 k2 k3 k5 : Option Value} {B newId initId : String} {kw : List (Str × Value)}
theorem kw_check (F : ExcBaseFacts B newId initId bmB) (hT : ∀ X : String, bm.contains (.type X) = bmB.contains (.type X)) {rest : List Value} {Q : Unit → Shared → Prop} (lk : h.get? C = some (excClassObj nm q C N bs bm hdct sn sub ab col dd k0 k1 k2 k3 k5 newId)) (fin : Q () ⟨h, g, d, t, os⟩) :
    wpAny M A (checkBuiltinCall newId ⟨.ref C :: rest, kw⟩) Q E ⟨h, g, d, t, os⟩ := by
  have isB : (Value.ref C :: bm).contains (.type B) = true := by
    rw [List.contains_cons, hT, F.hasB]
    exact Bool.or_true _
  have st := F.noStar
  simp only [checkBuiltinCall, F.newKind, F.newSplit, F.newRow]
  repeat
    first
    | refine wpAny_loadPart_at lk ?_
    | (refine wpAny_isSubtype_exc lk ?_; rw [isB])
    | refine wpAny_staticBase_exc lk ?_
    | refine wpAny_madeBy_exc lk ?_
    | simp only [bne_self_eq_false, Bool.false_eq_true, if_false]
    | wp_step
  exact fin
end
section
variable {prog : Program} {w : World} {A : Around} {E : Value → Shared → Prop} {R : Result → Shared → Prop} {h : Heap} {g : Array GenState} {d : Drawn} {t : Nat} {os : OsState}
variable {nm q : Str} {C N : Addr} {bs bm bmB : List Value} {hdct : Bool} {sn : List Str} {sub : List Value} {ab : Bool} {col : Option Bool} {dd : Option Addr} {k0 k1 k2 k3 k5 : Option Value} {B newId initId : String} {kw : List (Str × Value)}
theorem kw_new (F : ExcBaseFacts B newId initId bmB) (hT : ∀ X : String, bm.contains (.type X) = bmB.contains (.type X)) {rest : List Value} (lk : h.get? C = some (excClassObj nm q C N bs bm hdct sn sub ab col dd k0 k1 k2 k3 k5 newId)) (few : rest.length ≤ sizeLine)
    (fin : R (.ok (.ret (.ref (h.objs.size + 1)))) ⟨(h.push (PySem.W.kdv_tup rest)).push (excO C h.objs.size), g, d, t, os⟩) :
    codeAny (model prog w) A (.builtin newId ⟨.ref C :: rest, kw⟩) R ⟨h, g, d, t, os⟩ := by
  have e0 := F.ends
  have isB : (Value.ref C :: bm).contains (.type B) = true := by
    rw [List.contains_cons, hT, F.hasB]
    exact Bool.or_true _
  have notA : (Value.ref C :: bm).contains (.type "AttributeError") = false := by
    rw [List.contains_cons, hT, F.noAttr]
    rfl
  have notN : (Value.ref C :: bm).contains (.type "NameError") = false := by
    rw [List.contains_cons, hT, F.noName]
    rfl
  refine codeAny_builtinAt F.entry ?_
  unfold Builtin.«BaseException.__new__»
  refine PySem.wpAt_bind ?_
  show PySem.wpAt _ _ _ (stack >>= _) _ _ _
  refine PySem.wpAt_bind (PySem.wpAt_stack fun _ _ => PySem.wpAt_of_wpAny ?_)
  wp_walk
  refine PySem.wpAt_of_wpAny ?_
  rw [F.owner]
  repeat
    first
    | with_reducible refine wpAny_madeHere_exc F.canon lk ?_
    | with_reducible refine wpAny_loadPart_at lk ?_
    | (with_reducible refine wpAny_isSubtype_exc lk ?_; first | rw [isB] | rw [notA] | rw [notN])
    | wp_step
  show R _ _
  rw [Heap.size_push]
  exact fin
theorem kw_type (F : ExcBaseFacts B newId initId bmB) (hT : ∀ X : String, bm.contains (.type X) = bmB.contains (.type X)) {rest : List Value} {fI : Addr} {Q : Fin → Shared → Prop} (lk : h.get? C = some (excClassObj nm q C N bs bm hdct sn sub ab col dd k0 k1 k2 k3 k5 newId))
    (hi : W.Looks (model prog w) h (typeLookup (.ref C) "__init__") (some (.ref fI))) (hb : ∀ self, W.Looks (model prog w) h (bindSpecial (.ref fI) self) (.ref fI, [self])) (few : rest.length ≤ sizeLine)
    (go : codeAny (model prog w) A (.call (.ref fI) ⟨.ref (h.objs.size + 1) :: rest, kw⟩) (fun r s' => match r with | .ok (.ret v) => v = .none ∧ Q (.done (.ret (.ref (h.objs.size + 1)))) s' | .ok _ => False | .error e => E e s') ⟨(h.push (W.kdv_tup rest)).push (excO C h.objs.size), g, d, t, os⟩) :
    wpAny (model prog w) A (Builtin.«type.__call__» ⟨.ref C :: rest, kw⟩) Q E ⟨h, g, d, t, os⟩ := by
  repeat
    first
    | with_reducible refine wpAny_loadPart_at lk ?_
    | with_reducible refine wpAny_madeBy_exc lk ?_
    | wp_step
  refine codeAny_call_builtin_code (Code.quiet_builtin _ F.quiet) (kw_check F hT lk ?_)
  refine kw_new F hT lk few ?_
  show wpAny _ _ _ _ _ _
  have kp : ∀ b o, h.get? b = some o → ((h.push (W.kdv_tup rest)).push (excO C h.objs.size)).get? b = some o := fun b o e => Heap.get?_push_of_some _ (Heap.get?_push_of_some _ e)
  have lk2 := kp _ _ lk
  have obj : ((h.push (W.kdv_tup rest)).push (excO C h.objs.size)).get? (h.objs.size + 1) = some (excO C h.objs.size) := by heap_get
  have own : (Value.ref C :: bm).contains (.ref C) = true := by simp
  have i2 := hi.keeps kp
  have b2 := (hb (.ref (h.objs.size + 1))).keeps kp
  unfold isInstance
  repeat
    first
    | with_reducible refine wpAny_loadPart_at obj ?_
    | (with_reducible refine wpAny_isSubtype_exc lk2 ?_; rw [own])
    | wp_step
  show wpAny _ _ (typeLookup (.ref C) _) _ _ _
  refine i2.at ?_
  refine wpAny_holding (wpAny_bind (b2.at ?_))
  refine wpAny_bind (wpAny_call (codeAny_mono go fun r s' z => ?_))
  match r, z with
  | .error e, z => exact z
  | .ok (.ret v), z =>
    obtain ⟨rfl, z⟩ := z
    first
      | exact wpAny_pure (wpAny_pure z)
      | (wp_walk; exact z)
theorem kw_call (F : ExcBaseFacts B newId initId bmB) (hT : ∀ X : String, bm.contains (.type X) = bmB.contains (.type X)) {rest : List Value} {fI : Addr} (lk : h.get? C = some (excClassObj nm q C N bs bm hdct sn sub ab col dd k0 k1 k2 k3 k5 newId))
    (hi : W.Looks (model prog w) h (typeLookup (.ref C) "__init__") (some (.ref fI))) (hb : ∀ self, W.Looks (model prog w) h (bindSpecial (.ref fI) self) (.ref fI, [self])) (few : rest.length ≤ sizeLine)
    (go : codeAny (model prog w) (A.under (.builtin "type.__call__" ⟨.ref C :: rest, kw⟩)) (.call (.ref fI) ⟨.ref (h.objs.size + 1) :: rest, kw⟩) (W.InitBack (h.objs.size + 1) R) ⟨(h.push (W.kdv_tup rest)).push (excO C h.objs.size), g, d, t, os⟩) :
    codeAny (model prog w) A (.call (.ref C) ⟨rest, kw⟩) R ⟨h, g, d, t, os⟩ := by
  have t1 := tc_lookup
  have t2 := tc_bind (.ref C)
  have ty : (⟨h, g, d, t, os⟩ : Shared).TypeIs (.ref C) "type" := ⟨_, lk, rfl⟩
  refine codeAny_of_tree ?_
  show wpAny _ _ (callAny (.ref C) _) _ _ _
  repeat (any_goals (first | assumption | with_reducible refine wpAny_loadPart_at lk ?_ | wp_step))
  refine ⟨rfl, ?_⟩
  have chk : ∀ {A2 : Around} {Q : Unit → Shared → Prop} {E : Value → Shared → Prop}, Q () ⟨h, g, d, t, os⟩ → wpAny (model prog w) A2 (checkBuiltinCall "type.__call__" ⟨.ref C :: rest, kw⟩) Q E ⟨h, g, d, t, os⟩ := fun {A2 Q E} fin => by
    have f3 := tc_sub
    simp only [checkBuiltinCall, tc_kind, tc_split]
    repeat (any_goals (first | assumption | with_reducible refine wpAny_loadPart_at lk ?_ | with_reducible refine wpAny_onRaise ?_ | with_reducible refine wpAny_map ?_ | wp_step))
  refine codeAny_call_builtin_at (Code.quiet_builtin _ (by decide +kernel)) entry_typeCall (chk (kw_type F hT lk hi hb few ?_))
  refine codeAny_mono go fun r s' z => ?_
  match r, z with
  | .error e, z => exact z
  | .ok (.ret v), z => exact z
end
end Dz
namespace Dz
open PySem PySem.Spec L2 PyProof.Rows
/-- .. made by the keywords ks; ix: where each field stands among them -/
def DefEK (P : Program) (w : World) (K : PySem.W.Frag) (mg : Str → Option Value) (base : Heap) (k : Nat) (x : Str) (C : Addr) (fs ks : List Str) (ix : List Nat) : Prop :=
  ∃ fI fd, ExcI K C ∧ PySem.W.findIn K (.ref C) "__init__" = some (some (.ref fI)) ∧ PySem.W.typeIn K (.ref fI) = some (.type "function") ∧ mg x = some (.ref C) ∧ (∀ (s : Shared) (u : Value) (ws : List Value), K.In s.heap → ws.length = ks.length → BindsTo s fd ⟨[u], ks.zip ws⟩ ((("self" : Str) :: fs).zip (u :: perm ix ws))) ∧ FnOk P w K mg base CX0 k fI fd ("self" :: fs) (inSp C fs)
theorem defEK_of {P : Program} {w : World} {K : PySem.W.Frag} {mg : Str → Option Value} {base : Heap} {k : Nat} {x qual : Str} {C fI : Addr} {fd : FuncData} {fs ks : List Str} {ix : List Nat} {st : Stmt} (T : ExcI K C) (iC : PySem.W.findIn K (.ref C) "__init__" = some (some (.ref fI))) (tI : PySem.W.typeIn K (.ref fI) = some (.type "function"))
    (hm : mg x = some (.ref C)) (F : Fun K "__init__" qual st fI fd) (D : FnOk P w K mg base CX0 k fI fd ("self" :: fs) (inSp C fs))
    (h : ∀ (kV doc pm : Value) (an : Option Addr) (cdv ct : Value) (u : Value) (ws : List Value), ws.length = ks.length → bindArgs (PySem.W.fnOf "__init__" qual (defArgs st) (defBody st) (defScope st) .none kV doc pm an cdv ct) ⟨[u], ks.zip ws⟩ = pure ((("self" : Str) :: fs).zip (u :: perm ix ws))) : DefEK P w K mg base k x C fs ks ix := by
  refine ⟨fI, fd, T, iC, tI, hm, fun s u ws X l => ?_, D⟩
  obtain ⟨oc, od, kV, doc, pm, an, cdv, ct, osl, rfl, lk, hcd⟩ := F.ex
  exact .of_eq (h kV doc pm an cdv ct u ws l)
/-- C(k = v, ..) runs -/
theorem run_mkK {X : Cx} {k j : Nat} {x : Str} {C : Addr} {fs ks : List Str} {ix : List Nat} {pins : List (Addr × Obj)} {σ : L2.St} {H1 : Hp} {s1 : Shared} {Q : VK} {ws : List Value} {zs : List V} (D : DefEK X.prog X.w X.K X.mg X.base k x C fs ks ix) (hr : Room j X.A) (hk : k + 1 ≤ j) (I1 : Inv X pins σ H1 s1) (rz : Vals zs ws) (lz : zs.length = ks.length) (lv : (perm ix zs).length = fs.length)
    (q : ∀ a dx, H1 a = none → H1 dx = none → dx ≠ a → Q (.ref a) (upd (upd H1 dx (exd dx (fs.zip (perm ix zs)).reverse)) a (exo a C (some dx)))) : wpAny (model X.prog X.w) X.A (PySem.call (.ref C) [] (ks.zip ws)) (EP X pins σ Q) X.xe s1 := by
  obtain ⟨fI, fd, T, iC, tI, hm, hb, F⟩ := D
  obtain ⟨hp, g, dr, tk, os⟩ := s1
  have fresh : H1 (hp.objs.size + 1) = none := I1.hok.fresh (Nat.le_succ _)
  have kept : ∀ b o, hp.get? b = some o → ((hp.push (PySem.W.kdv_tup [])).push (PySem.HandSPX.excO C hp.objs.size)).get? b = some o := fun b o z => Heap.get?_push_of_some _ (Heap.get?_push_of_some _ z)
  have got : ((hp.push (PySem.W.kdv_tup [])).push (PySem.HandSPX.excO C hp.objs.size)).get? (hp.objs.size + 1) = some (PySem.HandSPX.excO C hp.objs.size) := by heap_get
  have J0 := I1.laid (t' := tk) (a := hp.objs.size + 1) (o := exo (hp.objs.size + 1) C none) (h' := (hp.push (PySem.W.kdv_tup [])).push (PySem.HandSPX.excO C hp.objs.size)) kept (Nat.le_succ _) (exo_ok got)
  have rr : Vals (V.ref (hp.objs.size + 1) :: perm ix zs) (Value.ref (hp.objs.size + 1) :: perm ix ws) := .cons rfl (perm_vals (γ := Gd.non) rz ix)
  obtain ⟨_, _, _, _, _, _, _, _, _, _, _, _, _, _, _, oC, tl, cl⟩ := T.obj I1.kIn
  have bnd := hb ⟨(hp.push (PySem.W.kdv_tup [])).push (PySem.HandSPX.excO C hp.objs.size), g, dr, tk, os⟩ (Value.ref (hp.objs.size + 1)) ws J0.kIn (by rw [← rz.length, lz])
  have room : Room (k + 1) X.A := hr.mono hk
  have inw : inSp C fs (V.ref (hp.objs.size + 1) :: perm ix zs) (upd H1 (hp.objs.size + 1) (exo (hp.objs.size + 1) C none)) (fun v H2 => v = .non ∧ Q (.ref (hp.objs.size + 1)) H2) E0 :=
    ⟨hp.objs.size + 1, _, rfl, lv, upd_same, fun dx n ne => ⟨rfl, by
      rw [upd_ne ne] at n
      have e : upd (upd (upd H1 (hp.objs.size + 1) (exo (hp.objs.size + 1) C none)) dx (exd dx (fs.zip (perm ix zs)).reverse)) (hp.objs.size + 1) (exo (hp.objs.size + 1) C (some dx)) = upd (upd H1 dx (exd dx (fs.zip (perm ix zs)).reverse)) (hp.objs.size + 1) (exo (hp.objs.size + 1) C (some dx)) := funext fun b => by
        by_cases z : b = hp.objs.size + 1
        · rw [z, upd_same, upd_same]
        · rw [upd_ne z, upd_ne z]
          by_cases z2 : b = dx
          · rw [z2, upd_same, upd_same]
          · rw [upd_ne z2, upd_ne z2, upd_ne z]
      rw [e]
      exact q _ dx fresh n ne⟩⟩
  refine wpAny_call (kw_call PySem.F.excBase_Exception (fun Y => PySem.W.excTail_contains Y _ tl) oC (PySem.W.looks_findIn I1.kIn iC) (fun self => PySem.W.bind_fn I1.kIn self tI) (Nat.zero_le _) ?_)
  refine codeAny_mono (F.run _ X.stack _ _ ⟨[Value.ref (hp.objs.size + 1)], ks.zip ws⟩ (Value.ref (hp.objs.size + 1) :: perm ix ws) _ _ E0 (room.make C [] (ks.zip ws)) (J0.env0.make C [] (ks.zip ws)) bnd rr inw) fun res s' hq => ?_
  match res, hq with
  | .ok (.ret u), hq =>
    obtain ⟨v, H2, os2, bare2, un2, hok2, rr2, ev, qq⟩ := hq
    subst ev
    obtain ⟨h2, g2, d2, t2, os'⟩ := s'
    obtain rfl : os' = os := os2
    exact ⟨rr2, .ref (hp.objs.size + 1), H2, J0.call (h' := h2) (g' := g2) (d' := d2) (t' := t2) (ch := []) un2 hok2 bare2 (fun b z => absurd z (by simp)), rfl, qq⟩
variable [γ : Gd]
def wNewK (C : Addr) (fs : List Str) (ix : List Nat) (n : Nat) (wk : WA) : WE := fun ρ μ P => wk ρ μ fun ds μ1 => ds.length = n ∧ (perm ix ds).length = fs.length ∧ ∀ p, μ1 p = none → P (.obj p) (updM μ1 p (.xo C (fs.zip (perm ix ds)).reverse))
/-- C(k = v, ..), held -/
theorem d_newK {X : Cx} {k j n : Nat} {x : Str} {C : Addr} {fs ks : List Str} {ix : List Nat} {kws : List Keyword} {wk : WA} {p pos : Pos} (D : DefEK X.prog X.w X.K X.mg X.base k x C fs ks ix) (hr : Room j X.A) (hk : k + 1 ≤ j) (hg : Gl X x) (hkw : PK X kws (tDA X.K wk)) (hn : ks.length = n := by rfl)
    (hall : (backToKw pos (keywordEach kws X.env)).all (·.1.isSome) = true := by rfl) (hks : (backToKw pos (keywordEach kws X.env)).filterMap (·.1) = ks := by rfl) (hdb : (x == ("__debug__" : Str)) = false := by decide)
    (hpl : ((backTo pos (starEach [] X.env)).any (·.1) || (backToKw pos (keywordEach kws X.env)).any (·.1.isNone)) = false := by rfl) :
    PE X (.Call (.Name x p) [] kws pos) (tD X.K (wNewK C fs ix n wk)) := by
  subst hn
  have hm : X.mg x = some (.ref C) := by
    obtain ⟨_, _, _, _, _, hm, _⟩ := D
    exact hm
  have kp : PySem.W.keepIn X.K (.ref C) = true := by
    obtain ⟨_, _, T, _⟩ := D
    exact T.kp
  refine ⟨fun pins s σ H Q I ⟨R, ρ, μ, P, a, w, k1⟩ => ?_⟩
  have w1 : tDA X.K wk σ H fun zs H1 => zs.length = ks.length ∧ (perm ix zs).length = fs.length ∧ ∀ a dx, H1 a = none → H1 dx = none → dx ≠ a → Q (.ref a) (upd (upd H1 dx (exd dx (fs.zip (perm ix zs)).reverse)) a (exo a C (some dx))) := ⟨R, ρ, μ, _, a, w, fun ds μ1 zs H1 p1 o1 s1 i1 => by
    obtain ⟨q1, q2, q3⟩ := p1
    have ip := perm_iss i1 ix
    have lv : (perm ix zs).length = fs.length := by rw [ip.length]; exact q2
    refine ⟨by rw [i1.length]; exact q1, lv, fun a dx na nd ne => ?_⟩
    obtain ⟨o2, s2, fm⟩ := o1.newX (C := C) (gs := (fs.zip (perm ix zs)).reverse) (fs := (fs.zip (perm ix ds)).reverse) na nd ne (by rw [List.map_reverse, List.map_reverse, zipE_fst lv, zipE_fst q2]) (by rw [List.map_reverse, List.map_reverse, zipE_snd lv, zipE_snd q2]; exact ip.reverse)
    exact k1 _ _ _ _ (q3 a fm) o2 (s1.trans s2) (.obj a)⟩
  refine wpAny_Call_Name_kw (ld_glob I hg hm ?_ hdb)
  refine PySem.W.callWith_KW0 (h₀ := X.base) I.ok.mod.kin kp hall ?_ hpl
  refine thn (hkw.run pos pins s σ H _ I w1) fun ws s3 ⟨zs, H3, I3, rz, l1, l2, q3⟩ => ⟨I3.kIn, ?_⟩
  rw [hks]
  exact run_mkK D hr hk I3 rz l1 l2 q3
end Dz
set_option Elab.async false
set_option linter.all false
set_option maxRecDepth 100000
set_option maxHeartbeats 4000000
namespace Dz
open PySem PySem.Spec L2 PyProof.Rows
/-- a clause over data: its class, the name's slot, the suite (of the exception's place and fields) -/
structure CDG where
  c : Addr
  i : Option Nat
  su : Addr → Addr → List (Str × DV) → WS
def hdsG (mt : Mt) (E : DEnds) (xr : XR) : List CDG → XR
  | [] => xr
  | q :: r => fun C fs ρ μ => match mt C q.c with
    | some true => ∀ a, q.su a C fs (endD q.i E) (slotD q.i a ρ) μ
    | some false => hdsG mt E xr r C fs ρ μ
    | none => False
def wTryG (mt : Mt) (body : XR → WS) (cs : List CDG) (xr : XR) : WS := fun E ρ μ => body (hdsG mt E xr cs) E ρ μ
/-- .. as it is walked -/
def clauseG (K : PySem.W.Frag) (q : CDG) : Clause := ⟨.ref q.c, q.i, fun a cls d D σ H => ∃ (γ : Gd) (C : Addr) (fs : List (Str × DV)), Caught γ K cls d C fs ∧ @tDS γ K (q.su a C fs) D σ H⟩
inductive ClausesG (X : Cx) : List ExceptHandler → List CDG → Prop
  | nil : ClausesG X [] []
  | named {x n : Str} {i : Nat} {c : Addr} {su : Addr → Addr → List (Str × DV) → WS} {b₀ : Stmt} {suite : List Stmt} {np hp : Pos} {hds : List ExceptHandler} {l : List CDG} (hN : X.N[i]? = some n) (hl : X.env.kindOf n = some .local) (hc : Names X x (.ref c))
      (hsu : ∀ (γ : Gd) (a : Addr) (oe : Obj) (cls : Value) (d : Option Addr) (pn : List (Addr × Obj)) (C : Addr) (fs : List (Str × DV)), Zc cls d oe → (∃ vs, oe.data = .fields vs) → Caught γ X.K cls d C fs → PSs (X.suite a ((a, oe) :: pn)) (b₀ :: suite) (@tDS γ X.K (su a C fs))) (r : ClausesG X hds l) :
      ClausesG X (.ExceptHandler (some (.Name x np)) (some n) (b₀ :: suite) hp :: hds) (⟨c, some i, su⟩ :: l)
theorem ClausesG.k {X : Cx} {hds : List ExceptHandler} {l : List CDG} (h : ClausesG X hds l) : Clauses X hds (l.map (clauseG X.K)) := by
  induction h with
  | nil => exact .nil
  | named hN hl hc hsu r ih =>
    refine .named rfl hN hl hc (fun a oe cls d pn hz hf => ⟨fun pins s σ H D I w => ?_⟩) ih
    obtain ⟨γ, C, fs, k, w⟩ := w
    exact (hsu γ a oe cls d pn C fs hz hf k).run pins s σ H D I w
variable [γ : Gd]
section
variable {X : Cx} {W : WX} {xr : XR}
/-- the clauses' wishes, over data -/
theorem hds_linkG {K : PySem.W.Frag} {R : Hp} {ρ : Rho} {μ : Mh} {H : Hp} {σ : L2.St} {E : DEnds} {D : Ends} (a : At K R σ ρ μ H) (k : NxtD K R μ H E D) (lk : LinkW γ K xr W) : ∀ cs : List CDG, LinkW (gd R μ H) K (hdsG (mtOf K) E xr cs) (wClauses K W D (cs.map (clauseG K)))
  | [] => fun R' ρ' μ' σ' H' C d fs a' x p => by
    have ok' := @At.ok (gd R μ H) _ _ _ _ _ _ a'
    have sl' := @At.sl (gd R μ H) _ _ _ _ _ _ a'
    obtain ⟨o2, s2, s3⟩ := OkG.atR ok'
    exact lk R ρ' μ' σ' H' C d fs ⟨a.ok.back o2 s2, sl'.mono s3⟩ (x.mono s3) p
  | q :: cs => fun R' ρ' μ' σ' H' C d fs a' x p => by
    have ok' := @At.ok (gd R μ H) _ _ _ _ _ _ a'
    have sl' := @At.sl (gd R μ H) _ _ _ _ _ _ a'
    obtain ⟨o2, s2, s3⟩ := OkG.atR ok'
    have p : (match mtOf K C q.c with | some true => ∀ a, q.su a C fs (endD q.i E) (slotD q.i a ρ') μ' | some false => hdsG (mtOf K) E xr cs C fs ρ' μ' | none => False) := p
    split at p
    · rename_i em
      refine ⟨true, em, fun _ e ne => ?_, fun z => (by cases z)⟩
      refine ⟨gd R μ' H', C, fs, ⟨rfl, x.mono s3⟩, ?_⟩
      have fin : ∀ {ρ2 : Rho} {μ2 : Mh} {σ2 : L2.St} {H2 : Hp}, @At (gd R μ' H') K R σ2 ρ2 μ2 H2 → Same (hid R μ' H') (hid R μ2 H2) → At K R σ2 ρ2 μ2 H2 := fun {ρ2 μ2 σ2 H2} a2 t2 => by
        have o4 := (OkG.atR (@At.ok (gd R μ' H') _ _ _ _ _ _ a2)).1
        exact ⟨a.ok.back o4 (s2.trans t2), @At.sl (gd R μ' H') _ _ _ _ _ _ a2⟩
      have rt : @Nxt (gd R μ' H') K R μ' H' E.rt D.rt := fun y μ2 v H2 pp o t i => k.rt y μ2 v H2 pp (a.ok.back (OkG.atR o).1 (s2.trans t)) (s2.trans t) i
      obtain ⟨c, i, su⟩ := q
      have sl2 := sl'.mono s3
      cases i with
      | none =>
        refine ⟨R, ρ', μ', E, @At.mk (gd R μ' H') K R _ _ μ' H' (Ok.now o2) sl2, p e, @NxtD.mk (gd R μ' H') K R μ' H' _ _ ?_ rt ?_ ?_⟩
        · exact fun ρ2 μ2 σ2 H2 pp a2 t2 => k.nx ρ2 μ2 σ2 H2 pp (fin a2 t2) (s2.trans t2)
        · exact fun ρ2 μ2 σ2 H2 pp a2 t2 => k.bk ρ2 μ2 σ2 H2 pp (fin a2 t2) (s2.trans t2)
        · exact fun ρ2 μ2 σ2 H2 pp a2 t2 => k.ct ρ2 μ2 σ2 H2 pp (fin a2 t2) (s2.trans t2)
      | some i =>
        have un : ∀ {ρ2 : Rho} {μ2 : Mh} {σ2 : L2.St} {H2 : Hp}, At K R σ2 ρ2 μ2 H2 → At K R (σ2.set i none) (ρ2.set i none) μ2 H2 := fun a2 => ⟨a2.ok, a2.sl.unset i⟩
        refine ⟨R, ρ'.set i (some (.obj e)), μ', endD (some i) E, @At.mk (gd R μ' H') K R _ _ μ' H' (Ok.now o2) (sl2.set i (.obj e)), p e, @NxtD.mk (gd R μ' H') K R μ' H' _ _ ?_ rt ?_ ?_⟩
        · exact fun ρ2 μ2 σ2 H2 pp a2 t2 => k.nx _ μ2 _ H2 pp (un (fin a2 t2)) (s2.trans t2)
        · exact fun ρ2 μ2 σ2 H2 pp a2 t2 => k.bk _ μ2 _ H2 pp (un (fin a2 t2)) (s2.trans t2)
        · exact fun ρ2 μ2 σ2 H2 pp a2 t2 => k.ct _ μ2 _ H2 pp (un (fin a2 t2)) (s2.trans t2)
    · rename_i em
      exact ⟨false, em, fun z => (by cases z), fun _ => hds_linkG a k lk cs R' ρ' μ' σ' H' C d fs a' x p⟩
    · exact p.elim
theorem ds_tryG {body : List Stmt} {h₀ : ExceptHandler} {hds : List ExceptHandler} {cs : List CDG} {pos : Pos} {tb : XR → WS} (hst : X.stack = X.env :: X.outer) (hfr : X.env.frame = some X.env.locals) (hNd : X.N.Nodup) (tk : Takes X W) (lk : LinkW γ X.K xr W)
    (hb : ∀ (γ : Gd) (W : WX) (xr : XR) (pn : List (Addr × Obj)) (xe : Value → Shared → Prop), Takes (X.tr pn xe) W → PassesOwn (model X.prog X.w) X.A X.env xe → LinkW γ X.K xr W → PSs (X.tr pn xe) body (@tDS γ X.K (tb xr)))
    (hh : ClausesG X (h₀ :: hds) cs) : PS X (.Try body (h₀ :: hds) [] [] pos) (tDS X.K (wTryG (mtOf X.K) tb cs xr)) := by
  refine PS.imp (ps_try_hds (tb := fun W D σ H => ∃ (γ : Gd) (xr : XR), LinkW γ X.K xr W ∧ @tDS γ X.K (tb xr) D σ H) hst hfr hNd tk (fun W pn xe tk2 hp => ⟨fun pins s σ H D I w => ?_⟩) hh.k) fun D σ H ⟨R, ρ, μ, E, a, w, k⟩ => ?_
  · obtain ⟨γ2, xr2, lk2, w2⟩ := w
    exact (hb γ2 W xr2 pn xe tk2 hp lk2).run pins s σ H D I w2
  · refine ⟨gd R μ H, hdsG (mtOf X.K) E xr cs, hds_linkG a k lk cs, R, ρ, μ, E, @At.mk (gd R μ H) X.K R _ _ μ H (Ok.now a.ok.non) a.sl, w, @NxtD.mk (gd R μ H) X.K R μ H _ _ ?_ ?_ ?_ ?_⟩
    · exact fun ρ2 μ2 σ2 H2 pp a2 t2 => k.nx ρ2 μ2 σ2 H2 pp ⟨a.ok.back (OkG.atR (@At.ok (gd R μ H) _ _ _ _ _ _ a2)).1 t2, @At.sl (gd R μ H) _ _ _ _ _ _ a2⟩ t2
    · exact fun y μ2 v H2 pp o t i => k.rt y μ2 v H2 pp (a.ok.back (OkG.atR o).1 t) t i
    · exact fun ρ2 μ2 σ2 H2 pp a2 t2 => k.bk ρ2 μ2 σ2 H2 pp ⟨a.ok.back (OkG.atR (@At.ok (gd R μ H) _ _ _ _ _ _ a2)).1 t2, @At.sl (gd R μ H) _ _ _ _ _ _ a2⟩ t2
    · exact fun ρ2 μ2 σ2 H2 pp a2 t2 => k.ct ρ2 μ2 σ2 H2 pp ⟨a.ok.back (OkG.atR (@At.ok (gd R μ H) _ _ _ _ _ _ a2)).1 t2, @At.sl (gd R μ H) _ _ _ _ _ _ a2⟩ t2
end
end Dz
set_option Elab.async false
set_option linter.all false
set_option maxRecDepth 100000
set_option maxHeartbeats 4000000
namespace Dz
open PySem PySem.Spec L2 PyProof.Rows
/-- isinstance of the pinned exception -/
def rIsP (K : PySem.W.Frag) (a C : Addr) (d : Option Addr) : List V → Hp → VK → Prop := fun xs H Q => ∃ (c : V) (cv : Value) (b : Bool), xs = [.ref a, c] ∧ (∀ dx, d = some dx → ∃ gs, H dx = some (.xd gs)) ∧ L2.ExcC K C ∧ (∀ u, RelV c u → u = cv) ∧ PySem.W.kitOne K (.ref C) cv = some b ∧ Q (.bl b) H
theorem call_isP {X : Cx} {a C : Addr} {d : Option Addr} {oe : Obj} (hp : (a, oe) ∈ X.pn) (hz : Zc (.ref C) d oe) (hf : ∃ vs, oe.data = .fields vs) : CallR X (.builtin "isinstance") (rIsP X.K a C d) := by
  intro pins s σ H xs us Q I r h
  obtain ⟨c, cv, b, rfl, ed, T, hcv, e, q⟩ := h
  cases r with
  | cons rx rr =>
    cases rr with
    | cons rt rr =>
      cases rr
      cases rx
      have ec := hcv _ rt
      subst ec
      obtain ⟨vs, hv⟩ := hf
      have geta := (I.pin (a, oe) (List.mem_append_left _ hp)).1
      have nc : PySem.W.notCls oe = true := by
        unfold PySem.W.notCls
        rw [hv] <;> rfl
      cases d with
      | none => exact ask_is (od := none) I ⟨geta, hz.1, nc, by rw [hz.2]; trivial⟩ T e q
      | some dx =>
        obtain ⟨gs, e2⟩ := ed dx rfl
        have hx : ObjOk X.prog X.w H s.heap dx (.xd gs) := I.hok dx _ e2
        obtain ⟨mA, ns, _⟩ := hx
        obtain ⟨od, e3, _⟩ := lookIn_ns ns
        exact ask_is (od := some od) I ⟨geta, hz.1, nc, by rw [hz.2]; exact e3⟩ T e q
section
variable [γ : Gd]
/-- isinstance(e, c), e the exception at a, of the class at C -/
def wIsP (kt : KtM) (a C : Addr) (cv : Value) (w : WE) : WE := fun ρ μ P => w ρ μ fun d μ1 => d = .obj a ∧ ∃ b, kt C cv = some b ∧ P (.bool b) μ1
theorem d_isP {X : Cx} {a C : Addr} {d : Option Addr} {oe : Obj} {fs : List (Str × DV)} {x : Str} {p p2 pos : Pos} {e : Expr} {w : WE} {cv : Value} {v : V} (hp : (a, oe) ∈ X.pn) (hz : Zc (.ref C) d oe) (hf : ∃ vs, oe.data = .fields vs) (kx : ExD X.K γ.S d fs) (c : ClsN X x v cv) (hg : Gl X "isinstance") (hm : X.mg "isinstance" = none) (ha : PE X e (tD X.K w))
    (hs : starEach [e, .Name x p2] X.env = (false, eval e X.env) :: starEach [.Name x p2] X.env := by rfl) (hs2 : starEach [.Name x p2] X.env = [(false, eval (.Name x p2) X.env)] := by rfl) :
    PE X (.Call (.Name "isinstance" p) [e, .Name x p2] [] pos) (tD X.K (wIsP (isOf X.K) a C cv w)) :=
  PE.imp (pe_callB (call_isP hp hz hf) hg hm (by decide +kernel) (pa_cons ha (pa_cons c.pe pa_nil hs2) hs) (by decide) (by decide) hs (by rw [hs2]; rfl)) fun σ H Q ⟨R, ρ, μ, P, at_, w, k⟩ =>
    ⟨R, ρ, μ, _, at_, w, fun y μ1 v1 H1 p1 o1 s1 i1 => by
      obtain ⟨rfl, b, e2, p3⟩ := p1
      cases i1
      obtain ⟨T, kk⟩ := isOf_is e2
      refine ⟨v, cv, b, rfl, fun dx z => ?_, T, c.rel, kk, k _ μ1 _ H1 p3 o1 s1 (.bool _)⟩
      rcases kx with ⟨z2, _⟩ | ⟨dx2, gs, z2, e3, _⟩
      · rw [z2] at z
        cases z
      · rw [z2] at z
        cases z
        exact ⟨gs, hid_le _ _ (o1.sam _ _ e3)⟩⟩
end
/-- what a def promises that a suite calls: wf of the exception's place and class -/
def HotD (P : Program) (w : World) (K : PySem.W.Frag) (mg : Str → Option Value) (base : Heap) (k : Nat) (x : Str) (ps : List Str) (wf : Addr → Addr → WF) : Prop :=
  ∃ f fd, mg x = some (.ref f) ∧ PySem.W.keepIn K (.ref f) = true ∧ Binds K fd ps [] ∧
    ∀ (A : Around) (fr : List Env) (s : Shared) (H : Hp) (us : List Value) (vs : List V) (Q : VK) (a : Addr) (oe : Obj) (C : Addr) (d : Option Addr), L2H.RoomH k A → L2H.PinOk fr H s (a, oe) → Zc (.ref C) d oe → (∃ vs, oe.data = .fields vs) → Env0 P w K mg base A fr s H → Vals vs us →
      (∃ R ds μ Pd fs, OkG Gd.non K R μ H ∧ Iss K (hid R μ H) vs ds ∧ ds.length = ps.length ∧ ExD K (hid R μ H) d fs ∧ wf a C ds μ Pd ∧ @Nxt Gd.non K R μ H Pd Q) →
      codeAny (model P w) A (.call (.ref f) ⟨us, []⟩) (CR L2.CX0 fr P w H s Q L2.E0) s
theorem hotD_of {P : Program} {w : World} {K : PySem.W.Frag} {mg : Str → Option Value} {base : Heap} {k : Nat} {x : Str} {st : Stmt} {f : Addr} {fd : FuncData} {N ps : List Str} {wr : Addr → Addr → WS} {wf : Addr → Addr → WF} (hm : mg x = some (.ref f)) (kp : PySem.W.keepIn K (.ref f) = true) (hb : Binds K fd ps []) (F : Fun K x x st f fd) (S : FnScope N ps (defScope st))
    (body : ∀ (γ : Gd) (cdv : Value) (A : Around) (fr : List Env) (s : Shared) (H : Hp) (a : Addr) (oe : Obj) (C : Addr) (d : Option Addr) (fs : List (Str × DV)), Zc (.ref C) d oe → (∃ vs, oe.data = .fields vs) → ExD K γ.S d fs →
      PSs (L2H.cxH L2.CX0 P w K mg base N x (defScope st) f cdv A fr s H L2.E0 (a, oe)) (defBody st) (@tDS γ K (wr a C)))
    (hw : ∀ a C ds μ Q, ds.length = ps.length → wf a C ds μ Q → wr a C { nx := fun _ μ' => Q .none μ', rt := Q } (ds.map some ++ List.replicate (N.length - ps.length) none) μ) : HotD P w K mg base (k + 1) x ps wf := by
  refine ⟨f, fd, hm, kp, hb, fun A fr s H us vs Q a oe C d room pin hz hf env rel want => ?_⟩
  obtain ⟨R, ds, μ, Pd, fs, o, r, l, ex, w1, k1⟩ := want
  obtain ⟨oc, od, kV, doc, pm, an, cdv, ct, osl, rfl, lk, hcd⟩ := F.ex
  have inK : K.In s.heap := env.mod.kin.keeps fun b o q => (env.bs b o q).1
  have nolim : s.heap.NoLimit := env.mod.nolimit.keeps fun b o q => (env.bs b o q).1
  have count : vs.length = ps.length := by rw [r.length, l]
  have kinds : ∀ y ∈ ps.zip us, (defScope st).names.lookup y.1 = some .local ∨ ((defScope st).names.lookup y.1 = some .cell ∧ ((cellsFrom (s.heap.objs.size + 1) (defScope st).names []).lookup y.1).isSome = true) := by
    rintro ⟨nm, vv⟩ hy
    rcases S.par nm (List.of_mem_zip hy).1 with hp | hp
    · exact Or.inl hp
    · exact Or.inr ⟨hp, PySem.W.cellsFrom_some _ _ _ (Or.inl hp)⟩
  have bnd := hb s us inK (by rw [List.append_nil, ← rel.length, count])
  rw [List.append_nil] at bnd
  refine codeAny_call_function room.depth (inK _ _ lk) rfl S.co S.gen rfl (PySem.W.codeRec_of inK hcd) (bnd _ _ _ _ ?_)
  refine wpAny_newFunctionEnv_cells S.kind kinds fun ev hev s1 x1 => ?_
  subst hev
  refine ⟨nolim.keeps x1.toInCall.keep, codeAny_func ?_⟩
  have ht := body (gd R μ H) cdv A fr s H a oe C d fs hz hf ex
  have I0 := L2H.inv_startH (CX := L2.CX0) (E := L2.E0) (qual := x) (f := f) (cd := cdv) S pin env count rel x1
  have wish : @tDS (gd R μ H) K (wr a C) { nx := fun _ H' => Q .non H', rt := Q } (start N vs) H := by
    refine ⟨R, ds.map some ++ List.replicate (N.length - ps.length) none, μ, { nx := fun _ μ' => Pd .none μ', rt := Pd }, ?_, hw a C ds μ Pd l w1, ?_⟩
    · refine @At.mk (gd R μ H) K R _ _ μ H (@Ok.now Gd.non K R μ H o) ?_
      rw [← l]
      exact @Sl.start Gd.non K _ N vs ds r
    · exact @NxtD.mk (gd R μ H) K R μ H _ _ (fun ρ' μ' σ' H' p a' s' => k1 .none μ' .non H' p (OkG.atR (@At.ok (gd R μ H) _ _ _ _ _ _ a')).1 s' .none) (fun d μ' v H' p o' s' i => k1 d μ' v H' p (OkG.atR o').1 s' i) (fun _ _ _ _ p => p.elim) (fun _ _ _ _ p => p.elim)
  refine wpAny_mono (ht.run [] s1 (start N vs) H _ I0 wish) (fun flow s2 hs => ?_) fun er s2 hs => hs
  cases flow with
  | next =>
    obtain ⟨σ2, H2, J, q⟩ := hs
    exact ⟨.non, H2, J.os, J.bare, J.base, J.hok, rfl, q⟩
  | ret u =>
    obtain ⟨v, σ2, H2, J, rv, q⟩ := hs
    exact ⟨v, H2, J.os, J.bare, J.base, J.hok, rv, q⟩
  | brk =>
    obtain ⟨_, _, _, q⟩ := hs
    exact q.elim
  | cont =>
    obtain ⟨_, _, _, q⟩ := hs
    exact q.elim
theorem hotD_at {P : Program} {w : World} {K : PySem.W.Frag} {mg : Str → Option Value} {base : Heap} {k : Nat} {x : Str} {st : Stmt} {N ps : List Str} {wr : Addr → Addr → WS} {wf : Addr → Addr → WF} (h : At1 K mg x st) (S : FnScope N ps (defScope st))
    (hbd : ∀ (kV doc pm : Value) (an : Option Addr) (cdv ct : Value) (us : List Value), us.length = ps.length → bindArgs (PySem.W.fnOf x x (defArgs st) (defBody st) (defScope st) .none kV doc pm an cdv ct) ⟨us, []⟩ = pure (ps.zip us))
    (body : ∀ (γ : Gd) (f : Addr) (cdv : Value) (A : Around) (fr : List Env) (s : Shared) (H : Hp) (a : Addr) (oe : Obj) (C : Addr) (d : Option Addr) (fs : List (Str × DV)), Zc (.ref C) d oe → (∃ vs, oe.data = .fields vs) → ExD K γ.S d fs →
      PSs (L2H.cxH L2.CX0 P w K mg base N x (defScope st) f cdv A fr s H L2.E0 (a, oe)) (defBody st) (@tDS γ K (wr a C)))
    (hw : ∀ a C ds μ Q, ds.length = ps.length → wf a C ds μ Q → wr a C { nx := fun _ μ' => Q .none μ', rt := Q } (ds.map some ++ List.replicate (N.length - ps.length) none) μ) : HotD P w K mg base (k + 1) x ps wf := by
  obtain ⟨f, fd, hm, F⟩ := h
  exact hotD_of hm F.kp (F.binds hbd) F S (fun γ => body γ f) hw
variable [γ : Gd]
/-- f(e, ..) in a suite -/
theorem d_hot {X : Cx} {a C : Addr} {d : Option Addr} {oe : Obj} {fs : List (Str × DV)} {k n : Nat} {x : Str} {ps : List Str} {wf : Addr → Addr → WF} {p pos : Pos} {e : Expr} {es : List Expr} {wa : WA} (D : HotD X.prog X.w X.K X.mg X.base k x ps wf) (hr : L2H.RoomH k X.A) (hp : (a, oe) ∈ X.pn) (hz : Zc (.ref C) d oe) (hf : ∃ vs, oe.data = .fields vs) (kx : ExD X.K γ.S d fs) (hg : Gl X x) (ha : PA X (e :: es) (tDA X.K wa)) (hn : ps.length = n := by rfl)
    (hdb : (x == ("__debug__" : Str)) = false := by decide) (hst : starEach (e :: es) X.env = (false, eval e X.env) :: starEach es X.env := by rfl) (hpl : (backTo pos (starEach es X.env)).any (·.1) = false := by rfl) :
    PE X (.Call (.Name x p) (e :: es) [] pos) (tD X.K (wCall n (wf a C) wa)) := by
  subst hn
  obtain ⟨f, fd, hm, kp, hb, F⟩ := D
  refine ⟨fun pins s σ H Q I ⟨R, ρ, μ, P, at_, w, k1⟩ => ?_⟩
  have w1 : tDA X.K wa σ H fun vs H1 => ∃ R ds μ Pd fs, OkG Gd.non X.K R μ H1 ∧ Iss X.K (hid R μ H1) vs ds ∧ ds.length = ps.length ∧ ExD X.K (hid R μ H1) d fs ∧ wf a C ds μ Pd ∧ @Nxt Gd.non X.K R μ H1 Pd Q := ⟨R, ρ, μ, _, at_, w, fun ds μ1 vs H1 p1 o1 s1 i1 => ⟨R, ds, μ1, P, fs, o1.non, i1, p1.1, kx.mono o1.sam, p1.2, (k1.step s1).non o1⟩⟩
  refine wpAny_Call_Name_kw (ld_glob I hg hm ?_ hdb)
  refine PySem.W.callWith_K (h₀ := X.base) I.ok.mod.kin kp (thn (ha.run pos pins s σ H _ I w1) ?_) hst hpl
  rintro us s1 ⟨vs, H1, I1, rv, want⟩
  have P1 := I1.pin (a, oe) (List.mem_append_left _ hp)
  have pin : L2H.PinOk X.stack H1 s1 (a, oe) := ⟨P1.1, P1.2.1, fun hm => (List.mem_cons.mp (I1.stkSub a hm)).elim P1.2.2.1 P1.2.2.2.1, P1.2.2.2.2⟩
  refine ⟨I1.kIn, wpAny_call (codeAny_mono (F X.A X.stack s1 H1 us vs Q a oe C d hr pin hz hf I1.env0 rv want) fun r s' hq => ?_)⟩
  match r, hq with
  | .ok (.ret u), hq => exact I1.after hq
end Dz
set_option Elab.async false
set_option linter.all false
set_option maxRecDepth 100000
set_option maxHeartbeats 4000000
namespace Dz
open PySem PySem.Spec L2 PyProof.Rows
theorem roomH_at (j : Nat) {k : Nat} {A : Around} (dp : A.depth + 3 * j + 5 < recursionLimit) (un : A.units + 16 * j + 200 < cLine) (h : k ≤ j) : L2H.RoomH k A := ⟨by omega, by omega⟩
/-- may isinstance be asked of its exceptions? -/
def xcB (K : PySem.W.Frag) (D : Addr) : Bool :=
  PySem.W.findIn K (.ref D) "__getattribute__" == some (some (.builtin "BaseException.__getattribute__")) && PySem.W.findIn K (.ref D) "__getattr__" == some none && PySem.W.subIn K (.ref D) (.type "BaseException") == some true && PySem.W.hasDictIn K D
    && PySem.W.findIn K (.ref D) "__class__" == some (some (.builtin "object.__class__")) && PySem.W.specialIn K (.builtin "object.__class__") "__get__" == some (some (.builtin "getset_descriptor.__get__")) && PySem.W.takesIn K (.builtin "object.__class__") == some true && PySem.W.mroIn K D (.type "object") == some true
theorem xcB_is {K : PySem.W.Frag} {D : Addr} (h : xcB K D = true) : L2.ExcC K D := by
  simp only [xcB, Bool.and_eq_true, beq_iff_eq] at h
  obtain ⟨⟨⟨⟨⟨⟨⟨a, b⟩, c⟩, d⟩, e⟩, f⟩, g⟩, k⟩ := h
  exact ⟨a, b, c, d, e, f, g, k⟩
/-- may the field be read? -/
def foB (K : PySem.W.Frag) (D : Addr) (f : Str) : Bool :=
  PySem.W.findIn K (.ref D) "__getattribute__" == some (some (.builtin "BaseException.__getattribute__")) && PySem.W.findIn K (.ref D) "__getattr__" == some none && PySem.W.subIn K (.ref D) (.type "BaseException") == some true && PySem.W.hasDictIn K D && PySem.W.findIn K (.ref D) f == some none
theorem foB_is {K : PySem.W.Frag} {D : Addr} {f : Str} (h : foB K D f = true) : fldOf K D f := by
  simp only [foB, Bool.and_eq_true, beq_iff_eq] at h
  obtain ⟨⟨⟨⟨a, b⟩, c⟩, d⟩, e⟩ := h
  exact ⟨⟨a, b, c, d⟩, e⟩
/-- the classes cs, of which none is a subclass of another; CF above them all; the built-in ones ts -/
def kiB (K : PySem.W.Frag) (cs : List Addr) (CF : Addr) (ts : List (String × Bool)) : Bool :=
  (List.range cs.length).all fun i => (List.range cs.length).all (fun j => PySem.W.kitOne K (.ref (cs.getD i 0)) (.ref (cs.getD j 0)) == some (i == j)) && PySem.W.kitOne K (.ref (cs.getD i 0)) (.ref CF) == some true && ts.all fun t => PySem.W.kitOne K (.ref (cs.getD i 0)) (.type t.1) == some t.2
section
variable {K : PySem.W.Frag} {cs : List Addr} {CF : Addr} {ts : List (String × Bool)}
theorem kiB_is (hx : cs.all (xcB K) = true) (h : kiB K cs CF ts = true) {i : Nat} (hi : i < cs.length) :
    (∀ j, j < cs.length → isOf K (cs.getD i 0) (.ref (cs.getD j 0)) = some (i == j)) ∧ isOf K (cs.getD i 0) (.ref CF) = some true ∧ ∀ t ∈ ts, isOf K (cs.getD i 0) (.type t.1) = some t.2 := by
  have T : L2.ExcC K (cs.getD i 0) := by
    refine xcB_is (List.all_eq_true.mp hx _ ?_)
    rw [List.getD_eq_getElem?_getD, List.getElem?_eq_getElem hi]
    exact List.getElem_mem hi
  have z := List.all_eq_true.mp h i (List.mem_range.mpr hi)
  simp only [Bool.and_eq_true, beq_iff_eq] at z
  obtain ⟨⟨a, b⟩, c⟩ := z
  refine ⟨fun j hj => isOf_of T ?_, isOf_of T b, fun t ht => isOf_of T ?_⟩
  · have z := List.all_eq_true.mp a j (List.mem_range.mpr hj)
    exact beq_iff_eq.mp z
  · exact beq_iff_eq.mp (List.all_eq_true.mp c t ht)
end
end Dz
set_option Elab.async false
set_option linter.all false
set_option maxRecDepth 100000
namespace K01
open PySem L2 Dz
def w_law_deck : WS :=
  (wSeq (wPar 1 2 (wCons (wB wList (wCons (wSl (wVar 0) wNoPart (wPart (wC (.int 63)))) wNil)) (wCons (wC (.int 77011)) wNil)))
    (wSeq (wFor (sLst (wVar 1)) (wgName 3) (wAsg (wBin wMod (wBin wAdd (wBin wAdd (wBin wMul (wVar 2) (wC (.int 48271))) (wBin wMod (wVar 3) (wC (.int 2147483629)))) (wC (.int 41))) (wC (.int 2147483587))) (wgName 2)))
    (wRet (wDctM [((.inr "cells"), (wRevM (wVar 1))), ((.inr "total"), (wVar 2)), ((.inr "draws"), (wC (.int 0)))]))))
def w_law_draw : WS :=
  (wSeq (wPar 2 3 (wCons (wBin wAdd (wBin wDGet (wVar 0) (wC (.str "draws"))) (wC (.int 1))) (wCons (wBin wDGet (wVar 0) (wC (.str "total"))) wNil)))
    (wSeq (wDPut (wVar 0) (wC (.str "draws")) (wVar 2))
    (wSeq (wIfS (wTest (wBin wNeL (wBin wDGet (wVar 0) (wC (.str "cells"))) (wLst wNil))) (wSeq (wAsg (wUn wPop (wBin wDGet (wVar 0) (wC (.str "cells")))) (wgName 3))
    (wSeq (wIfS (wTest (wBin wGe (wVar 3) (wBin wPow (wC (.int 10)) (wC (.int 18))))) (wSeq (wDrop (wApp (wBin wDGet (wVar 0) (wC (.str "cells"))) (wBin wDiv (wVar 3) (wVar 1))))
    (wRet (wBin wMod (wVar 3) (wVar 1)))) wNext)
    (wAsg (wBin wAdd (wVar 3) (wBin wDGet (wVar 0) (wC (.str "total")))) (wgName 3)))) wNext)
    (wSeq (wAsg (wBin wMod (wBin wMul (wBin wAdd (wBin wAdd (wBin wMod (wVar 3) (wC (.int 2147483629))) (wBin wMul (wBin wMul (wC (.int 60251)) (wVar 2)) (wVar 2))) (wC (.int 47))) (wC (.int 40692))) (wC (.int 2147483647))) (wgName 4))
    (wSeq (wAsg (wBin wMod (wBin wAdd (wBin wAdd (wBin wMul (wVar 4) (wVar 4)) (wBin wMul (wC (.int 69809)) (wVar 2))) (wC (.int 31))) (wC (.int 2147483587))) (wgName 4))
    (wRet (wBin wMod (wBin wDiv (wBin wMod (wBin wMul (wVar 4) (wC (.int 39409))) (wC (.int 2147483563))) (wC (.int 64))) (wVar 1))))))))
def w_law_pick (f_law_draw : WF) : WS :=
  (wRet (wBin wIx (wVar 1) (wCall 2 f_law_draw (wCons (wVar 0) (wCons (wB wLen (wCons (wVar 1) wNil)) wNil)))))
def w_law_thing (f_law_draw : WF) (f_law_thing : WF) (f_law_pick : WF) : WS :=
  (wSeq (wAsg (wCall 2 f_law_draw (wCons (wVar 0) (wCons (wC (.int 12)) wNil))) (wgName 2))
    (wSeq (wIfS (wAndT (wTest (wBin wLtA (wVar 2) (wC (.int 3)))) (wTest (wBin wGt (wVar 1) (wC (.int 0))))) (wRet (wB wTuple (wCons (wLc (sRng1 (wCall 2 f_law_draw (wCons (wVar 0) (wCons (wC (.int 4)) wNil)))) (wgName 3) wYes (wCall 2 f_law_thing (wCons (wVar 0) (wCons (wBin wSub (wVar 1) (wC (.int 1))) wNil))) [3]) wNil))) wNext)
    (wSeq (wIfS (wAndT (wTest (wBin wEqL (wVar 2) (wC (.int 3)))) (wTest (wBin wGt (wVar 1) (wC (.int 0))))) (wRet (wLc (sRng1 (wCall 2 f_law_draw (wCons (wVar 0) (wCons (wC (.int 3)) wNil)))) (wgName 3) wYes (wCall 2 f_law_thing (wCons (wVar 0) (wCons (wBin wSub (wVar 1) (wC (.int 1))) wNil))) [3])) wNext)
    (wSeq (wIfS (wAndT (wTest (wBin wEqL (wVar 2) (wC (.int 4)))) (wTest (wBin wGt (wVar 1) (wC (.int 0))))) (wRet (wDct [((.inr "a"), (wCall 2 f_law_thing (wCons (wVar 0) (wCons (wBin wSub (wVar 1) (wC (.int 1))) wNil)))), ((.inl 7), (wC .none))])) wNext)
    (wSeq (wAsg (wLst (wCons (wC .none) (wCons (wC (.bool true)) (wCons (wC (.bool false)) (wCons (wC (.int 0)) (wCons (wUn wNeg (wC (.int 1))) (wCons (wBin wPow (wC (.int 10)) (wC (.int 39))) (wCons (wC (.str "")) (wCons (wC (.str "kind")) (wCons (wC (.str "several")) (wCons (wTup (wCons (wC (.int 1)) (wCons (wC (.int 2)) wNil))) (wCons (wTup wNil) (wCons (wLst wNil) (wCons (wTup (wCons (wC (.str "no")) (wCons (wC (.str "t")) (wCons (wC (.str "a")) (wCons (wC (.str "word")) wNil))))) (wCons (wC (.int 2000)) wNil))))))))))))))) (wgName 4))
    (wRet (wCall 2 f_law_pick (wCons (wVar 0) (wCons (wVar 4) wNil)))))))))
def w_law_own_kinds (C_BadRow : Addr) (C_BadTable : Addr) (C_Failed : Addr) (C_InvalidCommand : Addr) (C_InvalidText : Addr) (C_KeyTaken : Addr) (C_NameTaken : Addr) (C_NoColumn : Addr) (C_NoCourse : Addr) (C_NoGoal : Addr) (C_NoPlan : Addr) (C_NoQuestion : Addr) (C_NoRow : Addr) (C_NoRun : Addr) (C_NoTable : Addr) (C_NotPlain : Addr) (C_NothingAsked : Addr) (C_Outdated : Addr) (C_TooGreat : Addr) (is : Value → WE → WE) : WS :=
  (wSeq (wAsg (wLst (wCons (is (.ref C_Failed) (wVar 0)) (wCons (is (.ref C_NameTaken) (wVar 0)) (wCons (is (.ref C_BadTable) (wVar 0)) (wCons (is (.ref C_NoTable) (wVar 0)) wNil))))) (wgName 1))
    (wSeq (wAsg (wBin wAdd (wVar 1) (wLst (wCons (is (.ref C_NoColumn) (wVar 0)) (wCons (is (.ref C_BadRow) (wVar 0)) (wCons (is (.ref C_KeyTaken) (wVar 0)) (wCons (is (.ref C_NoRow) (wVar 0)) wNil)))))) (wgName 1))
    (wSeq (wAsg (wBin wAdd (wVar 1) (wLst (wCons (is (.ref C_TooGreat) (wVar 0)) (wCons (is (.ref C_Outdated) (wVar 0)) (wCons (is (.ref C_NoGoal) (wVar 0)) (wCons (is (.ref C_NoCourse) (wVar 0)) wNil)))))) (wgName 1))
    (wSeq (wAsg (wBin wAdd (wVar 1) (wLst (wCons (is (.ref C_NoQuestion) (wVar 0)) (wCons (is (.ref C_NotPlain) (wVar 0)) (wCons (is (.ref C_NoPlan) (wVar 0)) wNil))))) (wgName 1))
    (wSeq (wAsg (wBin wAdd (wVar 1) (wLst (wCons (is (.ref C_InvalidText) (wVar 0)) (wCons (is (.ref C_InvalidCommand) (wVar 0)) wNil)))) (wgName 1))
    (wRet (wBin wAdd (wVar 1) (wLst (wCons (is (.ref C_NothingAsked) (wVar 0)) (wCons (is (.ref C_NoRun) (wVar 0)) wNil))))))))))
def w_law_other_kinds (is : Value → WE → WE) : WS :=
  (wSeq (wAsg (wLst (wCons (is (.type "ValueError") (wVar 0)) (wCons (is (.type "LookupError") (wVar 0)) (wCons (is (.type "ArithmeticError") (wVar 0)) wNil)))) (wgName 1))
    (wSeq (wAsg (wBin wAdd (wVar 1) (wLst (wCons (is (.type "TypeError") (wVar 0)) (wCons (is (.type "RuntimeError") (wVar 0)) (wCons (is (.type "AttributeError") (wVar 0)) wNil))))) (wgName 1))
    (wRet (wBin wAdd (wVar 1) (wLst (wCons (is (.type "NotImplementedError") (wVar 0)) wNil))))))
def w_law_made (C_BadRow : Addr) (C_BadTable : Addr) (C_Failed : Addr) (C_InvalidCommand : Addr) (C_InvalidText : Addr) (C_KeyTaken : Addr) (C_NameTaken : Addr) (C_NoColumn : Addr) (C_NoCourse : Addr) (C_NoGoal : Addr) (C_NoPlan : Addr) (C_NoQuestion : Addr) (C_NoRow : Addr) (C_NoRun : Addr) (C_NoTable : Addr) (C_NotPlain : Addr) (C_NothingAsked : Addr) (C_Outdated : Addr) (C_TooGreat : Addr) (fo : FoM) : WS :=
  (wSeq (wAsg (wBin wIx (wVar 1) (wC (.int 0))) (wgName 2))
    (wSeq (wIfS (wTest (wBin wEqL (wVar 0) (wC (.int 0)))) (wSeq (wAsg (wNewE C_Failed ["word", "place", "numbers"] (wCons (wVar 2) (wCons (wBin wIx (wVar 1) (wC (.int 1))) (wCons (wBin wIx (wVar 1) (wC (.int 2))) wNil)))) (wgName 3))
    (wRet (wLst (wCons (wVar 3) (wCons (wLst (wCons (wXo fo "word" (wVar 3)) (wCons (wXo fo "place" (wVar 3)) (wCons (wXo fo "numbers" (wVar 3)) wNil)))) wNil))))) wNext)
    (wSeq (wIfS (wTest (wBin wIn (wVar 0) (wTup (wCons (wC (.int 1)) (wCons (wC (.int 3)) (wCons (wC (.int 4)) wNil)))))) (wSeq (wAsg (wIf (wTest (wBin wEqL (wVar 0) (wC (.int 1)))) (wNewE C_NameTaken ["name"] (wCons (wVar 2) wNil)) (wIf (wTest (wBin wEqL (wVar 0) (wC (.int 3)))) (wNewE C_NoTable ["name"] (wCons (wVar 2) wNil)) (wNewE C_NoColumn ["name"] (wCons (wVar 2) wNil)))) (wgName 3))
    (wRet (wLst (wCons (wVar 3) (wCons (wLst (wCons (wXo fo "name" (wVar 3)) wNil)) wNil))))) wNext)
    (wSeq (wIfS (wTest (wBin wEqL (wVar 0) (wC (.int 2)))) (wSeq (wAsg (wNewE C_BadTable ["part"] (wCons (wVar 2) wNil)) (wgName 3))
    (wRet (wLst (wCons (wVar 3) (wCons (wLst (wCons (wXo fo "part" (wVar 3)) wNil)) wNil))))) wNext)
    (wSeq (wIfS (wTest (wBin wIn (wVar 0) (wTup (wCons (wC (.int 5)) (wCons (wC (.int 6)) wNil))))) (wSeq (wAsg (wIf (wTest (wBin wEqL (wVar 0) (wC (.int 5)))) (wNewE C_BadRow ["column"] (wCons (wVar 2) wNil)) (wNewE C_KeyTaken ["column"] (wCons (wVar 2) wNil))) (wgName 3))
    (wRet (wLst (wCons (wVar 3) (wCons (wLst (wCons (wXo fo "column" (wVar 3)) wNil)) wNil))))) wNext)
    (wSeq (wIfS (wTest (wBin wIn (wVar 0) (wTup (wCons (wC (.int 7)) (wCons (wC (.int 10)) (wCons (wC (.int 11)) wNil)))))) (wSeq (wAsg (wIf (wTest (wBin wEqL (wVar 0) (wC (.int 7)))) (wNewE C_NoRow ["number"] (wCons (wVar 2) wNil)) (wIf (wTest (wBin wEqL (wVar 0) (wC (.int 10)))) (wNewE C_NoGoal ["number"] (wCons (wVar 2) wNil)) (wNewE C_NoCourse ["number"] (wCons (wVar 2) wNil)))) (wgName 3))
    (wRet (wLst (wCons (wVar 3) (wCons (wLst (wCons (wXo fo "number" (wVar 3)) wNil)) wNil))))) wNext)
    (wSeq (wIfS (wTest (wBin wEqL (wVar 0) (wC (.int 8)))) (wSeq (wAsg (wNewE C_TooGreat ["limit"] (wCons (wVar 2) wNil)) (wgName 3))
    (wRet (wLst (wCons (wVar 3) (wCons (wLst (wCons (wXo fo "limit" (wVar 3)) wNil)) wNil))))) wNext)
    (wSeq (wIfS (wTest (wBin wEqL (wVar 0) (wC (.int 9)))) (wSeq (wAsg (wNewE C_Outdated ["fact"] (wCons (wVar 2) wNil)) (wgName 3))
    (wRet (wLst (wCons (wVar 3) (wCons (wLst (wCons (wXo fo "fact" (wVar 3)) wNil)) wNil))))) wNext)
    (wSeq (wAsg (wLst (wCons (wNew0 C_NoQuestion) (wCons (wNew0 C_NotPlain) (wCons (wNew0 C_NoPlan) (wCons (wNew0 C_InvalidText) (wCons (wNew0 C_InvalidCommand) (wCons (wNew0 C_NothingAsked) (wCons (wNew0 C_NoRun) wNil)))))))) (wgName 4))
    (wRet (wLst (wCons (wBin wIx (wVar 4) (wBin wSub (wVar 0) (wC (.int 12)))) (wCons (wLst wNil) wNil)))))))))))))
def w_law_by_name (C_BadRow : Addr) (C_BadTable : Addr) (C_Failed : Addr) (C_KeyTaken : Addr) (C_NameTaken : Addr) (C_NoColumn : Addr) (C_NoCourse : Addr) (C_NoGoal : Addr) (C_NoRow : Addr) (C_NoTable : Addr) (C_Outdated : Addr) (C_TooGreat : Addr) (fo : FoM) : WS :=
  (wSeq (wAsg (wNewK C_Failed ["word", "place", "numbers"] [1, 2, 0] 3 (wCons (wBin wIx (wVar 0) (wC (.int 2))) (wCons (wBin wIx (wVar 0) (wC (.int 0))) (wCons (wBin wIx (wVar 0) (wC (.int 1))) wNil)))) (wgName 1))
    (wSeq (wAsg (wLst (wCons (wXo fo "word" (wVar 1)) (wCons (wXo fo "place" (wVar 1)) (wCons (wXo fo "numbers" (wVar 1)) (wCons (wXo fo "name" (wNewK C_NameTaken ["name"] [0] 1 (wCons (wBin wIx (wVar 0) (wC (.int 0))) wNil))) (wCons (wXo fo "part" (wNewK C_BadTable ["part"] [0] 1 (wCons (wBin wIx (wVar 0) (wC (.int 0))) wNil))) wNil)))))) (wgName 2))
    (wSeq (wAsg (wBin wAdd (wVar 2) (wLst (wCons (wXo fo "name" (wNewK C_NoTable ["name"] [0] 1 (wCons (wBin wIx (wVar 0) (wC (.int 0))) wNil))) (wCons (wXo fo "name" (wNewK C_NoColumn ["name"] [0] 1 (wCons (wBin wIx (wVar 0) (wC (.int 0))) wNil))) (wCons (wXo fo "column" (wNewK C_BadRow ["column"] [0] 1 (wCons (wBin wIx (wVar 0) (wC (.int 0))) wNil))) wNil))))) (wgName 2))
    (wSeq (wAsg (wBin wAdd (wVar 2) (wLst (wCons (wXo fo "column" (wNewK C_KeyTaken ["column"] [0] 1 (wCons (wBin wIx (wVar 0) (wC (.int 0))) wNil))) (wCons (wXo fo "number" (wNewK C_NoRow ["number"] [0] 1 (wCons (wBin wIx (wVar 0) (wC (.int 0))) wNil))) (wCons (wXo fo "limit" (wNewK C_TooGreat ["limit"] [0] 1 (wCons (wBin wIx (wVar 0) (wC (.int 0))) wNil))) wNil))))) (wgName 2))
    (wSeq (wAsg (wBin wAdd (wVar 2) (wLst (wCons (wXo fo "fact" (wNewK C_Outdated ["fact"] [0] 1 (wCons (wBin wIx (wVar 0) (wC (.int 0))) wNil))) (wCons (wXo fo "number" (wNewK C_NoGoal ["number"] [0] 1 (wCons (wBin wIx (wVar 0) (wC (.int 0))) wNil))) wNil)))) (wgName 2))
    (wRet (wBin wAdd (wVar 2) (wLst (wCons (wXo fo "number" (wNewK C_NoCourse ["number"] [0] 1 (wCons (wBin wIx (wVar 0) (wC (.int 0))) wNil))) wNil)))))))))
def w_law_first_raised (C_BadRow : Addr) (C_BadTable : Addr) (C_Failed : Addr) (C_KeyTaken : Addr) (C_NameTaken : Addr) (C_NoColumn : Addr) (C_NoCourse : Addr) (C_NoGoal : Addr) (C_NoRow : Addr) (C_NoTable : Addr) (C_Outdated : Addr) (C_TooGreat : Addr) (xr : XR) : WS :=
  (wSeq (wIfS (wTest (wBin wEqL (wVar 0) (wC (.int 0)))) (wRaise xr (wMkE C_Failed ["word", "place", "numbers"] (wCons (wBin wIx (wVar 1) (wC (.int 0))) (wCons (wBin wIx (wVar 1) (wC (.int 1))) (wCons (wBin wIx (wVar 1) (wC (.int 2))) wNil))))) wNext)
    (wSeq (wIfS (wTest (wBin wEqL (wVar 0) (wC (.int 1)))) (wRaise xr (wMkE C_NameTaken ["name"] (wCons (wBin wIx (wVar 1) (wC (.int 0))) wNil))) wNext)
    (wSeq (wIfS (wTest (wBin wEqL (wVar 0) (wC (.int 2)))) (wRaise xr (wMkE C_BadTable ["part"] (wCons (wBin wIx (wVar 1) (wC (.int 0))) wNil))) wNext)
    (wSeq (wIfS (wTest (wBin wEqL (wVar 0) (wC (.int 3)))) (wRaise xr (wMkE C_NoTable ["name"] (wCons (wBin wIx (wVar 1) (wC (.int 0))) wNil))) wNext)
    (wSeq (wIfS (wTest (wBin wEqL (wVar 0) (wC (.int 4)))) (wRaise xr (wMkE C_NoColumn ["name"] (wCons (wBin wIx (wVar 1) (wC (.int 0))) wNil))) wNext)
    (wSeq (wIfS (wTest (wBin wEqL (wVar 0) (wC (.int 5)))) (wRaise xr (wMkE C_BadRow ["column"] (wCons (wBin wIx (wVar 1) (wC (.int 0))) wNil))) wNext)
    (wSeq (wIfS (wTest (wBin wEqL (wVar 0) (wC (.int 6)))) (wRaise xr (wMkE C_KeyTaken ["column"] (wCons (wBin wIx (wVar 1) (wC (.int 0))) wNil))) wNext)
    (wSeq (wIfS (wTest (wBin wEqL (wVar 0) (wC (.int 7)))) (wRaise xr (wMkE C_NoRow ["number"] (wCons (wBin wIx (wVar 1) (wC (.int 0))) wNil))) wNext)
    (wSeq (wIfS (wTest (wBin wEqL (wVar 0) (wC (.int 8)))) (wRaise xr (wMkE C_TooGreat ["limit"] (wCons (wBin wIx (wVar 1) (wC (.int 0))) wNil))) wNext)
    (wSeq (wIfS (wTest (wBin wEqL (wVar 0) (wC (.int 9)))) (wRaise xr (wMkE C_Outdated ["fact"] (wCons (wBin wIx (wVar 1) (wC (.int 0))) wNil))) wNext)
    (wSeq (wIfS (wTest (wBin wEqL (wVar 0) (wC (.int 10)))) (wRaise xr (wMkE C_NoGoal ["number"] (wCons (wBin wIx (wVar 1) (wC (.int 0))) wNil))) wNext)
    (wIfS (wTest (wBin wEqL (wVar 0) (wC (.int 11)))) (wRaise xr (wMkE C_NoCourse ["number"] (wCons (wBin wIx (wVar 1) (wC (.int 0))) wNil))) wNext))))))))))))
def w_law_raised (C_InvalidCommand : Addr) (C_InvalidText : Addr) (C_NoPlan : Addr) (C_NoQuestion : Addr) (C_NoRun : Addr) (C_NotPlain : Addr) (C_NothingAsked : Addr) (f_law_first_raised : WFX) (xr : XR) : WS :=
  (wSeq (wDrop (wFnX xr 2 0 2 f_law_first_raised (fun ds es => perm [0, 1] (ds ++ es)) (wCons (wVar 0) (wCons (wVar 1) wNil)) wNil))
    (wSeq (wIfS (wTest (wBin wEqL (wVar 0) (wC (.int 12)))) (wRaise xr (wMk0 C_NoQuestion)) wNext)
    (wSeq (wIfS (wTest (wBin wEqL (wVar 0) (wC (.int 13)))) (wRaise xr (wMk0 C_NotPlain)) wNext)
    (wSeq (wIfS (wTest (wBin wEqL (wVar 0) (wC (.int 14)))) (wRaise xr (wMk0 C_NoPlan)) wNext)
    (wSeq (wIfS (wTest (wBin wEqL (wVar 0) (wC (.int 15)))) (wRaise xr (wMk0 C_InvalidText)) wNext)
    (wSeq (wIfS (wTest (wBin wEqL (wVar 0) (wC (.int 16)))) (wRaise xr (wMk0 C_InvalidCommand)) wNext)
    (wSeq (wIfS (wTest (wBin wEqL (wVar 0) (wC (.int 17)))) (wRaise xr (wMk0 C_NothingAsked)) wNext)
    (wRaise xr (wMk0 C_NoRun)))))))))
def w_law_caught (C_FailsError : Addr) (mt : Mt) (kt : KtM) (fH_law_own_kinds : Addr → Addr → WF) (fH_law_other_kinds : Addr → Addr → WF) (f_law_raised : WFX) : WS :=
  (wSeq (wAsg (wLst wNil) (wgName 2))
    (wSeq (wTryG mt (fun xr => (wDrop (wFnX xr 2 0 2 f_law_raised (fun ds es => perm [0, 1] (ds ++ es)) (wCons (wVar 0) (wCons (wVar 1) wNil)) wNil))) [⟨C_FailsError, some 3, fun a C fs => (wAsg (wLst (wCons (wCall 1 (fH_law_own_kinds a C) (wCons (wVar 3) wNil)) (wCons (wCall 1 (fH_law_other_kinds a C) (wCons (wVar 3) wNil)) (wCons (wIsP kt a C (.type "Exception") (wVar 3)) wNil)))) (wgName 2))⟩] xrNo)
    (wRet (wVar 2))))
def w_law_right (C_FailsError : Addr) (kt : KtM) (f_law_made : WF) (f_law_own_kinds : WF) (f_law_other_kinds : WF) (f_law_caught : WF) : WS :=
  (wSeq (wAsg (wB wRepr (wCons (wVar 1) wNil)) (wgName 2))
    (wSeq (wAsg (wCall 2 f_law_made (wCons (wVar 0) (wCons (wVar 1) wNil))) (wgLst 2 (wgCons (wgName 3) (wgCons (wgName 4) wgNil))))
    (wSeq (wAsg (wIf (wTest (wBin wGt (wVar 0) (wC (.int 11)))) (wLst wNil) (wSl (wVar 1) wNoPart (wPart (wBin wIx (wLst (wCons (wC (.int 1)) (wCons (wC (.int 3)) wNil))) (wB wInt1 (wCons (wBin wEqL (wVar 0) (wC (.int 0))) wNil)))))) (wgName 5))
    (wSeq (wIfS (wOrT (wTest (wBin wNeL (wB wRepr (wCons (wVar 4) wNil)) (wB wRepr (wCons (wVar 5) wNil)))) (wTest (wBin wNeL (wB wRepr (wCons (wVar 1) wNil)) (wVar 2)))) (wRet (wC (.bool false))) wNext)
    (wSeq (wAsg (wLst (wCons (wLc (sRng1 (wC (.int 19))) (wgName 7) wYes (wBin wEqL (wVar 7) (wVar 0)) [7]) (wCons (wBin wMul (wLst (wCons (wC (.bool false)) wNil)) (wC (.int 7))) (wCons (wC (.bool true)) wNil)))) (wgName 6))
    (wSeq (wAsg (wLst (wCons (wCall 1 f_law_own_kinds (wCons (wVar 3) wNil)) (wCons (wCall 1 f_law_other_kinds (wCons (wVar 3) wNil)) (wCons (wIsO kt (.ref C_FailsError) (wVar 3)) wNil)))) (wgName 8))
    (wRet (wAndV (wBin wEqL (wVar 8) (wVar 6)) (wBin wEqL (wCall 2 f_law_caught (wCons (wVar 0) (wCons (wVar 1) wNil))) (wVar 6))))))))))
def w_law_main (f_law_deck : WF) (f_law_thing : WF) (f_law_right : WF) (f_law_by_name : WF) : WS :=
  (wSeq (wAsg (wCall 1 f_law_deck (wCons (wVar 0) wNil)) (wgName 1))
    (wSeq (wFor (sRng1 (wC (.int 3))) (wgName 2) (wSeq (wFor (sRng1 (wC (.int 19))) (wgName 3) (wIfS (wNotT (wTest (wCall 2 f_law_right (wCons (wVar 3) (wCons (wLc (sRng1 (wC (.int 3))) (wgName 5) wYes (wCall 2 f_law_thing (wCons (wVar 1) (wCons (wC (.int 3)) wNil))) [5]) wNil))))) (wRet (wC (.bool false))) wNext))
    (wSeq (wAsg (wLc (sRng1 (wC (.int 3))) (wgName 5) wYes (wCall 2 f_law_thing (wCons (wVar 1) (wCons (wC (.int 3)) wNil))) [5]) (wgName 4))
    (wIfS (wTest (wBin wNeL (wB wRepr (wCons (wCall 1 f_law_by_name (wCons (wVar 4) wNil)) wNil)) (wB wRepr (wCons (wBin wAdd (wVar 4) (wBin wMul (wLst (wCons (wBin wIx (wVar 4) (wC (.int 0))) wNil)) (wC (.int 11)))) wNil)))) (wRet (wC (.bool false))) wNext))))
    (wRet (wC (.bool true)))))
end K01
set_option Elab.async false
set_option linter.all false
set_option maxRecDepth 100000
set_option maxHeartbeats 400000
namespace K01
open PySem L2 Dz
variable [γ : Gd]
def top (i : Nat) : Stmt := PySem.Challenge.pw_failsalike_k01_errors.main.body.getD i (.Pass ⟨0, 0, 0, 0⟩)
abbrev s_Failed_init : Stmt := inClass (top 2) 0
abbrev s_NameTaken_init : Stmt := inClass (top 3) 0
abbrev s_BadTable_init : Stmt := inClass (top 4) 0
abbrev s_NoTable_init : Stmt := inClass (top 5) 0
abbrev s_NoColumn_init : Stmt := inClass (top 6) 0
abbrev s_BadRow_init : Stmt := inClass (top 7) 0
abbrev s_KeyTaken_init : Stmt := inClass (top 8) 0
abbrev s_NoRow_init : Stmt := inClass (top 9) 0
abbrev s_TooGreat_init : Stmt := inClass (top 12) 0
abbrev s_Outdated_init : Stmt := inClass (top 14) 0
abbrev s_NoGoal_init : Stmt := inClass (top 15) 0
abbrev s_NoCourse_init : Stmt := inClass (top 16) 0
abbrev s_law_deck : Stmt := top 22
abbrev s_law_draw : Stmt := top 23
abbrev s_law_pick : Stmt := top 24
abbrev s_law_thing : Stmt := top 25
abbrev s_law_own_kinds : Stmt := top 26
abbrev s_law_other_kinds : Stmt := top 27
abbrev s_law_made : Stmt := top 28
abbrev s_law_by_name : Stmt := top 29
abbrev s_law_first_raised : Stmt := top 30
abbrev s_law_raised : Stmt := top 31
abbrev s_law_caught : Stmt := top 32
abbrev s_law_right : Stmt := top 33
abbrev s_law_main : Stmt := top 34
abbrev N_Failed_init : List Str := ["self", "word", "place", "numbers"]
theorem sc_Failed_init : FnScope N_Failed_init ["self", "word", "place", "numbers"] (defScope s_Failed_init) := ⟨rfl, rfl, rfl, by decide +kernel, rfl, by decide +kernel, by decide +kernel⟩
abbrev N_NameTaken_init : List Str := ["self", "name"]
theorem sc_NameTaken_init : FnScope N_NameTaken_init ["self", "name"] (defScope s_NameTaken_init) := ⟨rfl, rfl, rfl, by decide +kernel, rfl, by decide +kernel, by decide +kernel⟩
abbrev N_BadTable_init : List Str := ["self", "part"]
theorem sc_BadTable_init : FnScope N_BadTable_init ["self", "part"] (defScope s_BadTable_init) := ⟨rfl, rfl, rfl, by decide +kernel, rfl, by decide +kernel, by decide +kernel⟩
abbrev N_NoTable_init : List Str := ["self", "name"]
theorem sc_NoTable_init : FnScope N_NoTable_init ["self", "name"] (defScope s_NoTable_init) := ⟨rfl, rfl, rfl, by decide +kernel, rfl, by decide +kernel, by decide +kernel⟩
abbrev N_NoColumn_init : List Str := ["self", "name"]
theorem sc_NoColumn_init : FnScope N_NoColumn_init ["self", "name"] (defScope s_NoColumn_init) := ⟨rfl, rfl, rfl, by decide +kernel, rfl, by decide +kernel, by decide +kernel⟩
abbrev N_BadRow_init : List Str := ["self", "column"]
theorem sc_BadRow_init : FnScope N_BadRow_init ["self", "column"] (defScope s_BadRow_init) := ⟨rfl, rfl, rfl, by decide +kernel, rfl, by decide +kernel, by decide +kernel⟩
abbrev N_KeyTaken_init : List Str := ["self", "column"]
theorem sc_KeyTaken_init : FnScope N_KeyTaken_init ["self", "column"] (defScope s_KeyTaken_init) := ⟨rfl, rfl, rfl, by decide +kernel, rfl, by decide +kernel, by decide +kernel⟩
abbrev N_NoRow_init : List Str := ["self", "number"]
theorem sc_NoRow_init : FnScope N_NoRow_init ["self", "number"] (defScope s_NoRow_init) := ⟨rfl, rfl, rfl, by decide +kernel, rfl, by decide +kernel, by decide +kernel⟩
abbrev N_TooGreat_init : List Str := ["self", "limit"]
theorem sc_TooGreat_init : FnScope N_TooGreat_init ["self", "limit"] (defScope s_TooGreat_init) := ⟨rfl, rfl, rfl, by decide +kernel, rfl, by decide +kernel, by decide +kernel⟩
abbrev N_Outdated_init : List Str := ["self", "fact"]
theorem sc_Outdated_init : FnScope N_Outdated_init ["self", "fact"] (defScope s_Outdated_init) := ⟨rfl, rfl, rfl, by decide +kernel, rfl, by decide +kernel, by decide +kernel⟩
abbrev N_NoGoal_init : List Str := ["self", "number"]
theorem sc_NoGoal_init : FnScope N_NoGoal_init ["self", "number"] (defScope s_NoGoal_init) := ⟨rfl, rfl, rfl, by decide +kernel, rfl, by decide +kernel, by decide +kernel⟩
abbrev N_NoCourse_init : List Str := ["self", "number"]
theorem sc_NoCourse_init : FnScope N_NoCourse_init ["self", "number"] (defScope s_NoCourse_init) := ⟨rfl, rfl, rfl, by decide +kernel, rfl, by decide +kernel, by decide +kernel⟩
abbrev N_law_deck : List Str := ["_law_script", "_law_cells", "_law_total", "_law_cell"]
theorem sc_law_deck : FnScope N_law_deck ["_law_script"] (defScope s_law_deck) := ⟨rfl, rfl, rfl, by decide +kernel, rfl, by decide +kernel, by decide +kernel⟩
abbrev N_law_draw : List Str := ["_law_deck_here", "_law_many", "_law_turn", "_law_cell", "_law_mixed"]
theorem sc_law_draw : FnScope N_law_draw ["_law_deck_here", "_law_many"] (defScope s_law_draw) := ⟨rfl, rfl, rfl, by decide +kernel, rfl, by decide +kernel, by decide +kernel⟩
abbrev N_law_pick : List Str := ["_law_deck_here", "_law_some"]
theorem sc_law_pick : FnScope N_law_pick ["_law_deck_here", "_law_some"] (defScope s_law_pick) := ⟨rfl, rfl, rfl, by decide +kernel, rfl, by decide +kernel, by decide +kernel⟩
abbrev N_law_thing : List Str := ["_law_deck_here", "_law_deep", "_law_way", "_law_k", "_law_some"]
theorem sc_law_thing : FnScope N_law_thing ["_law_deck_here", "_law_deep"] (defScope s_law_thing) := ⟨rfl, rfl, rfl, by decide +kernel, rfl, by decide +kernel, by decide +kernel⟩
abbrev N_law_own_kinds : List Str := ["_law_e", "_law_some"]
theorem sc_law_own_kinds : FnScope N_law_own_kinds ["_law_e"] (defScope s_law_own_kinds) := ⟨rfl, rfl, rfl, by decide +kernel, rfl, by decide +kernel, by decide +kernel⟩
abbrev N_law_other_kinds : List Str := ["_law_e", "_law_some"]
theorem sc_law_other_kinds : FnScope N_law_other_kinds ["_law_e"] (defScope s_law_other_kinds) := ⟨rfl, rfl, rfl, by decide +kernel, rfl, by decide +kernel, by decide +kernel⟩
abbrev N_law_made : List Str := ["_law_which", "_law_things", "_law_one", "_law_e", "_law_some"]
theorem sc_law_made : FnScope N_law_made ["_law_which", "_law_things"] (defScope s_law_made) := ⟨rfl, rfl, rfl, by decide +kernel, rfl, by decide +kernel, by decide +kernel⟩
abbrev N_law_by_name : List Str := ["_law_things", "_law_first", "_law_found"]
theorem sc_law_by_name : FnScope N_law_by_name ["_law_things"] (defScope s_law_by_name) := ⟨rfl, rfl, rfl, by decide +kernel, rfl, by decide +kernel, by decide +kernel⟩
abbrev N_law_first_raised : List Str := ["_law_which", "_law_things"]
theorem sc_law_first_raised : FnScope N_law_first_raised ["_law_which", "_law_things"] (defScope s_law_first_raised) := ⟨rfl, rfl, rfl, by decide +kernel, rfl, by decide +kernel, by decide +kernel⟩
abbrev N_law_raised : List Str := ["_law_which", "_law_things"]
theorem sc_law_raised : FnScope N_law_raised ["_law_which", "_law_things"] (defScope s_law_raised) := ⟨rfl, rfl, rfl, by decide +kernel, rfl, by decide +kernel, by decide +kernel⟩
abbrev N_law_caught : List Str := ["_law_which", "_law_things", "_law_kinds", "_law_e"]
theorem sc_law_caught : FnScope N_law_caught ["_law_which", "_law_things"] (defScope s_law_caught) := ⟨rfl, rfl, rfl, by decide +kernel, rfl, by decide +kernel, by decide +kernel⟩
abbrev N_law_right : List Str := ["_law_which", "_law_things", "_law_kept", "_law_e", "_law_held_by", "_law_due", "_law_kinds", "_law_k", "_law_told"]
theorem sc_law_right : FnScope N_law_right ["_law_which", "_law_things"] (defScope s_law_right) := ⟨rfl, rfl, rfl, by decide +kernel, rfl, by decide +kernel, by decide +kernel⟩
abbrev N_law_main : List Str := ["_law_script", "_law_deck_here", "_law_turn", "_law_which", "_law_things", "_law_k"]
theorem sc_law_main : FnScope N_law_main ["_law_script"] (defScope s_law_main) := ⟨rfl, rfl, rfl, by decide +kernel, rfl, by decide +kernel, by decide +kernel⟩
structure Tops (K : PySem.W.Frag) (mg : Str → Option Value) (base : Heap) (C_BadRow : Addr) (C_BadTable : Addr) (C_Failed : Addr) (C_FailsError : Addr) (C_InvalidCommand : Addr) (C_InvalidText : Addr) (C_KeyTaken : Addr) (C_NameTaken : Addr) (C_NoColumn : Addr) (C_NoCourse : Addr) (C_NoGoal : Addr) (C_NoPlan : Addr) (C_NoQuestion : Addr) (C_NoRow : Addr) (C_NoRun : Addr) (C_NoTable : Addr) (C_NotPlain : Addr) (C_NothingAsked : Addr) (C_Outdated : Addr) (C_TooGreat : Addr) : Prop where
  mg_BadRow : mg "BadRow" = some (.ref C_BadRow)
  ex_BadRow : AtE K C_BadRow "column" "BadRow.__init__" s_BadRow_init
  mt_BadRow_FailsError : mtOf K C_BadRow C_FailsError = some true
  mg_BadTable : mg "BadTable" = some (.ref C_BadTable)
  ex_BadTable : AtE K C_BadTable "part" "BadTable.__init__" s_BadTable_init
  mt_BadTable_FailsError : mtOf K C_BadTable C_FailsError = some true
  mg_Failed : mg "Failed" = some (.ref C_Failed)
  ex_Failed : AtE3 K C_Failed "word" "place" "numbers" "Failed.__init__" s_Failed_init
  mt_Failed_FailsError : mtOf K C_Failed C_FailsError = some true
  mg_FailsError : mg "FailsError" = some (.ref C_FailsError)
  mg_InvalidCommand : mg "InvalidCommand" = some (.ref C_InvalidCommand)
  en_InvalidCommand : AtEN K mg "InvalidCommand" C_InvalidCommand
  mt_InvalidCommand_FailsError : mtOf K C_InvalidCommand C_FailsError = some true
  mg_InvalidText : mg "InvalidText" = some (.ref C_InvalidText)
  en_InvalidText : AtEN K mg "InvalidText" C_InvalidText
  mt_InvalidText_FailsError : mtOf K C_InvalidText C_FailsError = some true
  mg_KeyTaken : mg "KeyTaken" = some (.ref C_KeyTaken)
  ex_KeyTaken : AtE K C_KeyTaken "column" "KeyTaken.__init__" s_KeyTaken_init
  mt_KeyTaken_FailsError : mtOf K C_KeyTaken C_FailsError = some true
  mg_NameTaken : mg "NameTaken" = some (.ref C_NameTaken)
  ex_NameTaken : AtE K C_NameTaken "name" "NameTaken.__init__" s_NameTaken_init
  mt_NameTaken_FailsError : mtOf K C_NameTaken C_FailsError = some true
  mg_NoColumn : mg "NoColumn" = some (.ref C_NoColumn)
  ex_NoColumn : AtE K C_NoColumn "name" "NoColumn.__init__" s_NoColumn_init
  mt_NoColumn_FailsError : mtOf K C_NoColumn C_FailsError = some true
  mg_NoCourse : mg "NoCourse" = some (.ref C_NoCourse)
  ex_NoCourse : AtE K C_NoCourse "number" "NoCourse.__init__" s_NoCourse_init
  mt_NoCourse_FailsError : mtOf K C_NoCourse C_FailsError = some true
  mg_NoGoal : mg "NoGoal" = some (.ref C_NoGoal)
  ex_NoGoal : AtE K C_NoGoal "number" "NoGoal.__init__" s_NoGoal_init
  mt_NoGoal_FailsError : mtOf K C_NoGoal C_FailsError = some true
  mg_NoPlan : mg "NoPlan" = some (.ref C_NoPlan)
  en_NoPlan : AtEN K mg "NoPlan" C_NoPlan
  mt_NoPlan_FailsError : mtOf K C_NoPlan C_FailsError = some true
  mg_NoQuestion : mg "NoQuestion" = some (.ref C_NoQuestion)
  en_NoQuestion : AtEN K mg "NoQuestion" C_NoQuestion
  mt_NoQuestion_FailsError : mtOf K C_NoQuestion C_FailsError = some true
  mg_NoRow : mg "NoRow" = some (.ref C_NoRow)
  ex_NoRow : AtE K C_NoRow "number" "NoRow.__init__" s_NoRow_init
  mt_NoRow_FailsError : mtOf K C_NoRow C_FailsError = some true
  mg_NoRun : mg "NoRun" = some (.ref C_NoRun)
  en_NoRun : AtEN K mg "NoRun" C_NoRun
  mt_NoRun_FailsError : mtOf K C_NoRun C_FailsError = some true
  mg_NoTable : mg "NoTable" = some (.ref C_NoTable)
  ex_NoTable : AtE K C_NoTable "name" "NoTable.__init__" s_NoTable_init
  mt_NoTable_FailsError : mtOf K C_NoTable C_FailsError = some true
  mg_NotPlain : mg "NotPlain" = some (.ref C_NotPlain)
  en_NotPlain : AtEN K mg "NotPlain" C_NotPlain
  mt_NotPlain_FailsError : mtOf K C_NotPlain C_FailsError = some true
  mg_NothingAsked : mg "NothingAsked" = some (.ref C_NothingAsked)
  en_NothingAsked : AtEN K mg "NothingAsked" C_NothingAsked
  mt_NothingAsked_FailsError : mtOf K C_NothingAsked C_FailsError = some true
  mg_Outdated : mg "Outdated" = some (.ref C_Outdated)
  ex_Outdated : AtE K C_Outdated "fact" "Outdated.__init__" s_Outdated_init
  mt_Outdated_FailsError : mtOf K C_Outdated C_FailsError = some true
  mg_TooGreat : mg "TooGreat" = some (.ref C_TooGreat)
  ex_TooGreat : AtE K C_TooGreat "limit" "TooGreat.__init__" s_TooGreat_init
  mt_TooGreat_FailsError : mtOf K C_TooGreat C_FailsError = some true
  xc : [C_Failed, C_NameTaken, C_BadTable, C_NoTable, C_NoColumn, C_BadRow, C_KeyTaken, C_NoRow, C_NoQuestion, C_NotPlain, C_TooGreat, C_NoPlan, C_Outdated, C_NoGoal, C_NoCourse, C_InvalidText, C_InvalidCommand, C_NothingAsked, C_NoRun].all (xcB K) = true
  ki : kiB K [C_Failed, C_NameTaken, C_BadTable, C_NoTable, C_NoColumn, C_BadRow, C_KeyTaken, C_NoRow, C_NoQuestion, C_NotPlain, C_TooGreat, C_NoPlan, C_Outdated, C_NoGoal, C_NoCourse, C_InvalidText, C_InvalidCommand, C_NothingAsked, C_NoRun] C_FailsError [("ArithmeticError", false), ("AttributeError", false), ("Exception", true), ("LookupError", false), ("NotImplementedError", false), ("RuntimeError", false), ("TypeError", false), ("ValueError", false)] = true
  fo : ([(C_Failed, "word"), (C_Failed, "place"), (C_Failed, "numbers"), (C_NameTaken, "name"), (C_BadTable, "part"), (C_NoTable, "name"), (C_NoColumn, "name"), (C_BadRow, "column"), (C_KeyTaken, "column"), (C_NoRow, "number"), (C_TooGreat, "limit"), (C_Outdated, "fact"), (C_NoGoal, "number"), (C_NoCourse, "number")] : List (Addr × Str)).all (fun z => foB K z.1 z.2) = true
  bi_FailsError : BaseI K C_FailsError
  a_law_deck : At1 K mg "_law_deck" s_law_deck
  a_law_draw : At1 K mg "_law_draw" s_law_draw
  a_law_pick : At1 K mg "_law_pick" s_law_pick
  a_law_thing : At1 K mg "_law_thing" s_law_thing
  a_law_own_kinds : At1 K mg "_law_own_kinds" s_law_own_kinds
  a_law_other_kinds : At1 K mg "_law_other_kinds" s_law_other_kinds
  a_law_made : At1 K mg "_law_made" s_law_made
  a_law_by_name : At1 K mg "_law_by_name" s_law_by_name
  a_law_first_raised : At1 K mg "_law_first_raised" s_law_first_raised
  a_law_raised : At1 K mg "_law_raised" s_law_raised
  a_law_caught : At1 K mg "_law_caught" s_law_caught
  a_law_right : At1 K mg "_law_right" s_law_right
  a_law_main : At1 K mg "law" s_law_main
  b_ArithmeticError : mg "ArithmeticError" = none
  b_AttributeError : mg "AttributeError" = none
  b_Exception : mg "Exception" = none
  b_LookupError : mg "LookupError" = none
  b_NotImplementedError : mg "NotImplementedError" = none
  b_RuntimeError : mg "RuntimeError" = none
  b_TypeError : mg "TypeError" = none
  b_ValueError : mg "ValueError" = none
  b_int : mg "int" = none
  b_isinstance : mg "isinstance" = none
  b_len : mg "len" = none
  b_list : mg "list" = none
  b_range : mg "range" = none
  b_repr : mg "repr" = none
  b_tuple : mg "tuple" = none
  sm : ∃ o, base.get? sysModules = some o
section
variable {P : Program} {w0 : World} {K : PySem.W.Frag} {mg : Str → Option Value} {base : Heap} {C_BadRow : Addr} {C_BadTable : Addr} {C_Failed : Addr} {C_FailsError : Addr} {C_InvalidCommand : Addr} {C_InvalidText : Addr} {C_KeyTaken : Addr} {C_NameTaken : Addr} {C_NoColumn : Addr} {C_NoCourse : Addr} {C_NoGoal : Addr} {C_NoPlan : Addr} {C_NoQuestion : Addr} {C_NoRow : Addr} {C_NoRun : Addr} {C_NoTable : Addr} {C_NotPlain : Addr} {C_NothingAsked : Addr} {C_Outdated : Addr} {C_TooGreat : Addr}
theorem hb_law_first_raised_0 : HowB K "_law_first_raised" "_law_first_raised" s_law_first_raised [] [] ["_law_which", "_law_things"] 2 [] (fun vs zs => perm [0, 1] (vs ++ zs)) :=
  howB_ks [0, 1] fun kV doc pm an cdv ct us ws h1 h2 => match us, ws, h1, h2 with | [_, _], [], _, _ => rfl
theorem hb_law_raised_0 : HowB K "_law_raised" "_law_raised" s_law_raised [] [] ["_law_which", "_law_things"] 2 [] (fun vs zs => perm [0, 1] (vs ++ zs)) :=
  howB_ks [0, 1] fun kV doc pm an cdv ct us ws h1 h2 => match us, ws, h1, h2 with | [_, _], [], _, _ => rfl
theorem dv_law_deck (T : Tops K mg base C_BadRow C_BadTable C_Failed C_FailsError C_InvalidCommand C_InvalidText C_KeyTaken C_NameTaken C_NoColumn C_NoCourse C_NoGoal C_NoPlan C_NoQuestion C_NoRow C_NoRun C_NoTable C_NotPlain C_NothingAsked C_Outdated C_TooGreat) (f : Addr) (cdv : Value) (A : Around) (outer : List Env) (s : Shared) (H : Hp) (E : XK) (hgd : A.guards = some []) (hr : Room 0 (A.deeper (PyProof.Rows.envOfC "_law_deck" (defScope s_law_deck) s.heap.objs.size f cdv))) :
  PSs (cxOf CX0 P w0 K mg base N_law_deck "_law_deck" (defScope s_law_deck) f cdv A outer s H E).nox (defBody s_law_deck) (tDS K (w_law_deck)) :=
  (dss_cons (ds_par (i := 1) (j := 2) sc_law_deck.nd rfl rfl (by decide) rfl rfl (da_cons (d_list (by rfl) T.b_list (d_slice (d_var 0) do_none (do_some d_int))) (da_cons d_int da_nil)) (by rfl))
    (dss_cons (ds_for (di_list (d_var 1)) (dg_name (i := 3) sc_law_deck.nd rfl (Or.inl rfl)) (dss_one (ds_set (i := 2) sc_law_deck.nd rfl (Or.inl rfl) (d_mod (d_add (d_add (d_mul (d_var 2) d_int) (d_mod (d_var 3) d_int)) d_int) d_int))))
    (dss_one (ds_ret (d_dctM _ (pps_cons pe_str (d_revM (d_var 1)) (pps_cons pe_str (d_var 2) (pps_cons pe_str d_int pps_nil))))))))
theorem dv_law_draw (T : Tops K mg base C_BadRow C_BadTable C_Failed C_FailsError C_InvalidCommand C_InvalidText C_KeyTaken C_NameTaken C_NoColumn C_NoCourse C_NoGoal C_NoPlan C_NoQuestion C_NoRow C_NoRun C_NoTable C_NotPlain C_NothingAsked C_Outdated C_TooGreat) (f : Addr) (cdv : Value) (A : Around) (outer : List Env) (s : Shared) (H : Hp) (E : XK) (hgd : A.guards = some []) (hr : Room 0 (A.deeper (PyProof.Rows.envOfC "_law_draw" (defScope s_law_draw) s.heap.objs.size f cdv))) :
  PSs (cxOf CX0 P w0 K mg base N_law_draw "_law_draw" (defScope s_law_draw) f cdv A outer s H E).nox (defBody s_law_draw) (tDS K (w_law_draw)) :=
  (dss_cons (ds_par (i := 2) (j := 3) sc_law_draw.nd rfl rfl (by decide) rfl rfl (da_cons (d_add (d_dget hr (d_var 0) d_str) d_int) (da_cons (d_dget hr (d_var 0) d_str) da_nil)) (by rfl))
    (dss_cons (ds_dput hr (d_var 0) d_str (d_var 2))
    (dss_cons (ds_if (t_ne hr (d_dget hr (d_var 0) d_str) (d_lst da_nil)) (dss_cons (ds_set (i := 3) sc_law_draw.nd rfl (Or.inl rfl) (d_pop (d_dget hr (d_var 0) d_str)))
    (dss_cons (ds_if (t_ge (d_var 3) (d_pow d_int d_int)) (dss_cons (ds_expr (d_append (d_dget hr (d_var 0) d_str) (d_div (d_var 3) (d_var 1))))
    (dss_one (ds_ret (d_mod (d_var 3) (d_var 1))))) dss_nil)
    (dss_one (ds_set (i := 3) sc_law_draw.nd rfl (Or.inl rfl) (d_add (d_var 3) (d_dget hr (d_var 0) d_str)))))) dss_nil)
    (dss_cons (ds_set (i := 4) sc_law_draw.nd rfl (Or.inl rfl) (d_mod (d_mul (d_add (d_add (d_mod (d_var 3) d_int) (d_mul (d_mul d_int (d_var 2)) (d_var 2))) d_int) d_int) d_int))
    (dss_cons (ds_set (i := 4) sc_law_draw.nd rfl (Or.inl rfl) (d_mod (d_add (d_add (d_mul (d_var 4) (d_var 4)) (d_mul d_int (d_var 2))) d_int) d_int))
    (dss_one (ds_ret (d_mod (d_div (d_mod (d_mul (d_var 4) d_int) d_int) d_int) (d_var 1)))))))))
theorem dv_law_pick (T : Tops K mg base C_BadRow C_BadTable C_Failed C_FailsError C_InvalidCommand C_InvalidText C_KeyTaken C_NameTaken C_NoColumn C_NoCourse C_NoGoal C_NoPlan C_NoQuestion C_NoRow C_NoRun C_NoTable C_NotPlain C_NothingAsked C_Outdated C_TooGreat) {f_law_draw : WF} (D_law_draw : Def P w0 K mg base 1 "_law_draw" s_law_draw ["_law_deck_here", "_law_many"] f_law_draw) (f : Addr) (cdv : Value) (A : Around) (outer : List Env) (s : Shared) (H : Hp) (E : XK) (hgd : A.guards = some []) (hr : Room 1 (A.deeper (PyProof.Rows.envOfC "_law_pick" (defScope s_law_pick) s.heap.objs.size f cdv))) :
  PSs (cxOf CX0 P w0 K mg base N_law_pick "_law_pick" (defScope s_law_pick) f cdv A outer s H E).nox (defBody s_law_pick) (tDS K (w_law_pick f_law_draw)) :=
  (dss_one (ds_ret (d_ix (d_var 1) (d_f D_law_draw hgd hr (by decide) (by rfl) (fun _ _ _ _ _ _ us hl => match us, hl with | [_, _], _ => rfl) (da_cons (d_var 0) (da_cons (d_len (by rfl) T.b_len (d_var 1)) da_nil))))))
theorem dv_law_thing (T : Tops K mg base C_BadRow C_BadTable C_Failed C_FailsError C_InvalidCommand C_InvalidText C_KeyTaken C_NameTaken C_NoColumn C_NoCourse C_NoGoal C_NoPlan C_NoQuestion C_NoRow C_NoRun C_NoTable C_NotPlain C_NothingAsked C_Outdated C_TooGreat) {kk lv : Nat} (hlv : 2 ≤ lv) (hkk : kk ≤ lv) {f_law_draw : WF} (D_law_draw : Def P w0 K mg base 1 "_law_draw" s_law_draw ["_law_deck_here", "_law_many"] f_law_draw) {f_law_thing : WF} (D_law_thing : Def P w0 K mg base kk "_law_thing" s_law_thing ["_law_deck_here", "_law_deep"] f_law_thing) {f_law_pick : WF} (D_law_pick : Def P w0 K mg base 2 "_law_pick" s_law_pick ["_law_deck_here", "_law_some"] f_law_pick) (f : Addr) (cdv : Value) (A : Around) (outer : List Env) (s : Shared) (H : Hp) (E : XK) (hgd : A.guards = some []) (hr : Room lv (A.deeper (PyProof.Rows.envOfC "_law_thing" (defScope s_law_thing) s.heap.objs.size f cdv))) :
  PSs (cxOf CX0 P w0 K mg base N_law_thing "_law_thing" (defScope s_law_thing) f cdv A outer s H E).nox (defBody s_law_thing) (tDS K (w_law_thing f_law_draw f_law_thing f_law_pick)) :=
  (dss_cons (ds_set (i := 2) sc_law_thing.nd rfl (Or.inl rfl) (d_f D_law_draw hgd hr (by omega) (by rfl) (fun _ _ _ _ _ _ us hl => match us, hl with | [_, _], _ => rfl) (da_cons (d_var 0) (da_cons d_int da_nil))))
    (dss_cons (ds_if (PW.pt (dw_and (t_lt hr (d_var 2) d_int) (dw_and1 (t_gt (d_var 1) d_int)))) (dss_one (ds_ret (d_tuple (by rfl) T.b_tuple (d_lc (own := [("_law_k", 3)]) (di_range1 (by rfl) T.b_range (d_f D_law_draw hgd hr (by omega) (by rfl) (fun _ _ _ _ _ _ us hl => match us, hl with | [_, _], _ => rfl) (da_cons (d_var 0) (da_cons d_int da_nil)))) (blkOk_by (own := [("_law_k", 3)]) (N := N_law_thing) (sc := defScope s_law_thing) (by decide +kernel)) (fun _ _ _ _ _ => dg_name (i := 3) sc_law_thing.nd rfl (Or.inl rfl)) (fun _ _ _ _ _ => dts_nil) (fun _ _ _ _ _ => (d_f D_law_thing hgd hr (by omega) (by rfl) (fun _ _ _ _ _ _ us hl => match us, hl with | [_, _], _ => rfl) (da_cons (d_var 0) (da_cons (d_sub (d_var 1) d_int) da_nil)))) sc_law_thing.nd)))) dss_nil)
    (dss_cons (ds_if (PW.pt (dw_and (t_eq hr (d_var 2) d_int) (dw_and1 (t_gt (d_var 1) d_int)))) (dss_one (ds_ret (d_lc (own := [("_law_k", 3)]) (di_range1 (by rfl) T.b_range (d_f D_law_draw hgd hr (by omega) (by rfl) (fun _ _ _ _ _ _ us hl => match us, hl with | [_, _], _ => rfl) (da_cons (d_var 0) (da_cons d_int da_nil)))) (blkOk_by (own := [("_law_k", 3)]) (N := N_law_thing) (sc := defScope s_law_thing) (by decide +kernel)) (fun _ _ _ _ _ => dg_name (i := 3) sc_law_thing.nd rfl (Or.inl rfl)) (fun _ _ _ _ _ => dts_nil) (fun _ _ _ _ _ => (d_f D_law_thing hgd hr (by omega) (by rfl) (fun _ _ _ _ _ _ us hl => match us, hl with | [_, _], _ => rfl) (da_cons (d_var 0) (da_cons (d_sub (d_var 1) d_int) da_nil)))) sc_law_thing.nd))) dss_nil)
    (dss_cons (ds_if (PW.pt (dw_and (t_eq hr (d_var 2) d_int) (dw_and1 (t_gt (d_var 1) d_int)))) (dss_one (ds_ret (d_dctN _ (pps_cons pe_str (d_f D_law_thing hgd hr (by omega) (by rfl) (fun _ _ _ _ _ _ us hl => match us, hl with | [_, _], _ => rfl) (da_cons (d_var 0) (da_cons (d_sub (d_var 1) d_int) da_nil))) (pps_cons pe_int d_non pps_nil)) (hw := Nat.le_of_ble_eq_true rfl) (hn := (by decide : ([(.inr "a"), (.inl 7)] : List L2.Key).Nodup))))) dss_nil)
    (dss_cons (ds_set (i := 4) sc_law_thing.nd rfl (Or.inl rfl) (d_lst (da_cons d_non (da_cons d_bl (da_cons d_bl (da_cons d_int (da_cons (d_neg d_int) (da_cons (d_pow d_int d_int) (da_cons d_str (da_cons d_str (da_cons d_str (da_cons (d_tup (da_cons d_int (da_cons d_int da_nil))) (da_cons (d_tup da_nil) (da_cons (d_lst da_nil) (da_cons (d_tup (da_cons d_str (da_cons d_str (da_cons d_str (da_cons d_str da_nil))))) (da_cons d_int da_nil))))))))))))))))
    (dss_one (ds_ret (d_f D_law_pick hgd hr (by omega) (by rfl) (fun _ _ _ _ _ _ us hl => match us, hl with | [_, _], _ => rfl) (da_cons (d_var 0) (da_cons (d_var 4) da_nil))))))))))
theorem dv_law_own_kinds (T : Tops K mg base C_BadRow C_BadTable C_Failed C_FailsError C_InvalidCommand C_InvalidText C_KeyTaken C_NameTaken C_NoColumn C_NoCourse C_NoGoal C_NoPlan C_NoQuestion C_NoRow C_NoRun C_NoTable C_NotPlain C_NothingAsked C_Outdated C_TooGreat) (f : Addr) (cdv : Value) (A : Around) (outer : List Env) (s : Shared) (H : Hp) (E : XK) (hgd : A.guards = some []) (hr : Room 0 (A.deeper (PyProof.Rows.envOfC "_law_own_kinds" (defScope s_law_own_kinds) s.heap.objs.size f cdv))) :
  PSs (cxOf CX0 P w0 K mg base N_law_own_kinds "_law_own_kinds" (defScope s_law_own_kinds) f cdv A outer s H E).nox (defBody s_law_own_kinds) (tDS K (w_law_own_kinds C_BadRow C_BadTable C_Failed C_InvalidCommand C_InvalidText C_KeyTaken C_NameTaken C_NoColumn C_NoCourse C_NoGoal C_NoPlan C_NoQuestion C_NoRow C_NoRun C_NoTable C_NotPlain C_NothingAsked C_Outdated C_TooGreat (wIsO (isOf K)))) :=
  (dss_cons (ds_set (i := 1) sc_law_own_kinds.nd rfl (Or.inl rfl) (d_lst (da_cons (d_isO (.own (by rfl) T.mg_Failed (by decide)) (by rfl) T.b_isinstance (d_var 0)) (da_cons (d_isO (.own (by rfl) T.mg_NameTaken (by decide)) (by rfl) T.b_isinstance (d_var 0)) (da_cons (d_isO (.own (by rfl) T.mg_BadTable (by decide)) (by rfl) T.b_isinstance (d_var 0)) (da_cons (d_isO (.own (by rfl) T.mg_NoTable (by decide)) (by rfl) T.b_isinstance (d_var 0)) da_nil))))))
    (dss_cons (ds_set (i := 1) sc_law_own_kinds.nd rfl (Or.inl rfl) (d_add (d_var 1) (d_lst (da_cons (d_isO (.own (by rfl) T.mg_NoColumn (by decide)) (by rfl) T.b_isinstance (d_var 0)) (da_cons (d_isO (.own (by rfl) T.mg_BadRow (by decide)) (by rfl) T.b_isinstance (d_var 0)) (da_cons (d_isO (.own (by rfl) T.mg_KeyTaken (by decide)) (by rfl) T.b_isinstance (d_var 0)) (da_cons (d_isO (.own (by rfl) T.mg_NoRow (by decide)) (by rfl) T.b_isinstance (d_var 0)) da_nil)))))))
    (dss_cons (ds_set (i := 1) sc_law_own_kinds.nd rfl (Or.inl rfl) (d_add (d_var 1) (d_lst (da_cons (d_isO (.own (by rfl) T.mg_TooGreat (by decide)) (by rfl) T.b_isinstance (d_var 0)) (da_cons (d_isO (.own (by rfl) T.mg_Outdated (by decide)) (by rfl) T.b_isinstance (d_var 0)) (da_cons (d_isO (.own (by rfl) T.mg_NoGoal (by decide)) (by rfl) T.b_isinstance (d_var 0)) (da_cons (d_isO (.own (by rfl) T.mg_NoCourse (by decide)) (by rfl) T.b_isinstance (d_var 0)) da_nil)))))))
    (dss_cons (ds_set (i := 1) sc_law_own_kinds.nd rfl (Or.inl rfl) (d_add (d_var 1) (d_lst (da_cons (d_isO (.own (by rfl) T.mg_NoQuestion (by decide)) (by rfl) T.b_isinstance (d_var 0)) (da_cons (d_isO (.own (by rfl) T.mg_NotPlain (by decide)) (by rfl) T.b_isinstance (d_var 0)) (da_cons (d_isO (.own (by rfl) T.mg_NoPlan (by decide)) (by rfl) T.b_isinstance (d_var 0)) da_nil))))))
    (dss_cons (ds_set (i := 1) sc_law_own_kinds.nd rfl (Or.inl rfl) (d_add (d_var 1) (d_lst (da_cons (d_isO (.own (by rfl) T.mg_InvalidText (by decide)) (by rfl) T.b_isinstance (d_var 0)) (da_cons (d_isO (.own (by rfl) T.mg_InvalidCommand (by decide)) (by rfl) T.b_isinstance (d_var 0)) da_nil)))))
    (dss_one (ds_ret (d_add (d_var 1) (d_lst (da_cons (d_isO (.own (by rfl) T.mg_NothingAsked (by decide)) (by rfl) T.b_isinstance (d_var 0)) (da_cons (d_isO (.own (by rfl) T.mg_NoRun (by decide)) (by rfl) T.b_isinstance (d_var 0)) da_nil)))))))))))
theorem dv_law_other_kinds (T : Tops K mg base C_BadRow C_BadTable C_Failed C_FailsError C_InvalidCommand C_InvalidText C_KeyTaken C_NameTaken C_NoColumn C_NoCourse C_NoGoal C_NoPlan C_NoQuestion C_NoRow C_NoRun C_NoTable C_NotPlain C_NothingAsked C_Outdated C_TooGreat) (f : Addr) (cdv : Value) (A : Around) (outer : List Env) (s : Shared) (H : Hp) (E : XK) (hgd : A.guards = some []) (hr : Room 0 (A.deeper (PyProof.Rows.envOfC "_law_other_kinds" (defScope s_law_other_kinds) s.heap.objs.size f cdv))) :
  PSs (cxOf CX0 P w0 K mg base N_law_other_kinds "_law_other_kinds" (defScope s_law_other_kinds) f cdv A outer s H E).nox (defBody s_law_other_kinds) (tDS K (w_law_other_kinds (wIsO (isOf K)))) :=
  (dss_cons (ds_set (i := 1) sc_law_other_kinds.nd rfl (Or.inl rfl) (d_lst (da_cons (d_isO (.blt (by rfl) T.b_ValueError (by decide +kernel) (by decide) (by decide)) (by rfl) T.b_isinstance (d_var 0)) (da_cons (d_isO (.blt (by rfl) T.b_LookupError (by decide +kernel) (by decide) (by decide)) (by rfl) T.b_isinstance (d_var 0)) (da_cons (d_isO (.blt (by rfl) T.b_ArithmeticError (by decide +kernel) (by decide) (by decide)) (by rfl) T.b_isinstance (d_var 0)) da_nil)))))
    (dss_cons (ds_set (i := 1) sc_law_other_kinds.nd rfl (Or.inl rfl) (d_add (d_var 1) (d_lst (da_cons (d_isO (.blt (by rfl) T.b_TypeError (by decide +kernel) (by decide) (by decide)) (by rfl) T.b_isinstance (d_var 0)) (da_cons (d_isO (.blt (by rfl) T.b_RuntimeError (by decide +kernel) (by decide) (by decide)) (by rfl) T.b_isinstance (d_var 0)) (da_cons (d_isO (.blt (by rfl) T.b_AttributeError (by decide +kernel) (by decide) (by decide)) (by rfl) T.b_isinstance (d_var 0)) da_nil))))))
    (dss_one (ds_ret (d_add (d_var 1) (d_lst (da_cons (d_isO (.blt (by rfl) T.b_NotImplementedError (by decide +kernel) (by decide) (by decide)) (by rfl) T.b_isinstance (d_var 0)) da_nil)))))))
theorem dv_law_made (T : Tops K mg base C_BadRow C_BadTable C_Failed C_FailsError C_InvalidCommand C_InvalidText C_KeyTaken C_NameTaken C_NoColumn C_NoCourse C_NoGoal C_NoPlan C_NoQuestion C_NoRow C_NoRun C_NoTable C_NotPlain C_NothingAsked C_Outdated C_TooGreat) (D_Failed_init : DefE P w0 K mg base 1 "Failed" C_Failed ["word", "place", "numbers"]) (D_NameTaken_init : DefE P w0 K mg base 1 "NameTaken" C_NameTaken ["name"]) (D_NoTable_init : DefE P w0 K mg base 1 "NoTable" C_NoTable ["name"]) (D_NoColumn_init : DefE P w0 K mg base 1 "NoColumn" C_NoColumn ["name"]) (D_BadTable_init : DefE P w0 K mg base 1 "BadTable" C_BadTable ["part"]) (D_BadRow_init : DefE P w0 K mg base 1 "BadRow" C_BadRow ["column"]) (D_KeyTaken_init : DefE P w0 K mg base 1 "KeyTaken" C_KeyTaken ["column"]) (D_NoRow_init : DefE P w0 K mg base 1 "NoRow" C_NoRow ["number"]) (D_NoGoal_init : DefE P w0 K mg base 1 "NoGoal" C_NoGoal ["number"]) (D_NoCourse_init : DefE P w0 K mg base 1 "NoCourse" C_NoCourse ["number"]) (D_TooGreat_init : DefE P w0 K mg base 1 "TooGreat" C_TooGreat ["limit"]) (D_Outdated_init : DefE P w0 K mg base 1 "Outdated" C_Outdated ["fact"]) (f : Addr) (cdv : Value) (A : Around) (outer : List Env) (s : Shared) (H : Hp) (E : XK) (hgd : A.guards = some []) (hr : Room 2 (A.deeper (PyProof.Rows.envOfC "_law_made" (defScope s_law_made) s.heap.objs.size f cdv))) :
  PSs (cxOf CX0 P w0 K mg base N_law_made "_law_made" (defScope s_law_made) f cdv A outer s H E).nox (defBody s_law_made) (tDS K (w_law_made C_BadRow C_BadTable C_Failed C_InvalidCommand C_InvalidText C_KeyTaken C_NameTaken C_NoColumn C_NoCourse C_NoGoal C_NoPlan C_NoQuestion C_NoRow C_NoRun C_NoTable C_NotPlain C_NothingAsked C_Outdated C_TooGreat (fldOf K))) :=
  (dss_cons (ds_set (i := 2) sc_law_made.nd rfl (Or.inl rfl) (d_ix (d_var 1) d_int))
    (dss_cons (ds_if (t_eq hr (d_var 0) d_int) (dss_cons (ds_set (i := 3) sc_law_made.nd rfl (Or.inl rfl) (d_newE D_Failed_init hr (by decide) (by rfl) (da_cons (d_var 2) (da_cons (d_ix (d_var 1) d_int) (da_cons (d_ix (d_var 1) d_int) da_nil)))))
    (dss_one (ds_ret (d_lst (da_cons (d_var 3) (da_cons (d_lst (da_cons (d_xo (d_var 3)) (da_cons (d_xo (d_var 3)) (da_cons (d_xo (d_var 3)) da_nil)))) da_nil)))))) dss_nil)
    (dss_cons (ds_if (t_in hr (d_var 0) (d_tup (da_cons d_int (da_cons d_int (da_cons d_int da_nil)))) (by rfl)) (dss_cons (ds_set (i := 3) sc_law_made.nd rfl (Or.inl rfl) (d_if (t_eq hr (d_var 0) d_int) (d_newE D_NameTaken_init hr (by decide) (by rfl) (da_cons (d_var 2) da_nil)) (d_if (t_eq hr (d_var 0) d_int) (d_newE D_NoTable_init hr (by decide) (by rfl) (da_cons (d_var 2) da_nil)) (d_newE D_NoColumn_init hr (by decide) (by rfl) (da_cons (d_var 2) da_nil)))))
    (dss_one (ds_ret (d_lst (da_cons (d_var 3) (da_cons (d_lst (da_cons (d_xo (d_var 3)) da_nil)) da_nil)))))) dss_nil)
    (dss_cons (ds_if (t_eq hr (d_var 0) d_int) (dss_cons (ds_set (i := 3) sc_law_made.nd rfl (Or.inl rfl) (d_newE D_BadTable_init hr (by decide) (by rfl) (da_cons (d_var 2) da_nil)))
    (dss_one (ds_ret (d_lst (da_cons (d_var 3) (da_cons (d_lst (da_cons (d_xo (d_var 3)) da_nil)) da_nil)))))) dss_nil)
    (dss_cons (ds_if (t_in hr (d_var 0) (d_tup (da_cons d_int (da_cons d_int da_nil))) (by rfl)) (dss_cons (ds_set (i := 3) sc_law_made.nd rfl (Or.inl rfl) (d_if (t_eq hr (d_var 0) d_int) (d_newE D_BadRow_init hr (by decide) (by rfl) (da_cons (d_var 2) da_nil)) (d_newE D_KeyTaken_init hr (by decide) (by rfl) (da_cons (d_var 2) da_nil))))
    (dss_one (ds_ret (d_lst (da_cons (d_var 3) (da_cons (d_lst (da_cons (d_xo (d_var 3)) da_nil)) da_nil)))))) dss_nil)
    (dss_cons (ds_if (t_in hr (d_var 0) (d_tup (da_cons d_int (da_cons d_int (da_cons d_int da_nil)))) (by rfl)) (dss_cons (ds_set (i := 3) sc_law_made.nd rfl (Or.inl rfl) (d_if (t_eq hr (d_var 0) d_int) (d_newE D_NoRow_init hr (by decide) (by rfl) (da_cons (d_var 2) da_nil)) (d_if (t_eq hr (d_var 0) d_int) (d_newE D_NoGoal_init hr (by decide) (by rfl) (da_cons (d_var 2) da_nil)) (d_newE D_NoCourse_init hr (by decide) (by rfl) (da_cons (d_var 2) da_nil)))))
    (dss_one (ds_ret (d_lst (da_cons (d_var 3) (da_cons (d_lst (da_cons (d_xo (d_var 3)) da_nil)) da_nil)))))) dss_nil)
    (dss_cons (ds_if (t_eq hr (d_var 0) d_int) (dss_cons (ds_set (i := 3) sc_law_made.nd rfl (Or.inl rfl) (d_newE D_TooGreat_init hr (by decide) (by rfl) (da_cons (d_var 2) da_nil)))
    (dss_one (ds_ret (d_lst (da_cons (d_var 3) (da_cons (d_lst (da_cons (d_xo (d_var 3)) da_nil)) da_nil)))))) dss_nil)
    (dss_cons (ds_if (t_eq hr (d_var 0) d_int) (dss_cons (ds_set (i := 3) sc_law_made.nd rfl (Or.inl rfl) (d_newE D_Outdated_init hr (by decide) (by rfl) (da_cons (d_var 2) da_nil)))
    (dss_one (ds_ret (d_lst (da_cons (d_var 3) (da_cons (d_lst (da_cons (d_xo (d_var 3)) da_nil)) da_nil)))))) dss_nil)
    (dss_cons (ds_set (i := 4) sc_law_made.nd rfl (Or.inl rfl) (d_lst (da_cons (d_new0 T.en_NoQuestion (by rfl)) (da_cons (d_new0 T.en_NotPlain (by rfl)) (da_cons (d_new0 T.en_NoPlan (by rfl)) (da_cons (d_new0 T.en_InvalidText (by rfl)) (da_cons (d_new0 T.en_InvalidCommand (by rfl)) (da_cons (d_new0 T.en_NothingAsked (by rfl)) (da_cons (d_new0 T.en_NoRun (by rfl)) da_nil)))))))))
    (dss_one (ds_ret (d_lst (da_cons (d_ix (d_var 4) (d_sub (d_var 0) d_int)) (da_cons (d_lst da_nil) da_nil))))))))))))))
theorem dv_law_by_name (T : Tops K mg base C_BadRow C_BadTable C_Failed C_FailsError C_InvalidCommand C_InvalidText C_KeyTaken C_NameTaken C_NoColumn C_NoCourse C_NoGoal C_NoPlan C_NoQuestion C_NoRow C_NoRun C_NoTable C_NotPlain C_NothingAsked C_Outdated C_TooGreat) (D_K_Failed_init : DefEK P w0 K mg base 1 "Failed" C_Failed ["word", "place", "numbers"] ["numbers", "word", "place"] [1, 2, 0]) (D_K_BadTable_init : DefEK P w0 K mg base 1 "BadTable" C_BadTable ["part"] ["part"] [0]) (D_K_NameTaken_init : DefEK P w0 K mg base 1 "NameTaken" C_NameTaken ["name"] ["name"] [0]) (D_K_BadRow_init : DefEK P w0 K mg base 1 "BadRow" C_BadRow ["column"] ["column"] [0]) (D_K_NoColumn_init : DefEK P w0 K mg base 1 "NoColumn" C_NoColumn ["name"] ["name"] [0]) (D_K_NoTable_init : DefEK P w0 K mg base 1 "NoTable" C_NoTable ["name"] ["name"] [0]) (D_K_TooGreat_init : DefEK P w0 K mg base 1 "TooGreat" C_TooGreat ["limit"] ["limit"] [0]) (D_K_NoRow_init : DefEK P w0 K mg base 1 "NoRow" C_NoRow ["number"] ["number"] [0]) (D_K_KeyTaken_init : DefEK P w0 K mg base 1 "KeyTaken" C_KeyTaken ["column"] ["column"] [0]) (D_K_NoGoal_init : DefEK P w0 K mg base 1 "NoGoal" C_NoGoal ["number"] ["number"] [0]) (D_K_Outdated_init : DefEK P w0 K mg base 1 "Outdated" C_Outdated ["fact"] ["fact"] [0]) (D_K_NoCourse_init : DefEK P w0 K mg base 1 "NoCourse" C_NoCourse ["number"] ["number"] [0]) (f : Addr) (cdv : Value) (A : Around) (outer : List Env) (s : Shared) (H : Hp) (E : XK) (hgd : A.guards = some []) (hr : Room 2 (A.deeper (PyProof.Rows.envOfC "_law_by_name" (defScope s_law_by_name) s.heap.objs.size f cdv))) :
  PSs (cxOf CX0 P w0 K mg base N_law_by_name "_law_by_name" (defScope s_law_by_name) f cdv A outer s H E).nox (defBody s_law_by_name) (tDS K (w_law_by_name C_BadRow C_BadTable C_Failed C_KeyTaken C_NameTaken C_NoColumn C_NoCourse C_NoGoal C_NoRow C_NoTable C_Outdated C_TooGreat (fldOf K))) :=
  (dss_cons (ds_set (i := 1) sc_law_by_name.nd rfl (Or.inl rfl) (d_newK D_K_Failed_init hr (by decide) (by rfl) (dk_cons (d_ix (d_var 0) d_int) (dk_cons (d_ix (d_var 0) d_int) (dk_cons (d_ix (d_var 0) d_int) dk_nil)))))
    (dss_cons (ds_set (i := 2) sc_law_by_name.nd rfl (Or.inl rfl) (d_lst (da_cons (d_xo (d_var 1)) (da_cons (d_xo (d_var 1)) (da_cons (d_xo (d_var 1)) (da_cons (d_xo (d_newK D_K_NameTaken_init hr (by decide) (by rfl) (dk_cons (d_ix (d_var 0) d_int) dk_nil))) (da_cons (d_xo (d_newK D_K_BadTable_init hr (by decide) (by rfl) (dk_cons (d_ix (d_var 0) d_int) dk_nil))) da_nil)))))))
    (dss_cons (ds_set (i := 2) sc_law_by_name.nd rfl (Or.inl rfl) (d_add (d_var 2) (d_lst (da_cons (d_xo (d_newK D_K_NoTable_init hr (by decide) (by rfl) (dk_cons (d_ix (d_var 0) d_int) dk_nil))) (da_cons (d_xo (d_newK D_K_NoColumn_init hr (by decide) (by rfl) (dk_cons (d_ix (d_var 0) d_int) dk_nil))) (da_cons (d_xo (d_newK D_K_BadRow_init hr (by decide) (by rfl) (dk_cons (d_ix (d_var 0) d_int) dk_nil))) da_nil))))))
    (dss_cons (ds_set (i := 2) sc_law_by_name.nd rfl (Or.inl rfl) (d_add (d_var 2) (d_lst (da_cons (d_xo (d_newK D_K_KeyTaken_init hr (by decide) (by rfl) (dk_cons (d_ix (d_var 0) d_int) dk_nil))) (da_cons (d_xo (d_newK D_K_NoRow_init hr (by decide) (by rfl) (dk_cons (d_ix (d_var 0) d_int) dk_nil))) (da_cons (d_xo (d_newK D_K_TooGreat_init hr (by decide) (by rfl) (dk_cons (d_ix (d_var 0) d_int) dk_nil))) da_nil))))))
    (dss_cons (ds_set (i := 2) sc_law_by_name.nd rfl (Or.inl rfl) (d_add (d_var 2) (d_lst (da_cons (d_xo (d_newK D_K_Outdated_init hr (by decide) (by rfl) (dk_cons (d_ix (d_var 0) d_int) dk_nil))) (da_cons (d_xo (d_newK D_K_NoGoal_init hr (by decide) (by rfl) (dk_cons (d_ix (d_var 0) d_int) dk_nil))) da_nil)))))
    (dss_one (ds_ret (d_add (d_var 2) (d_lst (da_cons (d_xo (d_newK D_K_NoCourse_init hr (by decide) (by rfl) (dk_cons (d_ix (d_var 0) d_int) dk_nil))) da_nil))))))))))
theorem dv_law_first_raised (T : Tops K mg base C_BadRow C_BadTable C_Failed C_FailsError C_InvalidCommand C_InvalidText C_KeyTaken C_NameTaken C_NoColumn C_NoCourse C_NoGoal C_NoPlan C_NoQuestion C_NoRow C_NoRun C_NoTable C_NotPlain C_NothingAsked C_Outdated C_TooGreat) (D_Failed_init : DefE P w0 K mg base 1 "Failed" C_Failed ["word", "place", "numbers"]) (D_NameTaken_init : DefE P w0 K mg base 1 "NameTaken" C_NameTaken ["name"]) (D_BadTable_init : DefE P w0 K mg base 1 "BadTable" C_BadTable ["part"]) (D_NoTable_init : DefE P w0 K mg base 1 "NoTable" C_NoTable ["name"]) (D_NoColumn_init : DefE P w0 K mg base 1 "NoColumn" C_NoColumn ["name"]) (D_BadRow_init : DefE P w0 K mg base 1 "BadRow" C_BadRow ["column"]) (D_KeyTaken_init : DefE P w0 K mg base 1 "KeyTaken" C_KeyTaken ["column"]) (D_NoRow_init : DefE P w0 K mg base 1 "NoRow" C_NoRow ["number"]) (D_TooGreat_init : DefE P w0 K mg base 1 "TooGreat" C_TooGreat ["limit"]) (D_Outdated_init : DefE P w0 K mg base 1 "Outdated" C_Outdated ["fact"]) (D_NoGoal_init : DefE P w0 K mg base 1 "NoGoal" C_NoGoal ["number"]) (D_NoCourse_init : DefE P w0 K mg base 1 "NoCourse" C_NoCourse ["number"]) :
  BodyX P w0 K mg base 2 "_law_first_raised" s_law_first_raised N_law_first_raised (fun xr => w_law_first_raised C_BadRow C_BadTable C_Failed C_KeyTaken C_NameTaken C_NoColumn C_NoCourse C_NoGoal C_NoRow C_NoTable C_Outdated C_TooGreat xr) := fun γ f cdv A outer s H E W xr hgd hr tk hp lk =>
  (dss_cons (ds_if (t_eq hr (d_var 0) d_int) (dss_one (ds_raise tk lk (d_exc D_Failed_init hr (by decide) (by rfl) (da_cons (d_ix (d_var 1) d_int) (da_cons (d_ix (d_var 1) d_int) (da_cons (d_ix (d_var 1) d_int) da_nil)))))) dss_nil)
    (dss_cons (ds_if (t_eq hr (d_var 0) d_int) (dss_one (ds_raise tk lk (d_exc D_NameTaken_init hr (by decide) (by rfl) (da_cons (d_ix (d_var 1) d_int) da_nil)))) dss_nil)
    (dss_cons (ds_if (t_eq hr (d_var 0) d_int) (dss_one (ds_raise tk lk (d_exc D_BadTable_init hr (by decide) (by rfl) (da_cons (d_ix (d_var 1) d_int) da_nil)))) dss_nil)
    (dss_cons (ds_if (t_eq hr (d_var 0) d_int) (dss_one (ds_raise tk lk (d_exc D_NoTable_init hr (by decide) (by rfl) (da_cons (d_ix (d_var 1) d_int) da_nil)))) dss_nil)
    (dss_cons (ds_if (t_eq hr (d_var 0) d_int) (dss_one (ds_raise tk lk (d_exc D_NoColumn_init hr (by decide) (by rfl) (da_cons (d_ix (d_var 1) d_int) da_nil)))) dss_nil)
    (dss_cons (ds_if (t_eq hr (d_var 0) d_int) (dss_one (ds_raise tk lk (d_exc D_BadRow_init hr (by decide) (by rfl) (da_cons (d_ix (d_var 1) d_int) da_nil)))) dss_nil)
    (dss_cons (ds_if (t_eq hr (d_var 0) d_int) (dss_one (ds_raise tk lk (d_exc D_KeyTaken_init hr (by decide) (by rfl) (da_cons (d_ix (d_var 1) d_int) da_nil)))) dss_nil)
    (dss_cons (ds_if (t_eq hr (d_var 0) d_int) (dss_one (ds_raise tk lk (d_exc D_NoRow_init hr (by decide) (by rfl) (da_cons (d_ix (d_var 1) d_int) da_nil)))) dss_nil)
    (dss_cons (ds_if (t_eq hr (d_var 0) d_int) (dss_one (ds_raise tk lk (d_exc D_TooGreat_init hr (by decide) (by rfl) (da_cons (d_ix (d_var 1) d_int) da_nil)))) dss_nil)
    (dss_cons (ds_if (t_eq hr (d_var 0) d_int) (dss_one (ds_raise tk lk (d_exc D_Outdated_init hr (by decide) (by rfl) (da_cons (d_ix (d_var 1) d_int) da_nil)))) dss_nil)
    (dss_cons (ds_if (t_eq hr (d_var 0) d_int) (dss_one (ds_raise tk lk (d_exc D_NoGoal_init hr (by decide) (by rfl) (da_cons (d_ix (d_var 1) d_int) da_nil)))) dss_nil)
    (dss_one (ds_if (t_eq hr (d_var 0) d_int) (dss_one (ds_raise tk lk (d_exc D_NoCourse_init hr (by decide) (by rfl) (da_cons (d_ix (d_var 1) d_int) da_nil)))) dss_nil)))))))))))))
theorem dv_law_raised (T : Tops K mg base C_BadRow C_BadTable C_Failed C_FailsError C_InvalidCommand C_InvalidText C_KeyTaken C_NameTaken C_NoColumn C_NoCourse C_NoGoal C_NoPlan C_NoQuestion C_NoRow C_NoRun C_NoTable C_NotPlain C_NothingAsked C_Outdated C_TooGreat) {f_law_first_raised : WFX} (D_law_first_raised : DefX P w0 K mg base 3 "_law_first_raised" s_law_first_raised [] [] ["_law_which", "_law_things"] f_law_first_raised) :
  BodyX P w0 K mg base 3 "_law_raised" s_law_raised N_law_raised (fun xr => w_law_raised C_InvalidCommand C_InvalidText C_NoPlan C_NoQuestion C_NoRun C_NotPlain C_NothingAsked f_law_first_raised xr) := fun γ f cdv A outer s H E W xr hgd hr tk hp lk =>
  (dss_cons (ds_expr (d_fnX D_law_first_raised hgd hr (by decide) tk lk (by rfl) hb_law_first_raised_0 howD_ks (da_cons (d_var 0) (da_cons (d_var 1) da_nil)) dk_nil))
    (dss_cons (ds_if (t_eq hr (d_var 0) d_int) (dss_one (ds_raise tk lk (d_excN T.en_NoQuestion (by rfl)))) dss_nil)
    (dss_cons (ds_if (t_eq hr (d_var 0) d_int) (dss_one (ds_raise tk lk (d_excN T.en_NotPlain (by rfl)))) dss_nil)
    (dss_cons (ds_if (t_eq hr (d_var 0) d_int) (dss_one (ds_raise tk lk (d_excN T.en_NoPlan (by rfl)))) dss_nil)
    (dss_cons (ds_if (t_eq hr (d_var 0) d_int) (dss_one (ds_raise tk lk (d_excN T.en_InvalidText (by rfl)))) dss_nil)
    (dss_cons (ds_if (t_eq hr (d_var 0) d_int) (dss_one (ds_raise tk lk (d_excN T.en_InvalidCommand (by rfl)))) dss_nil)
    (dss_cons (ds_if (t_eq hr (d_var 0) d_int) (dss_one (ds_raise tk lk (d_excN T.en_NothingAsked (by rfl)))) dss_nil)
    (dss_one (ds_raise tk lk (d_excN T.en_NoRun (by rfl)))))))))))
theorem dv_law_caught (T : Tops K mg base C_BadRow C_BadTable C_Failed C_FailsError C_InvalidCommand C_InvalidText C_KeyTaken C_NameTaken C_NoColumn C_NoCourse C_NoGoal C_NoPlan C_NoQuestion C_NoRow C_NoRun C_NoTable C_NotPlain C_NothingAsked C_Outdated C_TooGreat) {fH_law_own_kinds : Addr → Addr → WF} (D_H_law_own_kinds : HotD P w0 K mg base 1 "_law_own_kinds" ["_law_e"] fH_law_own_kinds) {fH_law_other_kinds : Addr → Addr → WF} (D_H_law_other_kinds : HotD P w0 K mg base 1 "_law_other_kinds" ["_law_e"] fH_law_other_kinds) {f_law_raised : WFX} (D_law_raised : DefX P w0 K mg base 4 "_law_raised" s_law_raised [] [] ["_law_which", "_law_things"] f_law_raised) (f : Addr) (cdv : Value) (A : Around) (outer : List Env) (s : Shared) (H : Hp) (E : XK) (hgd : A.guards = some []) (hr : Room 4 (A.deeper (PyProof.Rows.envOfC "_law_caught" (defScope s_law_caught) s.heap.objs.size f cdv))) :
  PSs (cxOf CX0 P w0 K mg base N_law_caught "_law_caught" (defScope s_law_caught) f cdv A outer s H E).nox (defBody s_law_caught) (tDS K (w_law_caught C_FailsError (mtOf K) (isOf K) fH_law_own_kinds fH_law_other_kinds f_law_raised)) :=
  (dss_cons (ds_set (i := 2) sc_law_caught.nd rfl (Or.inl rfl) (d_lst da_nil))
    (dss_cons (ds_tryG rfl rfl sc_law_caught.nd takes_no link_no (fun γ W xr pn xe tk hp lk => (dss_one (ds_expr (d_fnX D_law_raised hgd hr (by decide) tk lk (by rfl) hb_law_raised_0 howD_ks (da_cons (d_var 0) (da_cons (d_var 1) da_nil)) dk_nil)))) (.named (i := 3) rfl rfl ⟨by rfl, by decide, .inl T.mg_FailsError⟩ (fun γ a oe cls d pn C fs hz0 hf kc => (fun (hz : Zc (.ref C) d oe) (kx : ExD K γ.S d fs) => (dss_one (ds_set (i := 2) sc_law_caught.nd rfl (Or.inl rfl) (d_lst (da_cons (d_hot D_H_law_own_kinds (roomH_at 4 hr.dp hr.un (by decide)) List.mem_cons_self hz hf kx (by rfl) (da_cons (d_var 3) da_nil)) (da_cons (d_hot D_H_law_other_kinds (roomH_at 4 hr.dp hr.un (by decide)) List.mem_cons_self hz hf kx (by rfl) (da_cons (d_var 3) da_nil)) (da_cons (d_isP List.mem_cons_self hz hf kx (.blt (by rfl) T.b_Exception (by decide +kernel) (by decide) (by decide)) (by rfl) T.b_isinstance (d_var 3)) da_nil))))))) (kc.cls ▸ hz0) kc.ex) .nil))
    (dss_one (ds_ret (d_var 2)))))
theorem dv_law_right (T : Tops K mg base C_BadRow C_BadTable C_Failed C_FailsError C_InvalidCommand C_InvalidText C_KeyTaken C_NameTaken C_NoColumn C_NoCourse C_NoGoal C_NoPlan C_NoQuestion C_NoRow C_NoRun C_NoTable C_NotPlain C_NothingAsked C_Outdated C_TooGreat) {f_law_made : WF} (D_law_made : Def P w0 K mg base 3 "_law_made" s_law_made ["_law_which", "_law_things"] f_law_made) {f_law_own_kinds : WF} (D_law_own_kinds : Def P w0 K mg base 1 "_law_own_kinds" s_law_own_kinds ["_law_e"] f_law_own_kinds) {f_law_other_kinds : WF} (D_law_other_kinds : Def P w0 K mg base 1 "_law_other_kinds" s_law_other_kinds ["_law_e"] f_law_other_kinds) {f_law_caught : WF} (D_law_caught : Def P w0 K mg base 5 "_law_caught" s_law_caught ["_law_which", "_law_things"] f_law_caught) (f : Addr) (cdv : Value) (A : Around) (outer : List Env) (s : Shared) (H : Hp) (E : XK) (hgd : A.guards = some []) (hr : Room 5 (A.deeper (PyProof.Rows.envOfC "_law_right" (defScope s_law_right) s.heap.objs.size f cdv))) :
  PSs (cxOf CX0 P w0 K mg base N_law_right "_law_right" (defScope s_law_right) f cdv A outer s H E).nox (defBody s_law_right) (tDS K (w_law_right C_FailsError (isOf K) f_law_made f_law_own_kinds f_law_other_kinds f_law_caught)) :=
  (dss_cons (ds_set (i := 2) sc_law_right.nd rfl (Or.inl rfl) (d_repr hgd hr T.sm (by rfl) T.b_repr (d_var 1)))
    (dss_cons (ds_asg (d_f D_law_made hgd hr (by decide) (by rfl) (fun _ _ _ _ _ _ us hl => match us, hl with | [_, _], _ => rfl) (da_cons (d_var 0) (da_cons (d_var 1) da_nil))) (dg_lst (n := 2) rfl (dgs_cons (dg_name (i := 3) sc_law_right.nd rfl (Or.inl rfl)) (dgs_cons (dg_name (i := 4) sc_law_right.nd rfl (Or.inl rfl)) dgs_nil))))
    (dss_cons (ds_set (i := 5) sc_law_right.nd rfl (Or.inl rfl) (d_if (t_gt (d_var 0) d_int) (d_lst da_nil) (d_slice (d_var 1) do_none (do_some (d_ix (d_lst (da_cons d_int (da_cons d_int da_nil))) (d_int1 (by rfl) T.b_int (c_eq hr (d_var 0) d_int)))))))
    (dss_cons (ds_if (PW.pt (dw_or (t_ne hr (d_repr hgd hr T.sm (by rfl) T.b_repr (d_var 4)) (d_repr hgd hr T.sm (by rfl) T.b_repr (d_var 5))) (dw_or1 (t_ne hr (d_repr hgd hr T.sm (by rfl) T.b_repr (d_var 1)) (d_var 2))))) (dss_one (ds_ret d_bl)) dss_nil)
    (dss_cons (ds_set (i := 6) sc_law_right.nd rfl (Or.inl rfl) (d_lst (da_cons (d_lc (own := [("_law_k", 7)]) (di_range1 (by rfl) T.b_range d_int) (blkOk_by (own := [("_law_k", 7)]) (N := N_law_right) (sc := defScope s_law_right) (by decide +kernel)) (fun _ _ _ _ _ => dg_name (i := 7) sc_law_right.nd rfl (Or.inl rfl)) (fun _ _ _ _ _ => dts_nil) (fun _ _ _ _ _ => (c_eq hr (d_var 7) (d_var 0))) sc_law_right.nd) (da_cons (d_mul (d_lst (da_cons d_bl da_nil)) d_int) (da_cons d_bl da_nil)))))
    (dss_cons (ds_set (i := 8) sc_law_right.nd rfl (Or.inl rfl) (d_lst (da_cons (d_f D_law_own_kinds hgd hr (by decide) (by rfl) (fun _ _ _ _ _ _ us hl => match us, hl with | [_], _ => rfl) (da_cons (d_var 3) da_nil)) (da_cons (d_f D_law_other_kinds hgd hr (by decide) (by rfl) (fun _ _ _ _ _ _ us hl => match us, hl with | [_], _ => rfl) (da_cons (d_var 3) da_nil)) (da_cons (d_isO (.own (by rfl) T.mg_FailsError (by decide)) (by rfl) T.b_isinstance (d_var 3)) da_nil)))))
    (dss_one (ds_ret (d_and (c_eq hr (d_var 8) (d_var 6)) (d_one (c_eq hr (d_f D_law_caught hgd hr (by decide) (by rfl) (fun _ _ _ _ _ _ us hl => match us, hl with | [_, _], _ => rfl) (da_cons (d_var 0) (da_cons (d_var 1) da_nil))) (d_var 6))))))))))))
theorem dv_law_main (T : Tops K mg base C_BadRow C_BadTable C_Failed C_FailsError C_InvalidCommand C_InvalidText C_KeyTaken C_NameTaken C_NoColumn C_NoCourse C_NoGoal C_NoPlan C_NoQuestion C_NoRow C_NoRun C_NoTable C_NotPlain C_NothingAsked C_Outdated C_TooGreat) {f_law_deck : WF} (D_law_deck : Def P w0 K mg base 1 "_law_deck" s_law_deck ["_law_script"] f_law_deck) {f_law_thing : WF} (D_law_thing : Def P w0 K mg base 12 "_law_thing" s_law_thing ["_law_deck_here", "_law_deep"] f_law_thing) {f_law_right : WF} (D_law_right : Def P w0 K mg base 6 "_law_right" s_law_right ["_law_which", "_law_things"] f_law_right) {f_law_by_name : WF} (D_law_by_name : Def P w0 K mg base 3 "_law_by_name" s_law_by_name ["_law_things"] f_law_by_name) (f : Addr) (cdv : Value) (A : Around) (outer : List Env) (s : Shared) (H : Hp) (E : XK) (hgd : A.guards = some []) (hr : Room 12 (A.deeper (PyProof.Rows.envOfC "law" (defScope s_law_main) s.heap.objs.size f cdv))) :
  PSs (cxOf CX0 P w0 K mg base N_law_main "law" (defScope s_law_main) f cdv A outer s H E).nox (defBody s_law_main) (tDS K (w_law_main f_law_deck f_law_thing f_law_right f_law_by_name)) :=
  (dss_cons (ds_set (i := 1) sc_law_main.nd rfl (Or.inr rfl) (d_f D_law_deck hgd hr (by decide) (by rfl) (fun _ _ _ _ _ _ us hl => match us, hl with | [_], _ => rfl) (da_cons (d_var 0) da_nil)))
    (dss_cons (ds_for (di_range1 (by rfl) T.b_range d_int) (dg_name (i := 2) sc_law_main.nd rfl (Or.inl rfl)) (dss_cons (ds_for (di_range1 (by rfl) T.b_range d_int) (dg_name (i := 3) sc_law_main.nd rfl (Or.inl rfl)) (dss_one (ds_if (dt_not (dt_val (d_f D_law_right hgd hr (by decide) (by rfl) (fun _ _ _ _ _ _ us hl => match us, hl with | [_, _], _ => rfl) (da_cons (d_var 3) (da_cons (d_lc (own := [("_law_k", 5)]) (di_range1 (by rfl) T.b_range d_int) (blkOk_by (own := [("_law_k", 5)]) (N := N_law_main) (sc := defScope s_law_main) (by decide +kernel)) (fun _ _ _ _ _ => dg_name (i := 5) sc_law_main.nd rfl (Or.inl rfl)) (fun _ _ _ _ _ => dts_nil) (fun _ _ _ _ _ => (d_f D_law_thing hgd hr (by decide) (by rfl) (fun _ _ _ _ _ _ us hl => match us, hl with | [_, _], _ => rfl) (da_cons (d_var 1) (da_cons d_int da_nil)))) sc_law_main.nd) da_nil))))) (dss_one (ds_ret d_bl)) dss_nil)))
    (dss_cons (ds_setLc (own := [("_law_k", 5)]) (i := 4) rfl rfl (sw_true rfl rfl rfl (by decide +kernel)) (di_range1 (by rfl) T.b_range d_int) (blkOk_by (own := [("_law_k", 5)]) (N := N_law_main) (sc := defScope s_law_main) (by decide +kernel)) (fun _ _ _ _ _ => dg_name (i := 5) sc_law_main.nd rfl (Or.inl rfl)) (fun _ _ _ _ _ => dts_nil) (fun _ _ _ _ _ => (d_f D_law_thing hgd hr (by decide) (by rfl) (fun _ _ _ _ _ _ us hl => match us, hl with | [_, _], _ => rfl) (da_cons (d_var 1) (da_cons d_int da_nil)))) sc_law_main.nd)
    (dss_one (ds_if (t_ne hr (d_repr hgd hr T.sm (by rfl) T.b_repr (d_f D_law_by_name hgd hr (by decide) (by rfl) (fun _ _ _ _ _ _ us hl => match us, hl with | [_], _ => rfl) (da_cons (d_var 4) da_nil))) (d_repr hgd hr T.sm (by rfl) T.b_repr (d_add (d_var 4) (d_mul (d_lst (da_cons (d_ix (d_var 4) d_int) da_nil)) d_int)))) (dss_one (ds_ret d_bl)) dss_nil)))))
    (dss_one (ds_ret d_bl))))
theorem dvH_law_own_kinds (T : Tops K mg base C_BadRow C_BadTable C_Failed C_FailsError C_InvalidCommand C_InvalidText C_KeyTaken C_NameTaken C_NoColumn C_NoCourse C_NoGoal C_NoPlan C_NoQuestion C_NoRow C_NoRun C_NoTable C_NotPlain C_NothingAsked C_Outdated C_TooGreat) (f : Addr) (cdv : Value) (A : Around) (fr : List Env) (s : Shared) (H : Hp) (a : Addr) (oe : Obj) (C : Addr) (d : Option Addr) (fs : List (Str × DV)) (hz : Zc (.ref C) d oe) (hf : ∃ vs, oe.data = .fields vs) (kx : ExD K γ.S d fs) :
  PSs (L2H.cxH L2.CX0 P w0 K mg base N_law_own_kinds "_law_own_kinds" (defScope s_law_own_kinds) f cdv A fr s H L2.E0 (a, oe)) (defBody s_law_own_kinds) (tDS K (w_law_own_kinds C_BadRow C_BadTable C_Failed C_InvalidCommand C_InvalidText C_KeyTaken C_NameTaken C_NoColumn C_NoCourse C_NoGoal C_NoPlan C_NoQuestion C_NoRow C_NoRun C_NoTable C_NotPlain C_NothingAsked C_Outdated C_TooGreat (wIsP (isOf K) a C))) :=
  (dss_cons (ds_set (i := 1) sc_law_own_kinds.nd rfl (Or.inl rfl) (d_lst (da_cons (d_isP List.mem_cons_self hz hf kx (.own (by rfl) T.mg_Failed (by decide)) (by rfl) T.b_isinstance (d_var 0)) (da_cons (d_isP List.mem_cons_self hz hf kx (.own (by rfl) T.mg_NameTaken (by decide)) (by rfl) T.b_isinstance (d_var 0)) (da_cons (d_isP List.mem_cons_self hz hf kx (.own (by rfl) T.mg_BadTable (by decide)) (by rfl) T.b_isinstance (d_var 0)) (da_cons (d_isP List.mem_cons_self hz hf kx (.own (by rfl) T.mg_NoTable (by decide)) (by rfl) T.b_isinstance (d_var 0)) da_nil))))))
    (dss_cons (ds_set (i := 1) sc_law_own_kinds.nd rfl (Or.inl rfl) (d_add (d_var 1) (d_lst (da_cons (d_isP List.mem_cons_self hz hf kx (.own (by rfl) T.mg_NoColumn (by decide)) (by rfl) T.b_isinstance (d_var 0)) (da_cons (d_isP List.mem_cons_self hz hf kx (.own (by rfl) T.mg_BadRow (by decide)) (by rfl) T.b_isinstance (d_var 0)) (da_cons (d_isP List.mem_cons_self hz hf kx (.own (by rfl) T.mg_KeyTaken (by decide)) (by rfl) T.b_isinstance (d_var 0)) (da_cons (d_isP List.mem_cons_self hz hf kx (.own (by rfl) T.mg_NoRow (by decide)) (by rfl) T.b_isinstance (d_var 0)) da_nil)))))))
    (dss_cons (ds_set (i := 1) sc_law_own_kinds.nd rfl (Or.inl rfl) (d_add (d_var 1) (d_lst (da_cons (d_isP List.mem_cons_self hz hf kx (.own (by rfl) T.mg_TooGreat (by decide)) (by rfl) T.b_isinstance (d_var 0)) (da_cons (d_isP List.mem_cons_self hz hf kx (.own (by rfl) T.mg_Outdated (by decide)) (by rfl) T.b_isinstance (d_var 0)) (da_cons (d_isP List.mem_cons_self hz hf kx (.own (by rfl) T.mg_NoGoal (by decide)) (by rfl) T.b_isinstance (d_var 0)) (da_cons (d_isP List.mem_cons_self hz hf kx (.own (by rfl) T.mg_NoCourse (by decide)) (by rfl) T.b_isinstance (d_var 0)) da_nil)))))))
    (dss_cons (ds_set (i := 1) sc_law_own_kinds.nd rfl (Or.inl rfl) (d_add (d_var 1) (d_lst (da_cons (d_isP List.mem_cons_self hz hf kx (.own (by rfl) T.mg_NoQuestion (by decide)) (by rfl) T.b_isinstance (d_var 0)) (da_cons (d_isP List.mem_cons_self hz hf kx (.own (by rfl) T.mg_NotPlain (by decide)) (by rfl) T.b_isinstance (d_var 0)) (da_cons (d_isP List.mem_cons_self hz hf kx (.own (by rfl) T.mg_NoPlan (by decide)) (by rfl) T.b_isinstance (d_var 0)) da_nil))))))
    (dss_cons (ds_set (i := 1) sc_law_own_kinds.nd rfl (Or.inl rfl) (d_add (d_var 1) (d_lst (da_cons (d_isP List.mem_cons_self hz hf kx (.own (by rfl) T.mg_InvalidText (by decide)) (by rfl) T.b_isinstance (d_var 0)) (da_cons (d_isP List.mem_cons_self hz hf kx (.own (by rfl) T.mg_InvalidCommand (by decide)) (by rfl) T.b_isinstance (d_var 0)) da_nil)))))
    (dss_one (ds_ret (d_add (d_var 1) (d_lst (da_cons (d_isP List.mem_cons_self hz hf kx (.own (by rfl) T.mg_NothingAsked (by decide)) (by rfl) T.b_isinstance (d_var 0)) (da_cons (d_isP List.mem_cons_self hz hf kx (.own (by rfl) T.mg_NoRun (by decide)) (by rfl) T.b_isinstance (d_var 0)) da_nil)))))))))))
theorem dvH_law_other_kinds (T : Tops K mg base C_BadRow C_BadTable C_Failed C_FailsError C_InvalidCommand C_InvalidText C_KeyTaken C_NameTaken C_NoColumn C_NoCourse C_NoGoal C_NoPlan C_NoQuestion C_NoRow C_NoRun C_NoTable C_NotPlain C_NothingAsked C_Outdated C_TooGreat) (f : Addr) (cdv : Value) (A : Around) (fr : List Env) (s : Shared) (H : Hp) (a : Addr) (oe : Obj) (C : Addr) (d : Option Addr) (fs : List (Str × DV)) (hz : Zc (.ref C) d oe) (hf : ∃ vs, oe.data = .fields vs) (kx : ExD K γ.S d fs) :
  PSs (L2H.cxH L2.CX0 P w0 K mg base N_law_other_kinds "_law_other_kinds" (defScope s_law_other_kinds) f cdv A fr s H L2.E0 (a, oe)) (defBody s_law_other_kinds) (tDS K (w_law_other_kinds (wIsP (isOf K) a C))) :=
  (dss_cons (ds_set (i := 1) sc_law_other_kinds.nd rfl (Or.inl rfl) (d_lst (da_cons (d_isP List.mem_cons_self hz hf kx (.blt (by rfl) T.b_ValueError (by decide +kernel) (by decide) (by decide)) (by rfl) T.b_isinstance (d_var 0)) (da_cons (d_isP List.mem_cons_self hz hf kx (.blt (by rfl) T.b_LookupError (by decide +kernel) (by decide) (by decide)) (by rfl) T.b_isinstance (d_var 0)) (da_cons (d_isP List.mem_cons_self hz hf kx (.blt (by rfl) T.b_ArithmeticError (by decide +kernel) (by decide) (by decide)) (by rfl) T.b_isinstance (d_var 0)) da_nil)))))
    (dss_cons (ds_set (i := 1) sc_law_other_kinds.nd rfl (Or.inl rfl) (d_add (d_var 1) (d_lst (da_cons (d_isP List.mem_cons_self hz hf kx (.blt (by rfl) T.b_TypeError (by decide +kernel) (by decide) (by decide)) (by rfl) T.b_isinstance (d_var 0)) (da_cons (d_isP List.mem_cons_self hz hf kx (.blt (by rfl) T.b_RuntimeError (by decide +kernel) (by decide) (by decide)) (by rfl) T.b_isinstance (d_var 0)) (da_cons (d_isP List.mem_cons_self hz hf kx (.blt (by rfl) T.b_AttributeError (by decide +kernel) (by decide) (by decide)) (by rfl) T.b_isinstance (d_var 0)) da_nil))))))
    (dss_one (ds_ret (d_add (d_var 1) (d_lst (da_cons (d_isP List.mem_cons_self hz hf kx (.blt (by rfl) T.b_NotImplementedError (by decide +kernel) (by decide) (by decide)) (by rfl) T.b_isinstance (d_var 0)) da_nil)))))))
end
end K01
set_option Elab.async false
set_option linter.all false
set_option maxRecDepth 100000
namespace K20
open PySem L2 Dz
def w_law_main (f_law_deck : WF) (f_law_names : WF) (f_law_tabled : WF) (f_law_known : WF) (f_law_question : WF) (f_law_draw : WF) (f_law_spoils : WF) (f_law_bent : WF) (f_law_question_right : WF) (f_law_column : WF) (f_is_question : WF) : WS :=
  (wSeq (wAsg (wCall 1 f_law_deck (wCons (wVar 0) wNil)) (wgName 1))
    (wSeq (wFor (sRng1 (wC (.int 4))) (wgName 2) (wSeq (wAsg (wCall 2 f_law_names (wCons (wVar 1) (wCons (wC (.int 16)) wNil))) (wgName 3))
    (wSeq (wAsg (wCall 3 f_law_tabled (wCons (wVar 1) (wCons (wVar 3) (wCons (wBin wAdd (wC (.int 1)) (wCall 2 f_law_draw (wCons (wVar 1) (wCons (wC (.int 3)) wNil)))) wNil)))) (wgName 4))
    (wSeq (wAsg (wDct [((.inr "tables"), (wVar 4)), ((.inr "columns"), (wCall 1 f_law_known (wCons (wVar 4) wNil)))]) (wgName 5))
    (wFor (sRng1 (wC (.int 3))) (wgName 6) (wSeq (wAsg (wCall 4 f_law_question (wCons (wVar 1) (wCons (wVar 5) (wCons (wSl (wVar 3) (wPart (wC (.int 8))) wNoPart) (wCons (wC (.int 3)) wNil))))) (wgName 7))
    (wSeq (wAsg (wBin wAddL (wLst (wCons (wVar 7) wNil)) (wCall 2 f_law_spoils (wCons (wVar 7) (wCons (wCall 3 f_law_column (wCons (wVar 1) (wCons (wVar 5) (wCons (wSl (wBin wIx (wVar 7) (wC (.int 0))) wNoPart (wPart (wC (.int 1)))) wNil)))) wNil)))) (wgName 8))
    (wSeq (wFor (sRng1 (wC (.int 10))) (wgName 9) (wSeq (wAsg (wCall 2 f_law_bent (wCons (wVar 1) (wCons (wVar 7) wNil))) (wgName 11))
    (wDrop (wApp (wVar 8) (wIf (wTest (wBin wEqL (wCall 2 f_law_draw (wCons (wVar 1) (wCons (wC (.int 2)) wNil))) (wC (.int 0)))) (wCall 2 f_law_bent (wCons (wVar 1) (wCons (wVar 11) wNil))) (wVar 11))))))
    (wSeq (wIfS (wNotT (wTest (wCall 2 f_law_question_right (wCons (wVar 4) (wCons (wVar 7) wNil))))) (wRet (wC (.bool false))) wNext)
    (wFor (sLst (wBin wAddI (wVar 8) (wLst (wCons (wC .none) (wCons (wC (.str "")) (wCons (wTup wNil) (wCons (wLst wNil) (wCons (wC (.dct [])) (wCons (wC (.int 7)) wNil))))))))) (wgName 10) (wSeq (wPar 12 13 (wCons (wB wRepr (wCons (wVar 10) wNil)) (wCons (wB wRepr (wCons (wCall 2 f_law_question_right (wCons (wVar 4) (wCons (wVar 10) wNil))) wNil)) wNil)))
    (wSeq (wIfS (wTest (wBin wNeL (wLst (wCons (wB wRepr (wCons (wCall 2 f_is_question (wCons (wVar 4) (wCons (wVar 10) wNil))) wNil)) (wCons (wB wRepr (wCons (wCallP 2 f_is_question [1, 0] (wCons (wVar 10) (wCons (wVar 4) wNil))) wNil)) wNil))) (wLst (wCons (wVar 13) (wCons (wVar 13) wNil))))) (wRet (wC (.bool false))) wNext)
    (wIfS (wTest (wBin wNeL (wB wRepr (wCons (wVar 10) wNil)) (wVar 12))) (wRet (wC (.bool false))) wNext)))))))))))))
    (wRet (wC (.bool true)))))
end K20
set_option Elab.async false
set_option linter.all false
set_option maxRecDepth 100000
set_option maxHeartbeats 1000000
namespace Qz
open PySem L2 Dz
theorem sl {n : Nat} (h : n ≤ 1000000) : n ≤ sizeLine := by rw [sizeLine_eq]; omega
theorem cut_to {ds : List DV} (i : Nat) : cutD ds none (some (i : Int)) = ds.take i := by
  unfold cutD
  have e0 : HT.sIx ds.length 0 none = 0 := rfl
  have e1 : HT.sIx ds.length ds.length (some (i : Int)) = min i ds.length := HT.sIx_nat _ _ _
  rw [e0, e1, List.drop_zero, Nat.sub_zero]
  rw [List.take_eq_take_iff]
  omega
theorem cut_from {ds : List DV} (i : Nat) : cutD ds (some (i : Int)) none = ds.drop i := by
  unfold cutD
  have e0 : HT.sIx ds.length 0 (some (i : Int)) = min i ds.length := HT.sIx_nat _ _ _
  have e1 : HT.sIx ds.length ds.length none = ds.length := rfl
  rw [e0, e1]
  by_cases h : i ≤ ds.length
  · rw [Nat.min_eq_left h, List.take_of_length_le (by rw [List.length_drop]; exact Nat.le_refl _)]
  · have h' : ds.length ≤ i := by omega
    rw [Nat.min_eq_right h', List.drop_of_length_le (Nat.le_refl _), List.drop_of_length_le h', List.take_nil]
theorem atI_of {α : Type} {xs : List α} {i : Nat} {x : α} (h : xs[i]? = some x) : atI xs (i : Int) = some x := by
  have hi := (List.getElem?_eq_some_iff.mp h).1
  unfold atI ixN
  rw [if_pos (by omega), if_pos (by omega)]
  exact h
theorem atI_zero {x : DV} {xs : List DV} : atI (x :: xs) 0 = some x := atI_of (i := 0) rfl
theorem eq_str {x y : Str} (b : Bool) {μ : Mh} {P : DV → Mh → Prop} (h : decide (x = y) = b) (h3 : P (.bool b) μ) : wEqL (.str x) (.str y) μ P := by
  show P (.bool (decide (x = y))) μ
  rw [h]
  exact h3
abbrev Dk (μ : Mh) (a c : Addr) (m : Nat) : Prop := HasDeck "total" μ a c m
abbrev drawW : WF := wfDraw "total"
abbrev pickW : WF := wfPick "total"
theorem draw_c {a c : Addr} {m : Nat} {many : Int} {μ : Mh} {Q : DV → Mh → Prop} (h0 : 0 < many) (h1 : many < 2 ^ 64) (h : Dk μ a c (m + 1)) (q : ∀ r μ', 0 ≤ r → r < many → Dk μ' a c m → OnlyDeck μ μ' a c → Q (.int r) μ') : drawW [.obj a, .int many] μ Q :=
  ⟨a, c, m, many, rfl, h0, h1, h, q⟩
theorem pick_c {a c : Addr} {m : Nat} {y : DV} {μ : Mh} {Q : DV → Mh → Prop} (l0 : 0 < (itemsD y).length) (l1 : (itemsD y).length ≤ 1000000) (h : Dk μ a c (m + 1)) (q : ∀ x μ', x ∈ itemsD y → Dk μ' a c m → OnlyDeck μ μ' a c → Q x μ') : pickW [.obj a, y] μ Q :=
  ⟨a, c, m, y, rfl, l0, sl l1, h, q⟩
def IsNm (d : DV) : Prop := ∃ x, d = .str x ∧ plainS x = true ∧ x.length ≤ 8
theorem IsNm.siz {d : DV} (h : IsNm d) : Siz 8 0 d := by
  obtain ⟨x, rfl, h1, h2⟩ := h
  exact (Siz.str h1).le h2 (Nat.le_refl _)
theorem nilS {p : Nat} : Sizs 0 p [] := Sizs.nil.le (Nat.le_refl 0) (Nat.zero_le _)
abbrev leS (a b : Str) : Prop := PySem.Spec.ltCps b.cps.toList a.cps.toList = false
end Qz
set_option Elab.async false
set_option linter.all false
set_option maxRecDepth 100000
set_option maxHeartbeats 1000000
namespace St
open PySem L2 Dz TL
theorem sl {n : Nat} (h : n ≤ 1000000) : n ≤ sizeLine := by rw [sizeLine_eq]; omega
theorem deep_refl {d : DV} (h : shapedD d = true) : deepEq d d = true := SeqAt.eqv_refl _ (SeqAt.canLay_of_shaped (Bool.and_eq_true_iff.mp h).2)
theorem eq_self (s : Str) (μ : Mh) (P : DV → Mh → Prop) (q : P (.bool true) μ) : wEqL (.str s) (.str s) μ P := Qz.eq_str true (decide_eq_true rfl) q
def PEv (w : WE) (ρ : Rho) (μ : Mh) (y : DV) : Prop := ∀ P : DV → Mh → Prop, P y μ → w ρ μ P
def PTv (w : WT) (ρ : Rho) (μ : Mh) (b : Bool) : Prop := ∀ P : Bool → Mh → Prop, P b μ → w ρ μ P
def PAv (w : WA) (ρ : Rho) (μ : Mh) (ys : List DV) : Prop := ∀ P : List DV → Mh → Prop, P ys μ → w ρ μ P
section
variable {ρ : Rho} {μ : Mh} {x y z u : DV} {wa wb wc we : WE} {wr : WA} {t : WT} {b : Bool} {i j n : Nat} {E : DEnds} {rest su bd : WS} {C a p : Addr} {f : Str} {fs : List (Str × DV)} {ys ds es : List DV} {P : DV → Mh → Prop} {PA : List DV → Mh → Prop} {w2 : W2} {wf : WF} {g : WG} {gs : WGs} {e : WE}
theorem pe_var (h : ρ[i]? = some (some y)) : PEv (wVar i) ρ μ y := fun P q => by
  unfold wVar
  simp only [h]
  exact q
theorem pe_c : PEv (wC y) ρ μ y := fun P q => q
theorem pe_bin {w2 : W2} (ha : PEv wa ρ μ x) (hb : PEv wb ρ μ y) (h : ∀ P, P z μ → w2 x y μ P) : PEv (wBin w2 wa wb) ρ μ z := fun P q => ha _ (hb _ (h P q))
theorem pa_nil : PAv wNil ρ μ [] := fun P q => q
theorem pa_cons (ha : PEv wa ρ μ x) (hr : PAv wr ρ μ ys) : PAv (wCons wa wr) ρ μ (x :: ys) := fun P q => ha _ (hr _ q)
theorem pe_b {wf : WB} (ha : PAv wr ρ μ ys) (h : ∀ P, P z μ → wf ys μ P) : PEv (wB wf wr) ρ μ z := fun P q => ha _ (h P q)
theorem pe_call {wf : WF} {n : Nat} (ha : PAv wr ρ μ ys) (hn : ys.length = n) (h : ∀ P, P z μ → wf ys μ P) : PEv (wCall n wf wr) ρ μ z := fun P q => ha _ ⟨hn, h P q⟩
theorem pe_tup (ha : PAv wr ρ μ ys) (hn : ys.length ≤ sizeLine) : PEv (wTup wr) ρ μ (.tup ys) := fun P q => ha _ ⟨hn, q⟩
theorem pe_lst (ha : PAv wr ρ μ ys) (hn : ys.length ≤ sizeLine) : PEv (wLst wr) ρ μ (.lst ys) := fun P q => ha _ ⟨hn, q⟩
theorem pt_test (h : PEv wa ρ μ (.bool b)) : PTv (wTest wa) ρ μ b := fun P q => h _ q
theorem pe_if (h : PTv t ρ μ b) (ha : b = true → PEv wa ρ μ x) (hb : b = false → PEv wb ρ μ x) : PEv (wIf t wa wb) ρ μ x := fun P q => h _ (by
  cases b with
  | true => exact ha rfl P q
  | false => exact hb rfl P q)
theorem pe_and {b c : Bool} (ha : PEv wa ρ μ (.bool b)) (hb : b = true → PEv wb ρ μ (.bool c)) : PEv (wAndV wa wb) ρ μ (.bool (b && c)) := fun P q => ha _ (by
  cases b with
  | true => exact hb rfl P q
  | false => exact q)
theorem pt_or {t2 : WT} {c : Bool} (h : PTv t ρ μ b) (k : b = false → PTv t2 ρ μ c) : PTv (wOrT t t2) ρ μ (b || c) := fun P q => h _ (by
  cases b with
  | true => exact q
  | false => exact k rfl P q)
theorem ret_v (h : PEv wa ρ μ y) (k : E.rt y μ) : wRet wa E ρ μ := h _ k
theorem seq_asg (h : PEv wa ρ μ y) (k : rest E (ρ.set i (some y)) μ) : wSeq (wAsg wa (wgName i)) rest E ρ μ := h _ k
theorem seq_if {su : WS} (h : PTv t ρ μ b) (ka : b = true → su { E with nx := rest E } ρ μ) (kb : b = false → rest E ρ μ) : wSeq (wIfS t su wNext) rest E ρ μ := h _ (by
  cases b with
  | true => exact ka rfl
  | false => exact kb rfl)
theorem pe_ixT {ds : List DV} {k : Int} (h : PEv wa ρ μ (.tup ds)) (hi : PEv wb ρ μ (.int k)) (e : atI ds k = some y) : PEv (wBin wIx wa wb) ρ μ y := fun P q => h _ (hi _ (by
  show atW (atI ds k) _
  rw [e]
  exact q))
theorem cons_v (h : PEv wa ρ μ x) (k : wr ρ μ fun xs μ2 => PA (x :: xs) μ2) : wCons wa wr ρ μ PA := h _ k
theorem cons_ (k : wa ρ μ fun x μ1 => wr ρ μ1 fun xs μ2 => PA (x :: xs) μ2) : wCons wa wr ρ μ PA := k
theorem bin_ (k : wa ρ μ fun x μ1 => wb ρ μ1 fun y μ2 => w2 x y μ2 P) : wBin w2 wa wb ρ μ P := k
theorem call_ (ha : PAv wr ρ μ ys) (hn : ys.length = n) (k : wf ys μ P) : wCall n wf wr ρ μ P := ha _ ⟨hn, k⟩
theorem ret_ (k : wa ρ μ fun d μ1 => E.rt d μ1) : wRet wa E ρ μ := k
theorem seq_ {w : WE} (k : w ρ μ fun d μ1 => rest E (ρ.set i (some d)) μ1) : wSeq (wAsg w (wgName i)) rest E ρ μ := k
theorem ifs_v (h : PTv t ρ μ b) (ka : b = true → su E ρ μ) (kb : b = false → E.nx ρ μ) : wIfS t su wNext E ρ μ := h _ (by
  cases b with
  | true => exact ka rfl
  | false => exact kb rfl)
theorem pe_catL {xs ys : List DV} (h : PEv wa ρ μ (.lst xs)) (k : PEv wb ρ μ (.lst ys)) (l : xs.length + ys.length ≤ sizeLine) : PEv (wBin wAdd wa wb) ρ μ (.lst (xs ++ ys)) := fun P q => h _ (k _ ⟨l, q⟩)
theorem bin_r (ha : PEv wa ρ μ x) (k : wb ρ μ fun y μ2 => w2 x y μ2 P) : wBin w2 wa wb ρ μ P := ha _ k
theorem pe_dropL {k : Nat} (h : PEv we ρ μ (.lst ds)) : PEv (wSl we (wPart (wC (.int (k : Nat)))) wNoPart) ρ μ (.lst (ds.drop k)) := fun P q => h _ (by
  show P (.lst (cutD ds (some (k : Int)) none)) μ
  rw [Qz.cut_from]
  exact q)
theorem pe_ixL {k : Int} (h : PEv wa ρ μ (.lst ds)) (hi : PEv wb ρ μ (.int k)) (e : atI ds k = some y) : PEv (wBin wIx wa wb) ρ μ y := fun P q => h _ (hi _ (by
  show atW (atI ds k) _
  rw [e]
  exact q))
def tru (d : DV) (X Y : Prop) : Prop := match d with
  | .bool true => Y
  | .bool false => X
  | _ => False
theorem tru_ok {X Y : Prop} (h : Y) : tru (.bool true) X Y := h
theorem notT_tru {k : Mh → Prop} (h : wa ρ μ fun d μ1 => tru d (E.rt (.bool false) μ1) (k μ1)) (Z : Prop) : (wNotT (wTest wa)) ρ μ fun b μ1 => match b with | true => E.rt (.bool false) μ1 | false => k μ1 := by
  have e : (fun (d : DV) (μ1 : Mh) => tru d (E.rt (.bool false) μ1) (k μ1)) = fun d μ1 => (match d with | .bool b => (fun (b : Bool) (μ1 : Mh) => (match (!b) with | true => E.rt (.bool false) μ1 | false => k μ1)) b μ1 | _ => False) := by
    funext d μ1
    cases d with
    | bool b => cases b <;> rfl
    | _ => rfl
  rw [e] at h
  exact h
/-- if not A: return False -/
theorem seq_not (h : wa ρ μ fun d μ1 => tru d (E.rt (.bool false) μ1) (rest E ρ μ1)) : wSeq (wIfS (wNotT (wTest wa)) (wRet (wC (.bool false))) wNext) rest E ρ μ := notT_tru (E := E) (k := fun μ1 => rest E ρ μ1) h True
theorem seq_par (k : wa ρ μ fun x μ1 => wb ρ μ1 fun y μ2 => rest E ((ρ.set i (some x)).set j (some y)) μ2) : wSeq (wPar i j (wCons wa (wCons wb wNil))) rest E ρ μ := k
theorem ne_self (s : Str) (μ : Mh) (P : DV → Mh → Prop) (q : P (.bool false) μ) : wNeL (.str s) (.str s) μ P := by
  show wEqL (.str s) (.str s) μ (fun d μ1 => match d with | .bool b => P (.bool (!b)) μ1 | _ => False)
  exact eq_self s μ _ q
def fls (d : DV) (X Y : Prop) : Prop := match d with
  | .bool true => X
  | .bool false => Y
  | _ => False
theorem fls_ok {X Y : Prop} (h : Y) : fls (.bool false) X Y := h
theorem seq_ifF (h : wa ρ μ fun d μ1 => fls d (E.rt (.bool false) μ1) (rest E ρ μ1)) : wSeq (wIfS (wTest wa) (wRet (wC (.bool false))) wNext) rest E ρ μ := by
  have e : (fun (d : DV) (μ1 : Mh) => fls d (E.rt (.bool false) μ1) (rest E ρ μ1)) = fun d μ1 => (match d with | .bool b => (fun (b : Bool) (μ1 : Mh) => (match b with | true => E.rt (.bool false) μ1 | false => rest E ρ μ1)) b μ1 | _ => False) := by
    funext d μ1
    cases d with
    | bool b => cases b <;> rfl
    | _ => rfl
  rw [e] at h
  exact h
theorem lc_rng {n : Nat} {vl : List Nat} {g : WG} {t : WT} (hn : n ≤ 1000) (k : compW g t e (wipeD ρ vl) (rngD 0 n) [] μ fun acc μ2 => P (.lst acc) μ2) : wLc (sRng1 (wC (.int (n : Nat)))) g t e vl ρ μ P := ⟨by omega, by omega, by
  rw [Int.toNat_natCast]
  exact k⟩
theorem pt_and {t t2 : WT} {b c : Bool} (h : PTv t ρ μ b) (k : b = true → PTv t2 ρ μ c) : PTv (wAndT t t2) ρ μ (b && c) := fun P q => h _ (by
  cases b with
  | true => exact k rfl P q
  | false => exact q)
end
/-- all but the deck stays -/
def KpD (a c : Addr) (μ μ' : Mh) : Prop := ∀ b o, b ≠ a → b ≠ c → μ b = some o → μ' b = some o
theorem KpD.refl {a c : Addr} {μ : Mh} : KpD a c μ μ := fun _ _ _ _ h => h
theorem KpD.trans {a c : Addr} {μ μ' μ'' : Mh} (h : KpD a c μ μ') (h' : KpD a c μ' μ'') : KpD a c μ μ'' := fun b o x y e => h' b o x y (h b o x y e)
abbrev Dk (μ : Mh) (a c : Addr) (m : Nat) : Prop := HasDeck "mixed" μ a c m
def abc : Str := "abcdefghijklmnopqrstuvwxyz"
def abcL : List Nat := [97, 98, 99, 100, 101, 102, 103, 104, 105, 106, 107, 108, 109, 110, 111, 112, 113, 114, 115, 116, 117, 118, 119, 120, 121, 122]
end St
set_option Elab.async false
set_option linter.all false
set_option maxRecDepth 100000
set_option maxHeartbeats 1000000
namespace St
open PySem L2 Dz TL
abbrev cs (x : Str) : List Nat := x.cps.toList
/-- a name: one to eight letters -/
structure Nm (w : Str) : Prop where
  pos : 0 < w.length
  few : w.length ≤ 8
  abc : ∀ c ∈ cs w, c ∈ abcL
theorem abc_small : ∀ c ∈ abcL, c < 128 := by decide
theorem Nm.plain {w : Str} (h : Nm w) : plainS w = true := by
  unfold plainS
  rw [List.all_eq_true]
  exact fun c hc => decide_eq_true (Nat.lt_trans (abc_small c (h.abc c hc)) (by decide))
def nmB (w : Str) : Bool := decide (0 < w.length) && (decide (w.length ≤ 8) && (cs w).all fun c => decide (c ∈ abcL))
theorem nm_of {w : Str} (h : nmB w = true) : Nm w := by
  unfold nmB at h
  rw [Bool.and_eq_true, Bool.and_eq_true, List.all_eq_true] at h
  exact ⟨of_decide_eq_true h.1, of_decide_eq_true h.2.1, fun c hc => of_decide_eq_true (h.2.2 c hc)⟩
end St
set_option Elab.async false
set_option linter.all false
set_option maxRecDepth 100000
set_option maxHeartbeats 1000000
namespace St
open PySem L2 Dz TL PyProof.Rows
def isNmD : DV → Bool
  | .str x => nmB x
  | _ => false
def txts : List DV → Option (List Str)
  | [] => some []
  | .str x :: r => (txts r).map (x :: ·)
  | _ :: _ => none
theorem txts_map : ∀ ks : List Str, txts (ks.map .str) = some ks
  | [] => rfl
  | k :: ks => by
    show (txts (ks.map .str)).map (k :: ·) = _
    rw [txts_map ks]
    rfl
theorem txts_some : ∀ {ds : List DV} {ks : List Str}, txts ds = some ks → ds = ks.map .str
  | [], _, h => by cases h; rfl
  | d :: r, ks, h => by
    cases d with
    | str x =>
      have h : (txts r).map (x :: ·) = some ks := h
      cases e : txts r with
      | none => rw [e] at h; cases h
      | some zs =>
        rw [e] at h
        cases h
        rw [txts_some e]
        rfl
    | _ => cases h
/-- rising, each once -/
def asc (ks : List Str) : Bool := decide ks.Nodup && sortedS ks
/-- how many there are, each once -/
theorem few_nodup : ∀ (ks ys : List Str), ys.Nodup → (∀ y ∈ ys, y ∈ ks) → ys.length ≤ ks.length
  | [], ys, _, h => by
    cases ys with
    | nil => exact Nat.le_refl _
    | cons y _ => exact absurd (h y List.mem_cons_self) List.not_mem_nil
  | k :: ks, ys, nd, h => by
    have ih := few_nodup ks (ys.erase k) (nd.erase k) fun y hy => by
      have h1 := (nd.mem_erase_iff).mp hy
      exact (List.mem_cons.mp (h y h1.2)).resolve_left h1.1
    have hl := List.length_erase (a := k) (l := ys)
    rw [List.length_cons]
    split at hl <;> omega
def kindsL : List Str := ["nothing", "number", "word"]
def isKs : DV → Bool
  | .tup ds => match txts ds with
    | some ks => !ks.isEmpty && (asc ks && ks.all fun k => decide (k ∈ kindsL))
    | none => false
  | _ => false
def isCol : DV → Bool
  | .tup [a, b] => isNmD a && isKs b
  | _ => false
def colNm : DV → Str
  | .tup (.str x :: _) => x
  | _ => Str.empty
def isCols : DV → Bool
  | .tup ds => (decide (0 < ds.length) && decide (ds.length ≤ 4)) && (ds.all isCol && decide (ds.map colNm).Nodup)
  | _ => false
def namesOf : DV → List Str
  | .tup ds => ds.map colNm
  | _ => []
def isMk (own : List Str) : DV → Bool
  | .tup ds => match txts ds with
    | some ks => asc ks && ks.all fun k => decide (k ∈ own)
    | none => false
  | _ => false
def verd (n c k i : DV) : Option Str :=
  if isNmD n = false then some "name" else if isCols c = false then some "columns" else if isMk (namesOf c) k = false then some "keys" else if isMk (namesOf c) i = false then some "indexes" else none
def KsOk (d : DV) : Prop := Siz 60 20 d ∧ noDct d = true
/-- a column, or what stands in its place -/
def ColOk (d : DV) : Prop := Siz 100 20 d ∧ ∀ a b, d = .tup [a, b] → KsOk b
def ColsOk (d : DV) : Prop := Siz 1000 20 d ∧ ∀ ds, d = .tup ds → ∀ e ∈ ds, ColOk e
def MkOk (d : DV) : Prop := Siz 400 20 d ∧ ∀ es, d = .tup es → es.length ≤ 60
end St
set_option Elab.async false
set_option linter.all false
set_option maxRecDepth 100000
set_option maxHeartbeats 1000000
namespace St
open PySem L2 Dz TL PyProof.Rows
end St
set_option Elab.async false
set_option linter.all false
set_option maxRecDepth 100000
set_option maxHeartbeats 1000000
namespace St
open PySem L2 Dz TL PyProof.Rows
theorem isCol_ex {d : DV} (h : isCol d = true) : ∃ a b, d = .tup [.str a, b] ∧ nmB a = true ∧ isKs b = true := by
  cases d with
  | tup es =>
    match es, h with
    | [a, b], h =>
      have h : (isNmD a && isKs b) = true := h
      rw [Bool.and_eq_true] at h
      cases a with
      | str x => exact ⟨x, b, rfl, h.1, h.2⟩
      | _ => cases h.1
  | _ => cases h
theorem isCols_ex {c : DV} (h : isCols c = true) : ∃ es, c = .tup es ∧ 0 < es.length ∧ es.length ≤ 4 ∧ (∀ e ∈ es, isCol e = true) ∧ (es.map colNm).Nodup := by
  cases c with
  | tup es =>
    have h : ((decide (0 < es.length) && decide (es.length ≤ 4)) && (es.all isCol && decide (es.map colNm).Nodup)) = true := h
    rw [Bool.and_eq_true, Bool.and_eq_true, Bool.and_eq_true, decide_eq_true_eq, decide_eq_true_eq, decide_eq_true_eq, List.all_eq_true] at h
    exact ⟨es, rfl, h.1.1, h.1.2, h.2.1, h.2.2⟩
  | _ => cases h
end St
set_option Elab.async false
set_option linter.all false
set_option maxRecDepth 100000
set_option maxHeartbeats 1000000
namespace St
open PySem L2 Dz TL PyProof.Rows
end St
set_option Elab.async false
set_option linter.all false
set_option maxRecDepth 100000
set_option maxHeartbeats 1000000
namespace St
open PySem L2 Dz TL PyProof.Rows
theorem isKs_tup {es : List DV} : isKs (.tup es) = match txts es with | some ks => !ks.isEmpty && (asc ks && ks.all fun k => decide (k ∈ kindsL)) | none => false := rfl
theorem isMk_tup {own : List Str} {es : List DV} : isMk own (.tup es) = match txts es with | some ks => asc ks && ks.all fun k => decide (k ∈ own) | none => false := rfl
end St
set_option Elab.async false
set_option linter.all false
set_option maxRecDepth 100000
set_option maxHeartbeats 1000000
namespace St
open PySem L2 Dz TL PyProof.Rows
def kindTexts : List (List Str) := [["nothing", "number", "word"], ["number"], ["word"], ["nothing", "number"], ["number", "word"], ["nothing"], ["nothing", "word"]]
abbrev ksD (ks : List Str) : DV := .tup (ks.map .str)
def kindsTab : List DV := kindTexts.map ksD
theorem kt_all : ∀ ks ∈ kindTexts, ks ≠ [] ∧ ks.length ≤ 3 ∧ (∀ k ∈ ks, k ∈ kindsL) ∧ asc ks = true := by decide +kernel
theorem kinds_small : ∀ k ∈ kindsL, plainS k = true ∧ k.length ≤ 8 := by decide +kernel
theorem kd_ex {d : DV} (h : d ∈ kindsTab) : ∃ ks, d = ksD ks ∧ ks ≠ [] ∧ ks.length ≤ 3 ∧ (∀ k ∈ ks, k ∈ kindsL) ∧ asc ks = true := by
  obtain ⟨ks, hk, rfl⟩ := List.mem_map.mp h
  exact ⟨ks, rfl, kt_all ks hk⟩
theorem siz_small {x : Str} (h : plainS x = true) (hl : x.length ≤ 8) : Siz 8 0 (.str x) := (Siz.str h).le hl (Nat.le_refl _)
theorem sizs_strs {ks : List Str} {n : Nat} (h : ∀ k ∈ ks, plainS k = true ∧ k.length ≤ 8) (hl : ks.length ≤ n) : Sizs (n * 9) 0 (ks.map .str) := by
  refine (Sizs.all (N := 8) fun d hd => ?_).le ?_ (Nat.le_refl _)
  · obtain ⟨k, hk, rfl⟩ := List.mem_map.mp hd
    exact siz_small (h k hk).1 (h k hk).2
  · rw [List.length_map]
    exact Nat.mul_le_mul_right 9 hl
theorem noDcts_strs : ∀ ks : List Str, noDcts (ks.map .str) = true
  | [] => rfl
  | k :: ks => by
    show (true && noDcts (ks.map .str)) = true
    rw [noDcts_strs ks]
    rfl
theorem kd_siz {d : DV} (h : d ∈ kindsTab) : Siz 27 1 d := by
  obtain ⟨ks, rfl, _, hl, hk, _⟩ := kd_ex h
  exact Siz.tup (sizs_strs (n := 3) (fun k hk' => kinds_small k (hk k hk')) hl)
theorem kd_noD {d : DV} (h : d ∈ kindsTab) : noDct d = true := by
  obtain ⟨ks, rfl, _, hl, hk, _⟩ := kd_ex h
  exact noDcts_strs ks
theorem kd_isKs {d : DV} (h : d ∈ kindsTab) : isKs d = true := by
  obtain ⟨ks, rfl, hne, hl, hk, ha⟩ := kd_ex h
  show (match txts (ks.map .str) with | some ks => !ks.isEmpty && (asc ks && ks.all fun k => decide (k ∈ kindsL)) | none => false) = true
  rw [txts_map]
  have h1 : ks.isEmpty = false := by
    cases ks with
    | nil => exact absurd rfl hne
    | cons _ _ => rfl
  have h2 : (ks.all fun k => decide (k ∈ kindsL)) = true := List.all_eq_true.mpr fun k hk' => decide_eq_true (hk k hk')
  simp only [h1, ha, h2]
  rfl
theorem tupB_ {ρ : Rho} {μ : Mh} {wa : WE} {P : DV → Mh → Prop} (k : wa ρ μ fun d μ1 => wTuple [d] μ1 P) : wB wTuple (wCons wa wNil) ρ μ P := k
end St
set_option Elab.async false
set_option linter.all false
set_option maxRecDepth 100000
set_option maxHeartbeats 1000000
namespace St
open PySem L2 Dz TL PyProof.Rows
section
variable {ρ : Rho} {μ : Mh} {wa wb we : WE} {ds es : List DV} {P : DV → Mh → Prop} {n : Nat} {wr : WA}
theorem tp (h : PAv wr ρ μ es) (hl : es.length ≤ 30) : PEv (wTup wr) ρ μ (.tup es) := pe_tup h (sl (by omega))
theorem lp (h : PAv wr ρ μ es) (hl : es.length ≤ 30) : PEv (wLst wr) ρ μ (.lst es) := pe_lst h (sl (by omega))
end
theorem siz1 {d : DV} {N p : Nat} (h : Siz N p d) : Sizs (N + 1) p [d] := (Sizs.cons h (Sizs.nil.le (Nat.le_refl 0) (Nat.zero_le p))).le (by omega) (Nat.le_refl _)
theorem nm_siz {w : Str} (h : Nm w) (p : Nat) : Siz 8 p (.str w) := (Siz.str h.plain).le h.few (Nat.zero_le _)
structure ColIn (e : DV) : Prop where
  ex : ∃ w kd, e = .tup [.str w, kd] ∧ Nm w ∧ kd ∈ kindsTab
def ColS (e : DV) : Prop := Siz 60 5 e ∧ ∀ a b, e = .tup [a, b] → KsOk b
theorem siz2 {a b : DV} {N M p : Nat} (ha : Siz N p a) (hb : Siz M p b) : Siz (N + M + 2) (p + 1) (.tup [a, b]) := Siz.tup ((Sizs.cons ha (siz1 hb)).le (by omega) (Nat.le_refl _))
theorem colS_pair {a b : DV} (ha : Siz 20 3 a) (hb : Siz 36 3 b) (hn : noDct b = true) : ColS (.tup [a, b]) := ⟨(siz2 ha hb).le (by decide) (by decide), fun x y e => by
  have e := DV.tup.inj e
  have : b = y := (List.cons.inj (List.cons.inj e).2).1
  rw [← this]
  exact ⟨hb.le (by decide) (by decide), hn⟩⟩
theorem ColIn.s {e : DV} (h : ColIn e) : ColS e := by
  obtain ⟨w, kd, rfl, hw, hk⟩ := h.ex
  exact colS_pair ((nm_siz hw 3).le (by decide) (by decide)) ((kd_siz hk).le (by decide) (by decide)) (kd_noD hk)
theorem colsOk_of {es : List DV} (h : ∀ e ∈ es, ColS e) (hl : es.length ≤ 12) : ColsOk (.tup es) := by
  refine ⟨(Siz.tup (Sizs.all fun e he => (h e he).1)).le ?_ (by decide), fun ds hd e he => ?_⟩
  · have := Nat.mul_le_mul_right 61 hl
    omega
  · have hd := DV.tup.inj hd
    rw [← hd] at he
    exact ⟨(h e he).1.le (by decide) (by decide), (h e he).2⟩
end St
set_option Elab.async false
set_option linter.all false
set_option maxRecDepth 100000
set_option maxHeartbeats 1000000
namespace St
open PySem L2 Dz TL PyProof.Rows
end St
set_option Elab.async false
set_option linter.all false
set_option maxRecDepth 100000
set_option maxHeartbeats 1000000
namespace St
open PySem L2 Dz TL PyProof.Rows
structure FourOk (n c k i : DV) : Prop where
  n : Siz 1000 20 n
  c : ColsOk c
  k : MkOk k
  i : MkOk i
end St
set_option Elab.async false
set_option linter.all false
set_option maxRecDepth 100000
set_option maxHeartbeats 1000000
namespace St
open PySem L2 Dz TL PyProof.Rows
structure TB where
  nm : Str
  cs : DV
  ks : DV
  ixs : DV
  rows : List (Key × DV)
  nxt : Int
abbrev TB.tup (t : TB) : DV := .tup [.str t.nm, t.cs, t.ks, t.ixs]
def madeK (ts : List TB) : List (Key × DV) := ts.map fun t => (.inr t.nm, t.tup)
def heldK : List TB → List Addr → List (Key × DV)
  | t :: ts, r :: rs => (.inr t.nm, .obj r) :: heldK ts rs
  | _, _ => []
def nextsK (ts : List TB) : List (Key × DV) := ts.map fun t => (.inr t.nm, .int t.nxt)
abbrev fldsK (m h x : Addr) : List (Str × DV) := [("made", .obj m), ("held", .obj h), ("nexts", .obj x)]
structure StAt (C : Addr) (μ : Mh) (s m h x : Addr) (rs : List Addr) (ts : List TB) : Prop where
  obj : μ s = some (.ins C (fldsK m h x))
  md : μ m = some (.dct (madeK ts))
  hd : μ h = some (.dct (heldK ts rs))
  nx : μ x = some (.dct (nextsK ts))
  len : rs.length = ts.length
  rw_ : ∀ (i : Nat) t r, ts[i]? = some t → rs[i]? = some r → μ r = some (.dct t.rows)
  nd : (s :: m :: h :: x :: rs).Nodup
  nn : (ts.map (·.nm)).Nodup
/-- all but what stands in F is as it was -/
def KpO (F : List Addr) (μ μ' : Mh) : Prop := ∀ b o, b ∉ F → μ b = some o → μ' b = some o
theorem StAt.kp {C : Addr} {μ μ' : Mh} {s m h x : Addr} {rs : List Addr} {ts : List TB} {F : List Addr} (a : StAt C μ s m h x rs ts) (k : KpO F μ μ') (hf : ∀ b ∈ s :: m :: h :: x :: rs, b ∉ F) : StAt C μ' s m h x rs ts :=
  ⟨k _ _ (hf s (by simp)) a.obj, k _ _ (hf m (by simp)) a.md, k _ _ (hf h (by simp)) a.hd, k _ _ (hf x (by simp)) a.nx, a.len, fun i t r h1 h2 => k _ _ (hf r (by simp [List.mem_of_getElem? h2])) (a.rw_ i t r h1 h2), a.nd, a.nn⟩
theorem StAt.there {C : Addr} {μ : Mh} {s m h x : Addr} {rs : List Addr} {ts : List TB} (a : StAt C μ s m h x rs ts) : ∀ b ∈ s :: m :: h :: x :: rs, ∃ o, μ b = some o := fun b hb => by
  simp only [List.mem_cons] at hb
  rcases hb with rfl | rfl | rfl | rfl | hb
  · exact ⟨_, a.obj⟩
  · exact ⟨_, a.md⟩
  · exact ⟨_, a.hd⟩
  · exact ⟨_, a.nx⟩
  · obtain ⟨i, hi⟩ := List.getElem?_of_mem hb
    have hl : i < ts.length := by rw [← a.len]; exact (List.getElem?_eq_some_iff.mp hi).1
    exact ⟨_, a.rw_ i _ b (List.getElem?_eq_getElem hl) hi⟩
end St
set_option Elab.async false
set_option linter.all false
set_option maxRecDepth 100000
set_option maxHeartbeats 1000000
namespace St
open PySem L2 Dz TL PyProof.Rows
def taken (n : DV) (ts : List TB) : Bool := match n with
  | .str y => decide (y ∈ ts.map (·.nm))
  | _ => false
/-- what a call of make comes to -/
def outMake (cT cB : Addr) (n c k i : DV) (ts : List TB) (XP : Addr → List (Str × DV) → Prop) (ok : Str → Prop) : Prop :=
  if taken n ts = true then XP cT [("name", n)] else match verd n c k i with
    | some y => XP cB [("part", .str y)]
    | none => ∀ y, n = .str y → ok y
def wfMake (C cT cB : Addr) : WFX := fun ds μ Q XP => ∃ s m h x rs ts n c k i, ds = [.obj s, n, c, k, i] ∧ StAt C μ s m h x rs ts ∧ FourOk n c k i ∧ ts.length ≤ 1000 ∧
  outMake cT cB n c k i ts (fun C fs => XP C fs μ) fun y => ∀ r μ', StAt C μ' s m h x (rs ++ [r]) (ts ++ [⟨y, c, k, i, [], 0⟩]) → KpO [m, h, x] μ μ' → μ r = none → Q .none μ'
theorem raise_ {xr : XR} {C : Addr} {f : Str} {wa : WE} {E : DEnds} {ρ : Rho} {μ : Mh} {d : DV} (h : PEv wa ρ μ d) (q : xr C [(f, d)] ρ μ) : wRaise xr (wMkE C [f] (wCons wa wNil)) E ρ μ := h _ ⟨rfl, q⟩
end St
set_option Elab.async false
set_option linter.all false
set_option maxRecDepth 100000
set_option maxHeartbeats 1000000
namespace St
open PySem L2 Dz TL PyProof.Rows
theorem KpO.refl {F : List Addr} {μ : Mh} : KpO F μ μ := fun _ _ _ h => h
theorem KpO.trans {F : List Addr} {μ μ' μ'' : Mh} (h : KpO F μ μ') (h' : KpO F μ' μ'') : KpO F μ μ'' := fun b o n e => h' b o n (h b o n e)
theorem KpO.sub {F G : List Addr} {μ μ' : Mh} (h : KpO F μ μ') (s : ∀ b ∈ F, b ∈ G) : KpO G μ μ' := fun b o n e => h b o (fun z => n (s b z)) e
end St
set_option Elab.async false
set_option linter.all false
set_option maxRecDepth 100000
set_option maxHeartbeats 1000000
namespace St
open PySem L2 Dz TL PyProof.Rows
/-- tables whose parts may be compared -/
def TOk (ts : List TB) : Prop := ∀ t ∈ ts, shapedD t.tup = true ∧ (∀ kv ∈ t.rows, shapedD kv.2 = true) ∧ (t.rows.map (·.1)).Nodup
theorem methX_ {ρ : Rho} {μ : Mh} {wo : WE} {wa wk : WA} {xr : XR} {C a : Addr} {m : Str} {n1 n2 n : Nat} {wf : WFX} {gD : List DV → List DV → List DV} {ds zs : List DV} {fs : List (Str × DV)} {P : DV → Mh → Prop} (ho : PEv wo ρ μ (.obj a)) (hi : μ a = some (.ins C fs)) (hl : fs.lookup m = none) (ha : PAv wa ρ μ ds) (hk : PAv wk ρ μ zs)
    (h1 : ds.length = n1) (h2 : zs.length = n2) (h3 : (gD (.obj a :: ds) zs).length = n) (k : wf (gD (.obj a :: ds) zs) μ P fun C fs μ4 => xr C fs ρ μ4) : wMethX xr C m n1 n2 n wf gD wo wa wk ρ μ P := ho _ ⟨by
  show (match μ a with | some (.ins C' fs) => C' = C ∧ fs.lookup m = none | _ => False)
  rw [hi]
  exact ⟨rfl, hl⟩, ha _ (hk _ ⟨h1, h2, h3, k⟩)⟩
theorem drop_ {ρ : Rho} {μ : Mh} {w : WE} {E : DEnds} (k : w ρ μ fun _ μ1 => E.nx ρ μ1) : wDrop w E ρ μ := k
end St
set_option Elab.async false
set_option linter.all false
set_option maxRecDepth 100000
set_option maxHeartbeats 1000000
namespace St
open PySem L2 Dz TL PyProof.Rows
/-- tables that were found right, without rows -/
def TsOk (ts : List TB) : Prop := ∀ t ∈ ts, t.rows = [] ∧ FourOk (.str t.nm) t.cs t.ks t.ixs ∧ verd (.str t.nm) t.cs t.ks t.ixs = none
theorem verd_all {n c k i : DV} (h : verd n c k i = none) : isNmD n = true ∧ isCols c = true ∧ isMk (namesOf c) k = true ∧ isMk (namesOf c) i = true := by
  unfold verd at h
  split at h
  · cases h
  rename_i h1
  split at h
  · cases h
  rename_i h2
  split at h
  · cases h
  rename_i h3
  split at h
  · cases h
  rename_i h4
  simp only [Bool.not_eq_false] at h1 h2 h3 h4
  exact ⟨h1, h2, h3, h4⟩
theorem isMk_noD {own : List Str} {k : DV} (h : isMk own k = true) : noDct k = true := by
  cases k with
  | tup es =>
    rw [isMk_tup] at h
    cases e : txts es with
    | none => rw [e] at h; cases h
    | some ks => rw [txts_some e]; exact noDcts_strs ks
  | _ => cases h
theorem isKs_noD {k : DV} (h : isKs k = true) : noDct k = true := by
  cases k with
  | tup es =>
    rw [isKs_tup] at h
    cases e : txts es with
    | none => rw [e] at h; cases h
    | some ks => rw [txts_some e]; exact noDcts_strs ks
  | _ => cases h
theorem noDcts_all : ∀ {es : List DV}, (∀ e ∈ es, noDct e = true) → noDcts es = true
  | [], _ => rfl
  | e :: es, h => by
    show (noDct e && noDcts es) = true
    rw [h e List.mem_cons_self, noDcts_all fun x hx => h x (List.mem_cons_of_mem _ hx)]
    rfl
theorem isCols_noD {c : DV} (h : isCols c = true) : noDct c = true := by
  obtain ⟨es, rfl, _, _, hc, _⟩ := isCols_ex h
  refine noDcts_all fun e he => ?_
  obtain ⟨a, b, rfl, _, hb⟩ := isCol_ex (hc e he)
  show (true && (noDct b && true)) = true
  rw [isKs_noD hb]
  rfl
theorem four_siz {n c k i : DV} (h : FourOk n c k i) : Siz 2810 21 (.tup [n, c, k, i]) := Siz.tup ((Sizs.cons (h.n.le (Nat.le_refl _) (Nat.le_refl _)) (Sizs.cons h.c.1 (Sizs.cons h.k.1 (siz1 h.i.1)))).le (by decide) (Nat.le_refl _))
theorem tup_shaped {t : TB} (h : FourOk (.str t.nm) t.cs t.ks t.ixs) (v : verd (.str t.nm) t.cs t.ks t.ixs = none) : shapedD t.tup = true := by
  obtain ⟨_, hc, hk, hi⟩ := verd_all v
  refine (four_siz h).shaped (by decide) ?_
  show (true && (noDct t.cs && (noDct t.ks && (noDct t.ixs && true)))) = true
  rw [isCols_noD hc, isMk_noD hk, isMk_noD hi]
  rfl
theorem TsOk.tok {ts : List TB} (h : TsOk ts) : TOk ts := fun t ht => by
  obtain ⟨h1, h2, h3⟩ := h t ht
  refine ⟨tup_shaped h2 h3, fun kv hkv => ?_, ?_⟩
  · rw [h1] at hkv; cases hkv
  · rw [h1]; exact List.nodup_nil
section
variable {ρ : Rho} {μ : Mh} {w wo : WE} {wa : WA} {C a : Addr} {fs : List (Str × DV)} {m : Str} {n : Nat} {wf : WF} {P : DV → Mh → Prop} {d : DV} {kvs : List (Key × DV)} {ds : List DV} {E : DEnds} {rest : WS} {i j l : Nat} {wb wc : WE}
theorem repr_ {N p : Nat} (k : w ρ μ fun d μ1 => Shows d ∧ P (.str (shownD d)) μ1) : wB wRepr (wCons w wNil) ρ μ P := k
end
end St
set_option Elab.async false
set_option linter.all false
set_option maxRecDepth 100000
set_option maxHeartbeats 1000000
namespace St
open PySem L2 Dz TL PyProof.Rows
def inR (i : Int) : Bool := decide (-1000000000000 ≤ i) && decide (i ≤ 1000000000000)
def kindV : DV → Option Str
  | .none => some "nothing"
  | .int i => if inR i = true then some "number" else none
  | .str x => if nmB x = true then some "word" else none
  | _ => none
abbrev colD (c : Str × List Str) : DV := .tup [.str c.1, ksD c.2]
structure TD where
  nm : Str
  cols : List (Str × List Str)
  ks : List Str
  ixs : List Str
abbrev TD.csD (d : TD) : DV := .tup (d.cols.map colD)
abbrev TD.four (d : TD) : DV := .tup [.str d.nm, d.csD, .tup (d.ks.map .str), .tup (d.ixs.map .str)]
abbrev TD.names (d : TD) : List Str := d.cols.map (·.1)
structure TDok (d : TD) : Prop where
  nm : Nm d.nm
  ne : d.cols ≠ []
  few : d.cols.length ≤ 4
  cnm : ∀ c ∈ d.cols, Nm c.1 ∧ c.2 ∈ kindTexts
  nd : d.names.Nodup
  mks : (∀ k ∈ d.ks, k ∈ d.names) ∧ d.ks.Nodup ∧ d.ks.Pairwise Qz.leS
  rks : (∀ k ∈ d.ixs, k ∈ d.names) ∧ d.ixs.Nodup ∧ d.ixs.Pairwise Qz.leS
def fitsV (v : DV) (c : Str × List Str) : Bool := match kindV v with
  | some k => decide (k ∈ c.2)
  | none => false
/-- the first value that does not fit -/
def badAt (cols : List (Str × List Str)) (vs : List DV) : Option Nat := (List.range (min vs.length cols.length)).find? fun i => !fitsV (vs.getD i .none) (cols.getD i (Str.empty, []))
def wrongAt (cols : List (Str × List Str)) (vs : List DV) : Option Nat := match badAt cols vs with
  | some i => some i
  | none => if vs.length = cols.length then none else some cols.length
/-- the first place of a word -/
def plc (ns : List Str) (k : Str) : Nat := ns.findIdx fun n => decide (n = k)
theorem TDok.plain {d : TD} (h : TDok d) : ∀ n ∈ d.names, plainS n = true := fun n hn => by
  obtain ⟨c, hc, rfl⟩ := List.mem_map.mp hn
  exact (h.cnm c hc).1.plain
end St
set_option Elab.async false
set_option linter.all false
set_option maxRecDepth 100000
set_option maxHeartbeats 1000000
namespace St
open PySem L2 Dz TL PyProof.Rows
structure TT where
  d : TD
  rows : List (Nat × List DV)
  nxt : Nat
abbrev rowK (r : Nat × List DV) : Key × DV := (.inl (r.1 : Nat), .tup r.2)
abbrev TT.tb (t : TT) : TB := ⟨t.d.nm, t.d.csD, .tup (t.d.ks.map .str), .tup (t.d.ixs.map .str), t.rows.map rowK, (t.nxt : Nat)⟩
def colAt (d : TD) (k : Str) (vs : List DV) : DV := vs.getD (plc d.names k) .none
structure TTok (t : TT) : Prop where
  d : TDok t.d
  row : ∀ r ∈ t.rows, r.1 < t.nxt ∧ wrongAt t.d.cols r.2 = none
  up : t.rows.Pairwise fun a b => a.1 < b.1
  /-- keys are so -/
  uq : ∀ k ∈ t.d.ks, t.rows.Pairwise fun a b => inF (colAt t.d k b.2) [colAt t.d k a.2] = false
  /-- a key that can be nothing alone: its row is the last one that was put -/
  solo : ∀ c ∈ t.d.cols, c.1 ∈ t.d.ks → c.2 = (["nothing"] : List Str) → ∀ r ∈ t.rows, r.1 + 1 = t.nxt
abbrev tbs (ts : List TT) : List TB := ts.map TT.tb
theorem tbs_len (ts : List TT) : (tbs ts).length = ts.length := List.length_map _
theorem tbs_nm (ts : List TT) : (tbs ts).map (·.nm) = ts.map (·.d.nm) := by rw [List.map_map]; rfl
def TT.del (t : TT) (n : Nat) : TT := ⟨t.d, t.rows.filter fun r => decide (r.1 ≠ n), t.nxt⟩
theorem bad_none {cols : List (Str × List Str)} {vs : List DV} (h : badAt cols vs = none) : ∀ i, i < vs.length → i < cols.length → fitsV (vs.getD i .none) (cols.getD i (Str.empty, [])) = true := fun i h1 h2 => by
  have := List.find?_eq_none.mp h i (List.mem_range.mpr (by omega))
  simpa using this
theorem wrong_none {cols : List (Str × List Str)} {vs : List DV} (h : wrongAt cols vs = none) : vs.length = cols.length ∧ ∀ i, i < vs.length → fitsV (vs.getD i .none) (cols.getD i (Str.empty, [])) = true := by
  unfold wrongAt at h
  split at h
  · cases h
  · rename_i hb
    split at h
    · rename_i hl
      exact ⟨hl, fun i hi => bad_none hb i hi (by omega)⟩
    · cases h
end St
set_option Elab.async false
set_option linter.all false
set_option maxRecDepth 100000
set_option maxHeartbeats 1000000
namespace St
open PySem L2 Dz TL PyProof.Rows
def w_law_made (C_Store : Addr) (f_Store_make : WFX) : WS :=
  (wSeq (wFor (sLst (wVar 1)) (wgTup 4 (wgCons (wgName 2) (wgCons (wgName 3) (wgCons (wgName 4) (wgCons (wgName 5) wgNil))))) (wDrop (wMethX xrNo C_Store "make" 2 2 5 f_Store_make (fun ds es => perm [0, 1, 2, 3, 4] (ds ++ ([] ++ es))) (wVar 0) (wCons (wVar 2) (wCons (wVar 3) wNil)) (wCons (wVar 4) (wCons (wVar 5) wNil)))))
    (wRet (wVar 0)))
abbrev rowD (r : Nat × List DV) : DV := .tup [.int (r.1 : Nat), .tup r.2]
theorem seq_forL {ρ : Rho} {μ : Mh} {we : WE} {g : WG} {bd rest : WS} {E : DEnds} {xs : List DV} (h : PEv we ρ μ (.lst xs)) (k : forW g bd { E with nx := rest E } xs ρ μ) : wSeq (wFor (sLst we) g bd) rest E ρ μ := h _ k
theorem rising_of : ∀ {p : Str} {l : List Str}, (p :: l).Pairwise Qz.leS → PyProof.Rows.risingS p l = true
  | p, [], _ => rfl
  | p, x :: r, h => by
    rw [List.pairwise_cons] at h
    show (!PySem.Spec.ltCps x.cps.toList p.cps.toList && PyProof.Rows.risingS x r) = true
    rw [Bool.and_eq_true, Bool.not_eq_true']
    exact ⟨h.1 x List.mem_cons_self, rising_of h.2⟩
theorem sorted_of : ∀ {l : List Str}, l.Pairwise Qz.leS → PyProof.Rows.sortedS l = true
  | [], _ => rfl
  | _ :: _, h => rising_of h
theorem nmB_of {w : Str} (h : Nm w) : nmB w = true := by
  unfold nmB
  rw [Bool.and_eq_true, Bool.and_eq_true, List.all_eq_true]
  exact ⟨decide_eq_true h.pos, decide_eq_true h.few, fun c hc => decide_eq_true (h.abc c hc)⟩
theorem kt_tab {ks : List Str} (h : ks ∈ kindTexts) : ksD ks ∈ kindsTab := List.mem_map_of_mem h
theorem few_of {ks ns : List Str} (h : (∀ k ∈ ks, k ∈ ns) ∧ ks.Nodup ∧ ks.Pairwise Qz.leS) : ks.length ≤ ns.length := few_nodup ns ks h.2.1 h.1
theorem TDok.marks {d : TD} (ok : TDok d) {ks : List Str} (h : (∀ k ∈ ks, k ∈ d.names) ∧ ks.Nodup ∧ ks.Pairwise Qz.leS) : MkOk (.tup (ks.map .str)) ∧ isMk (namesOf d.csD) (.tup (ks.map .str)) = true := by
  have hl := few_of h
  rw [List.length_map] at hl
  have h4 := ok.few
  have hn : namesOf d.csD = d.names := by
    show (d.cols.map colD).map colNm = d.cols.map (·.1)
    rw [List.map_map]
    rfl
  have hs := Siz.tup (sizs_strs (n := 4) (ks := ks) (fun k hk => by
    obtain ⟨c, hc, rfl⟩ := List.mem_map.mp (h.1 k hk)
    exact ⟨(ok.cnm c hc).1.plain, (ok.cnm c hc).1.few⟩) (by omega))
  refine ⟨⟨hs.le (by decide) (by decide), fun es e => ?_⟩, ?_⟩
  · have := DV.tup.inj e
    rw [← this, List.length_map]
    omega
  · rw [isMk_tup, txts_map, hn]
    show (asc ks && _) = true
    unfold asc
    rw [decide_eq_true h.2.1, sorted_of h.2.2, Bool.true_and, Bool.true_and]
    exact List.all_eq_true.mpr fun k hk => decide_eq_true (h.1 k hk)
theorem TDok.cols {d : TD} (ok : TDok d) : ColsOk d.csD ∧ isCols d.csD = true := by
  have h4 := ok.few
  refine ⟨colsOk_of (fun e he => ?_) (by rw [List.length_map]; omega), ?_⟩
  · obtain ⟨c, hc, rfl⟩ := List.mem_map.mp he
    exact ColIn.s ⟨c.1, ksD c.2, rfl, (ok.cnm c hc).1, kt_tab (ok.cnm c hc).2⟩
  · show ((decide (0 < (d.cols.map colD).length) && decide ((d.cols.map colD).length ≤ 4)) && ((d.cols.map colD).all isCol && decide ((d.cols.map colD).map colNm).Nodup)) = true
    have hn : (d.cols.map colD).map colNm = d.names := by rw [List.map_map]; rfl
    rw [hn, decide_eq_true ok.nd, List.length_map, decide_eq_true h4, decide_eq_true (List.length_pos_iff.mpr ok.ne), Bool.and_true, Bool.and_true, Bool.true_and]
    rw [List.all_map, List.all_eq_true]
    intro c hc
    show (nmB c.1 && isKs (ksD c.2)) = true
    rw [nmB_of (ok.cnm c hc).1, kd_isKs (kt_tab (ok.cnm c hc).2)]
    rfl
theorem TDok.four {d : TD} (ok : TDok d) : FourOk (.str d.nm) d.csD (.tup (d.ks.map .str)) (.tup (d.ixs.map .str)) ∧ verd (.str d.nm) d.csD (.tup (d.ks.map .str)) (.tup (d.ixs.map .str)) = none := by
  obtain ⟨c1, c2⟩ := ok.cols
  obtain ⟨k1, k2⟩ := ok.marks ok.mks
  obtain ⟨i1, i2⟩ := ok.marks ok.rks
  refine ⟨⟨(nm_siz ok.nm 20).le (by decide) (Nat.le_refl _), c1, k1, i1⟩, ?_⟩
  have hn : isNmD (.str d.nm) = true := nmB_of ok.nm
  unfold verd
  rw [if_neg (by rw [hn]; decide), if_neg (by rw [c2]; decide), if_neg (by rw [k2]; decide), if_neg (by rw [i2]; decide)]
abbrev TD.t0 (d : TD) : TT := ⟨d, [], 0⟩
structure PlanOk (ps : List TD) : Prop where
  ok : ∀ d ∈ ps, TDok d
  nd : (ps.map (·.nm)).Nodup
  few : ps.length ≤ 100
def wfMadeL (C : Addr) : WF := fun ds μ Q => ∃ s m h x ps, ds = [.obj s, .lst (ps.map TD.four)] ∧ StAt C μ s m h x [] [] ∧ PlanOk ps ∧ ∀ rs μ', StAt C μ' s m h x rs (tbs (ps.map TD.t0)) → KpO [m, h, x] μ μ' → (∀ r ∈ rs, μ r = none) → Q (.obj s) μ'
theorem made_loop {C cT cB : Addr} {s m h x : Addr} {μ0 : Mh} {E : DEnds} (ps : List TD) : ∀ (qs ds : List TD) (rs : List Addr) (ρ : Rho) (μ : Mh), qs ++ ds = ps → PlanOk ps → ρ.length = 6 → ρ[0]? = some (some (.obj s)) → StAt C μ s m h x rs (tbs (qs.map TD.t0)) → KpO [m, h, x] μ0 μ → (∀ r ∈ rs, μ0 r = none) →
    (∀ ρ μ' rs, ρ[0]? = some (some (.obj s)) → StAt C μ' s m h x rs (tbs (ps.map TD.t0)) → KpO [m, h, x] μ0 μ' → (∀ r ∈ rs, μ0 r = none) → E.nx ρ μ') →
    forW (wgTup 4 (wgCons (wgName 2) (wgCons (wgName 3) (wgCons (wgName 4) (wgCons (wgName 5) wgNil))))) (wDrop (wMethX xrNo C "make" 2 2 5 (wfMake C cT cB) (fun ds es => perm [0, 1, 2, 3, 4] (ds ++ ([] ++ es))) (wVar 0) (wCons (wVar 2) (wCons (wVar 3) wNil)) (wCons (wVar 4) (wCons (wVar 5) wNil)))) E (ds.map TD.four) ρ μ
  | qs, [], rs, ρ, μ, e, ok, hl, h0, st, kp, new, k => by
    rw [List.append_nil] at e
    subst e
    exact k ρ μ rs h0 st kp new
  | qs, d :: ds, rs, ρ, μ, e, ok, hl, h0, st, kp, new, k => by
    have hd : TDok d := ok.ok d (by rw [← e]; simp)
    have hqn : qs.length ≤ 100 := by have := ok.few; rw [← e, List.length_append] at this; omega
    refine ⟨rfl, ?_⟩
    let ρ' : Rho := (((ρ.set 2 (some (.str d.nm))).set 3 (some d.csD)).set 4 (some (.tup (d.ks.map .str)))).set 5 (some (.tup (d.ixs.map .str)))
    have v0 : ρ'[0]? = some (some (.obj s)) := by
      show ((((ρ.set 2 (some (.str d.nm))).set 3 (some d.csD)).set 4 (some (.tup (d.ks.map .str)))).set 5 (some (.tup (d.ixs.map .str))))[0]? = _
      rw [List.getElem?_set_ne (by decide), List.getElem?_set_ne (by decide), List.getElem?_set_ne (by decide), List.getElem?_set_ne (by decide)]
      exact h0
    have v2 : ρ'[2]? = some (some (.str d.nm)) := by
      show ((((ρ.set 2 (some (.str d.nm))).set 3 (some d.csD)).set 4 (some (.tup (d.ks.map .str)))).set 5 (some (.tup (d.ixs.map .str))))[2]? = _
      rw [List.getElem?_set_ne (by decide), List.getElem?_set_ne (by decide), List.getElem?_set_ne (by decide)]
      exact List.getElem?_set_self (by omega)
    have v3 : ρ'[3]? = some (some d.csD) := by
      show ((((ρ.set 2 (some (.str d.nm))).set 3 (some d.csD)).set 4 (some (.tup (d.ks.map .str)))).set 5 (some (.tup (d.ixs.map .str))))[3]? = _
      rw [List.getElem?_set_ne (by decide), List.getElem?_set_ne (by decide)]
      exact List.getElem?_set_self (by rw [List.length_set]; omega)
    have v4 : ρ'[4]? = some (some (.tup (d.ks.map .str))) := by
      show ((((ρ.set 2 (some (.str d.nm))).set 3 (some d.csD)).set 4 (some (.tup (d.ks.map .str)))).set 5 (some (.tup (d.ixs.map .str))))[4]? = _
      rw [List.getElem?_set_ne (by decide)]
      exact List.getElem?_set_self (by rw [List.length_set, List.length_set]; omega)
    have v5 : ρ'[5]? = some (some (.tup (d.ixs.map .str))) := List.getElem?_set_self (by rw [List.length_set, List.length_set, List.length_set]; omega)
    have hl' : ρ'.length = 6 := by
      show ((((ρ.set 2 (some (.str d.nm))).set 3 (some d.csD)).set 4 (some (.tup (d.ks.map .str)))).set 5 (some (.tup (d.ixs.map .str)))).length = 6
      rw [List.length_set, List.length_set, List.length_set, List.length_set]
      exact hl
    refine ⟨rfl, ?_⟩
    show wDrop _ _ ρ' μ
    have lk : (fldsK m h x).lookup ("make" : Str) = none := by rfl
    obtain ⟨f4, vn⟩ := hd.four
    refine drop_ (methX_ (pe_var v0) st.obj lk (pa_cons (pe_var v2) (pa_cons (pe_var v3) pa_nil)) (pa_cons (pe_var v4) (pa_cons (pe_var v5) pa_nil)) rfl rfl rfl ⟨s, m, h, x, rs, tbs (qs.map TD.t0), .str d.nm, d.csD, .tup (d.ks.map .str), .tup (d.ixs.map .str), rfl, st, f4, by rw [tbs_len, List.length_map]; omega, ?_⟩)
    unfold outMake
    have nt : taken (.str d.nm) (tbs (qs.map TD.t0)) = false := by
      refine decide_eq_false fun z => ?_
      rw [tbs_nm, List.map_map] at z
      have nd := ok.nd
      rw [← e, List.map_append, List.map_cons, List.nodup_append] at nd
      exact nd.2.2 _ z _ List.mem_cons_self rfl
    rw [if_neg (by rw [nt]; decide), vn]
    intro y hy r μ' st' kp' hr
    have hy : d.nm = y := DV.str.inj hy
    subst hy
    have e2 : tbs ((qs ++ [d]).map TD.t0) = tbs (qs.map TD.t0) ++ [⟨d.nm, d.csD, .tup (d.ks.map .str), .tup (d.ixs.map .str), [], 0⟩] := by
      rw [List.map_append]
      show List.map TT.tb (List.map TD.t0 qs ++ List.map TD.t0 [d]) = _
      rw [List.map_append]
      rfl
    rw [← e2] at st'
    have hr0 : μ0 r = none := by
      cases q : μ0 r with
      | none => rfl
      | some o =>
        by_cases z : r ∈ [m, h, x]
        · exfalso
          obtain ⟨o', ho⟩ := st.there r (by
            simp only [List.mem_cons, List.not_mem_nil, or_false] at z ⊢
            rcases z with z | z | z <;> simp [z])
          rw [hr] at ho
          cases ho
        · have := kp r o z q
          rw [hr] at this
          cases this
    refine made_loop ps (qs ++ [d]) ds (rs ++ [r]) ρ' μ' (by rw [List.append_assoc]; exact e) ok hl' v0 st' (fun b o nb e => kp' b o nb (kp b o nb e)) (fun b hb => ?_) k
    rcases List.mem_append.mp hb with hb | hb
    · exact new b hb
    · rw [List.mem_singleton] at hb
      rw [hb]
      exact hr0
theorem p_law_made {C cT cB : Addr} (ds : List DV) (μ : Mh) (Q : DV → Mh → Prop) (hl : ds.length = 2) (h : wfMadeL C ds μ Q) :
    w_law_made C (wfMake C cT cB) { nx := fun _ μ' => Q .none μ', rt := Q } (ds.map some ++ List.replicate 4 none) μ := by
  obtain ⟨s, m, h, x, ps, rfl, st, ok, q⟩ := h
  unfold w_law_made
  refine seq_forL (xs := ps.map TD.four) (pe_var rfl) ?_
  exact made_loop ps [] ps [] _ μ rfl ok rfl rfl st (fun _ _ _ e => e) (fun r hr => by cases hr) fun ρ μ' rs h0 st' kp new => ret_v (pe_var h0) (q rs μ' st' kp new)
end St
set_option Elab.async false
set_option linter.all false
set_option maxRecDepth 100000
set_option maxHeartbeats 1000000
namespace St
open PySem L2 Dz TL PyProof.Rows
section
variable {ρ : Rho} {μ : Mh} {w wa wb e : WE} {g : WG} {t : WT} {vl : List Nat} {n : Nat} {xs ds : List DV} {P : DV → Mh → Prop}
theorem pe_takeV (h : PEv wa ρ μ (.lst ds)) (k : PEv wb ρ μ (.int (n : Nat))) : PEv (wSl wa wNoPart (wPart wb)) ρ μ (.lst (ds.take n)) := fun P q => h _ (k _ (by
  show P (.lst (cutD ds none (some (n : Int)))) μ
  rw [Qz.cut_to]
  exact q))
end
end St
set_option Elab.async false
set_option linter.all false
set_option maxRecDepth 100000
set_option maxHeartbeats 1000000
namespace St
open PySem L2 Dz TL PyProof.Rows
theorem tt0 {d : TD} (h : TDok d) : TTok d.t0 := ⟨h, fun r hr => (by cases hr), List.Pairwise.nil, fun k hk => List.Pairwise.nil, fun c hc hk he r hr => (by cases hr)⟩
theorem TTok.gone {t : TT} (ok : TTok t) (n : Nat) : TTok (t.del n) :=
  ⟨ok.d, fun r hr => ok.row r (List.mem_filter.mp hr).1, ok.up.filter _, fun k hk => (ok.uq k hk).filter _, fun c hc hk he r hr => ok.solo c hc hk he r (List.mem_filter.mp hr).1⟩
theorem fits_siz {v : DV} {c : Str × List Str} (h : fitsV v c = true) : Siz 8 0 v := by
  unfold fitsV at h
  cases v with
  | none => exact Siz.none.le (by decide) (by decide)
  | int i =>
    refine (Siz.int ?_).le (by decide) (by decide)
    have h : (match (if inR i = true then some (Str.ofString "number") else none) with | some k => decide (k ∈ c.2) | none => false) = true := h
    split at h
    · rename_i k e
      split at e
      · rename_i hr
        unfold St.inR at hr
        rw [Bool.and_eq_true, decide_eq_true_eq, decide_eq_true_eq] at hr
        have : (10 : Nat) ^ 60 > 1000000000000 := by decide
        omega
      · cases e
    · cases h
  | str x =>
    have h : (match (if nmB x = true then some (Str.ofString "word") else none) with | some k => decide (k ∈ c.2) | none => false) = true := h
    split at h
    · rename_i k e
      split at e
      · rename_i hr
        exact nm_siz (nm_of hr) 0
      · cases e
    · cases h
  | _ => cases h
theorem row_siz {cols : List (Str × List Str)} {vs : List DV} (h : wrongAt cols vs = none) : ∀ v ∈ vs, Siz 8 0 v := fun v hv => by
  obtain ⟨hl, hf⟩ := wrong_none h
  obtain ⟨i, hi⟩ := List.mem_iff_getElem?.mp hv
  have hil : i < vs.length := (List.getElem?_eq_some_iff.mp hi).1
  have := hf i hil
  rw [List.getD_eq_getElem?_getD, hi] at this
  exact fits_siz this
theorem vals_siz {t : TT} (ok : TTok t) {vs : List DV} (h : wrongAt t.d.cols vs = none) : Siz 36 1 (.tup vs) := by
  refine (Siz.tup (Sizs.all (row_siz h))).le ?_ (Nat.le_refl _)
  have := ok.d.few
  have := (wrong_none h).1
  omega
theorem fits_noD {v : DV} {c : Str × List Str} (h : fitsV v c = true) : noDct v = true := by
  unfold fitsV at h
  cases v with
  | none => rfl
  | int i => rfl
  | str x => rfl
  | _ => cases h
theorem row_noD {cols : List (Str × List Str)} {vs : List DV} (h : wrongAt cols vs = none) : noDct (.tup vs) = true := noDcts_all fun v hv => by
  obtain ⟨hl, hf⟩ := wrong_none h
  obtain ⟨i, hi⟩ := List.mem_iff_getElem?.mp hv
  have hil : i < vs.length := (List.getElem?_eq_some_iff.mp hi).1
  have := hf i hil
  rw [List.getD_eq_getElem?_getD, hi] at this
  exact fits_noD this
theorem vals_shaped {t : TT} (ok : TTok t) {vs : List DV} (h : wrongAt t.d.cols vs = none) : shapedD (.tup vs) = true := (vals_siz ok h).shaped (by decide) (row_noD h)
theorem toks {ts : List TT} (h : ∀ t ∈ ts, TTok t) : TOk (tbs ts) := fun u hu => by
  obtain ⟨t, ht, rfl⟩ := List.mem_map.mp hu
  have ok := h t ht
  obtain ⟨f4, vn⟩ := ok.d.four
  refine ⟨tup_shaped f4 vn, fun kv hkv => ?_, ?_⟩
  · obtain ⟨r, hr, rfl⟩ := List.mem_map.mp (show kv ∈ t.rows.map rowK from hkv)
    exact vals_shaped ok (ok.row r hr).2
  · show ((t.rows.map rowK).map (·.1)).Nodup
    rw [List.map_map]
    unfold List.Nodup
    rw [List.pairwise_map]
    refine ok.up.imp fun {a b} lt z => ?_
    have : ((a.1 : Nat) : Int) = ((b.1 : Nat) : Int) := Sum.inl.inj z
    omega
def entT (t : TT) : DV := .tup [.lst (t.rows.map rowD), .int (t.nxt : Nat)]
def bookK (ts : List TT) : List (Key × DV) := ts.map fun t => (.inr t.d.nm, entT t)
end St
set_option Elab.async false
set_option linter.all false
set_option maxRecDepth 100000
set_option maxHeartbeats 1000000
namespace St
open PySem L2 Dz TL PyProof.Rows
/-- ts: the store's tables; us: those of the book -/
structure Lp (C a c : Addr) (B : Nat) (μ : Mh) (s m h x th : Addr) (rs : List Addr) (ts us : List TT) (n : Nat) : Prop where
  dk : Dk μ a c B
  st : StAt C μ s m h x rs (tbs ts)
  bk : μ th = some (.dct (bookK us))
  ok : ∀ t ∈ ts, TTok t ∧ t.nxt ≤ n
  few : ts.length ≤ 100
  ap : a ∉ th :: s :: m :: h :: x :: rs
  cp : c ∉ th :: s :: m :: h :: x :: rs
  tp : th ∉ s :: m :: h :: x :: rs
section
variable {C a c : Addr} {B B' : Nat} {μ μ' : Mh} {s m h x th : Addr} {rs : List Addr} {ts us : List TT} {n : Nat}
theorem Lp.kd (l : Lp C a c B μ s m h x th rs ts us n) (k : KpD a c μ μ') (d : Dk μ' a c B') : Lp C a c B' μ' s m h x th rs ts us n := by
  have ne : ∀ b ∈ th :: s :: m :: h :: x :: rs, b ≠ a ∧ b ≠ c := fun b hb => ⟨fun z => l.ap (by rw [← z]; exact hb), fun z => l.cp (by rw [← z]; exact hb)⟩
  have k' : KpO [a, c] μ μ' := fun b o nb e => k b o (fun z => nb (by simp [z])) (fun z => nb (by simp [z])) e
  refine ⟨d, l.st.kp k' fun b hb => ?_, k _ _ (ne th (by simp)).1 (ne th (by simp)).2 l.bk, l.ok, l.few, l.ap, l.cp, l.tp⟩
  have := ne b (List.mem_cons_of_mem _ hb)
  simp [this.1, this.2]
theorem Lp.le (l : Lp C a c B μ s m h x th rs ts us n) (h' : B' ≤ B) : Lp C a c B' μ s m h x th rs ts us n := l.kd KpD.refl (l.dk.le h')
theorem Lp.out (l : Lp C a c B μ s m h x th rs ts us n) {b : Addr} (hb : b = a ∨ b = c ∨ b = th) : b ∉ x :: rs := fun z => by
  have z' : b ∈ s :: m :: h :: x :: rs := List.mem_cons_of_mem _ (List.mem_cons_of_mem _ (List.mem_cons_of_mem _ z))
  rcases hb with rfl | rfl | rfl
  · exact l.ap (List.mem_cons_of_mem _ z')
  · exact l.cp (List.mem_cons_of_mem _ z')
  · exact l.tp z'
/-- the store's rows changed -/
theorem Lp.go {ts' : List TT} {n' : Nat} (l : Lp C a c B μ s m h x th rs ts us n) (k : KpO (x :: rs) μ μ') (st : StAt C μ' s m h x rs (tbs ts')) (ok : ∀ t ∈ ts', TTok t ∧ t.nxt ≤ n') (hl : ts'.length = ts.length) : Lp C a c B μ' s m h x th rs ts' us n' := by
  obtain ⟨⟨oa, ea⟩, oc, ec⟩ := l.dk.isSome
  exact ⟨l.dk.keep ((k a oa (l.out (.inl rfl)) ea).trans ea.symm) ((k c oc (l.out (.inr (.inl rfl))) ec).trans ec.symm), st, k _ _ (l.out (.inr (.inr rfl))) l.bk, ok, by rw [hl]; exact l.few, l.ap, l.cp, l.tp⟩
theorem Lp.dn (l : Lp C a c B μ s m h x th rs ts us n) {n' : Nat} (h' : n ≤ n') : Lp C a c B μ s m h x th rs ts us n' := ⟨l.dk, l.st, l.bk, fun t ht => ⟨(l.ok t ht).1, Nat.le_trans (l.ok t ht).2 h'⟩, l.few, l.ap, l.cp, l.tp⟩
end
/-- a copy that was made when the deck was there already -/
structure Cp (C a c : Addr) (μ : Mh) (s m h x : Addr) (rs : List Addr) (ts : List TT) : Prop where
  st : StAt C μ s m h x rs (tbs ts)
  ap : a ∉ s :: m :: h :: x :: rs
  cp : c ∉ s :: m :: h :: x :: rs
theorem Cp.kd {C a c : Addr} {μ μ' : Mh} {s m h x : Addr} {rs : List Addr} {ts : List TT} (l : Cp C a c μ s m h x rs ts) (k : KpD a c μ μ') : Cp C a c μ' s m h x rs ts := by
  have k' : KpO [a, c] μ μ' := fun b o nb e => k b o (fun z => nb (by simp [z])) (fun z => nb (by simp [z])) e
  refine ⟨l.st.kp k' fun b hb z => ?_, l.ap, l.cp⟩
  simp only [List.mem_cons, List.not_mem_nil, or_false] at z
  rcases z with z | z
  · exact l.ap (by rw [← z]; exact hb)
  · exact l.cp (by rw [← z]; exact hb)
theorem Cp.of {C a c : Addr} {B : Nat} {μ μ' : Mh} {s m h x : Addr} {rs : List Addr} {ts : List TT} (d : Dk μ a c B) (st : StAt C μ' s m h x rs (tbs ts)) (new : ∀ b ∈ s :: m :: h :: x :: rs, μ b = none) : Cp C a c μ' s m h x rs ts := by
  obtain ⟨⟨oa, ea⟩, oc, ec⟩ := d.isSome
  exact ⟨st, fun z => (by rw [new a z] at ea; cases ea), fun z => (by rw [new c z] at ec; cases ec)⟩
theorem Lp.start {C a c : Addr} {B : Nat} {μ μ1 : Mh} {s m h x th : Addr} {rs : List Addr} {ps : List TD} (ok : PlanOk ps) (d : Dk μ a c B) (st : StAt C μ1 s m h x rs (tbs (ps.map TD.t0))) (d1 : Dk μ1 a c B) (new : ∀ b ∈ s :: m :: h :: x :: rs, μ b = none) (ht : μ1 th = none) :
    Lp C a c B (updM μ1 th (.dct (bookK (ps.map TD.t0)))) s m h x th rs (ps.map TD.t0) (ps.map TD.t0) 0 := by
  obtain ⟨⟨oa, ea⟩, oc, ec⟩ := d.isSome
  obtain ⟨⟨oa1, ea1⟩, oc1, ec1⟩ := d1.isSome
  have at' : a ≠ th := fun z => by rw [z, ht] at ea1; cases ea1
  have ct' : c ≠ th := fun z => by rw [z, ht] at ec1; cases ec1
  have tp : th ∉ s :: m :: h :: x :: rs := fun z => by
    obtain ⟨o, ho⟩ := st.there th z
    rw [ht] at ho
    cases ho
  refine ⟨d1.keep (updM_ne at') (updM_ne ct'), st.kp (F := [th]) (fun b o nb e => by rw [updM_ne (by simpa using nb)]; exact e) (fun b hb z => ?_), updM_same, fun t ht => ?_, by rw [List.length_map]; exact ok.few, fun z => ?_, fun z => ?_, tp⟩
  · rw [List.mem_singleton] at z
    exact tp (by rw [← z]; exact hb)
  · obtain ⟨d, hd, rfl⟩ := List.mem_map.mp ht
    exact ⟨tt0 (ok.ok d hd), Nat.le_refl _⟩
  · rcases List.mem_cons.mp z with z | z
    · exact at' z
    · rw [new a z] at ea
      cases ea
  · rcases List.mem_cons.mp z with z | z
    · exact ct' z
    · rw [new c z] at ec
      cases ec
end St
set_option Elab.async false
set_option linter.all false
set_option maxRecDepth 100000
set_option maxHeartbeats 1000000
namespace St
open PySem L2 Dz TL PyProof.Rows
end St
set_option Elab.async false
set_option linter.all false
set_option maxRecDepth 100000
set_option maxHeartbeats 1000000
namespace St
open PySem PySem.StrLaws Builtin Builtin.Str
end St
set_option Elab.async false
set_option linter.all false
set_option maxRecDepth 100000
set_option maxHeartbeats 2000000
namespace St
open PySem Dz TL PyProof.Rows
open L2 (Key atI cutS)
end St
set_option Elab.async false
set_option linter.all false
set_option maxRecDepth 100000
set_option maxHeartbeats 2000000
namespace K20
open PySem Dz TL PyProof.Rows St
open L2 (Key atI)
abbrev Sc := List (Str × Str)
abbrev Kv := List (Str × List Str)
def scT (sc : Sc) : List DV := sc.map fun e => .tup [.str e.1, .str e.2]
def kvD (kv : Kv) : List (Key × DV) := kv.map fun e => (.inr e.1, .lst (e.2.map .str))
def metK (met : List Str) : List (Key × DV) := met.map fun a => (.inr a, .bool true)
def headS (d : DV) : Str := match d with | .tup (.str w :: _) => w | _ => ""
def lenT (d : DV) : Nat := match d with | .tup ds => ds.length | _ => 0
def sizesT : List (Str × Nat) := [("column", 3), ("value", 2), ("plus", 3), ("only", 3), ("first", 3)]
def sizesC : List (Str × Nat) := [("less", 3), ("most", 3), ("same", 3), ("is", 3), ("exists", 2), ("not", 2), ("and", 3), ("or", 3)]
def wordIn (sz : List (Str × Nat)) (d : DV) : Str := match sz.lookup (headS d) with
  | some n => if n = lenT d then headS d else ""
  | none => ""
def within (lo hi : Int) (d : DV) : Bool := match d with | .int i => decide (lo ≤ i) && decide (i ≤ hi) | _ => false
theorem look_sz (h : Str) : ∀ sz : List (Str × Nat), lookD (sz.map fun e => (e.1, DV.int (e.2 : Nat))) h = (sz.lookup h).map (fun n => DV.int (n : Nat)) ∧ (sz.lookup h).isSome = decide (h ∈ sz.map (·.1))
  | [] => ⟨rfl, by simp⟩
  | (k, n) :: sz => by
    obtain ⟨i1, i2⟩ := look_sz h sz
    by_cases e : k = h
    · subst e
      refine ⟨?_, ?_⟩
      · unfold lookD
        rw [List.map_cons, List.find?_cons_of_pos (by exact decide_eq_true rfl), List.lookup_cons_self]
        rfl
      · rw [List.lookup_cons_self]
        simp
    · have e' : (h == k) = false := beq_eq_false_iff_ne.mpr (Ne.symm e)
      rw [List.lookup_cons, e']
      refine ⟨?_, ?_⟩
      · rw [← i1]
        unfold lookD
        rw [List.map_cons, List.find?_cons_of_neg (by simpa using e)]
      · rw [i2]
        simp [Ne.symm e, eq_comm]
end K20
set_option Elab.async false
set_option linter.all false
set_option maxRecDepth 100000
set_option maxHeartbeats 2000000
namespace K20
open PySem Dz TL PyProof.Rows St
open L2 (Key atI)
/-- a value of the language -/
def isVal (d : DV) : Bool := (kindV d).isSome
end K20
set_option Elab.async false
set_option linter.all false
set_option maxRecDepth 100000
set_option maxHeartbeats 2000000
namespace K20
open PySem Dz TL PyProof.Rows St
open L2 (Key atI)
def bk (d : DV) : Nat := (toPy d).bulk
def chkRef (kv : Kv) (met : List Str) (d : DV) : Option (Str × Str) := match d with
  | .tup [.str a, .str t] => if nmB a && nmB t && !decide (a ∈ met) && decide (t ∈ kv.map (·.1)) then some (a, t) else none
  | _ => none
def chkAll (kv : Kv) : List Str → List DV → Option Sc
  | _, [] => some []
  | met, d :: ds => match chkRef kv met d with
    | some e => (chkAll kv (met ++ [e.1]) ds).map (e :: ·)
    | none => none
def chkRefs (kv : Kv) (met : List Str) (most : Nat) (d : DV) : Option Sc := match d with
  | .tup ds => if 1 ≤ ds.length ∧ ds.length ≤ most then chkAll kv met ds else none
  | _ => none
def al (sc : Sc) : List Str := sc.map (·.1)
theorem chkRef_is {kv : Kv} {met : List Str} {d : DV} {e : Str × Str} (h : chkRef kv met d = some e) : d = .tup [.str e.1, .str e.2] ∧ nmB e.1 = true ∧ nmB e.2 = true ∧ e.1 ∉ met ∧ e.2 ∈ kv.map (·.1) := by
  unfold chkRef at h
  split at h
  · rename_i a t
    split at h
    · rename_i hb
      cases h
      rw [Bool.and_eq_true, Bool.and_eq_true, Bool.and_eq_true] at hb
      obtain ⟨⟨⟨h1, h2⟩, h3⟩, h4⟩ := hb
      exact ⟨rfl, h1, h2, by simpa using h3, by simpa using h4⟩
    · cases h
  · cases h
theorem chkAll_is {kv : Kv} : ∀ {ds : List DV} {met : List Str} {sc : Sc}, chkAll kv met ds = some sc → ds = scT sc ∧ (al sc).Nodup ∧ (∀ a ∈ al sc, a ∉ met ∧ nmB a = true) ∧ ∀ e ∈ sc, e.2 ∈ kv.map (·.1)
  | [], met, sc, h => by
    cases h
    exact ⟨rfl, List.nodup_nil, (fun a h => by cases h), fun e h => by cases h⟩
  | d :: ds, met, sc, h => by
    unfold chkAll at h
    cases e : chkRef kv met d with
    | none => rw [e] at h; cases h
    | some x =>
      rw [e] at h
      obtain ⟨sc', h1, rfl⟩ := Option.map_eq_some_iff.mp h
      obtain ⟨i1, i2, i3, i4⟩ := chkAll_is h1
      obtain ⟨j1, j2, j3, j4, j5⟩ := chkRef_is e
      refine ⟨by rw [j1, i1]; rfl, ?_, fun a ha => ?_, fun y hy => ?_⟩
      · show (x.1 :: al sc').Nodup
        exact List.nodup_cons.mpr ⟨fun z => (i3 x.1 z).1 (by simp), i2⟩
      · rcases List.mem_cons.mp (show a ∈ x.1 :: al sc' from ha) with rfl | ha
        · exact ⟨j4, j2⟩
        · exact ⟨fun z => (i3 a ha).1 (List.mem_append_left _ z), (i3 a ha).2⟩
      · rcases List.mem_cons.mp hy with rfl | hy
        · exact j5
        · exact i4 y hy
structure Fr (C : Addr) (μ : Mh) (p q : Addr) (kv : Kv) (met : List Str) : Prop where
  obj : μ p = some (.ins C [("columns", .dct (kvD kv)), ("aliases_met", .obj q)])
  md : μ q = some (.dct (metK met))
def Ans (C : Addr) (μ : Mh) (p q : Addr) (kv : Kv) (met : List Str) (b : Nat) (o : Option (List Str)) (Q : DV → Mh → Prop) : Prop := ∀ met' μ', Fr C μ' p q kv met' → KpO [q] μ μ' → (∀ a ∈ met, a ∈ met') → met'.length ≤ met.length + b → (∀ m, o = some m → met' = m) → Q (.bool o.isSome) μ'
theorem Ans.no {C : Addr} {μ : Mh} {p q : Addr} {kv : Kv} {met : List Str} {b : Nat} {Q : DV → Mh → Prop} (h : Ans C μ p q kv met b none Q) (f : Fr C μ p q kv met) : Q (.bool false) μ := h met μ f (fun _ _ _ e => e) (fun _ h => h) (Nat.le_add_right _ _) (fun _ e => by cases e)
theorem kvD_val (t : Str) : ∀ kv : Kv, valD (kvD kv) (.inr t) = (kv.lookup t).map (fun l => DV.lst (l.map .str)) ∧ (kv.lookup t).isSome = decide (t ∈ kv.map (·.1))
  | [] => ⟨rfl, by simp⟩
  | (k, l) :: kv => by
    obtain ⟨i1, i2⟩ := kvD_val t kv
    by_cases e : k = t
    · subst e
      refine ⟨?_, ?_⟩
      · unfold kvD valD
        rw [List.map_cons, List.find?_cons_of_pos (by exact decide_eq_true rfl), List.lookup_cons_self]
        rfl
      · rw [List.lookup_cons_self]
        simp
    · have e' : (t == k) = false := beq_eq_false_iff_ne.mpr (Ne.symm e)
      rw [List.lookup_cons, e']
      refine ⟨?_, ?_⟩
      · rw [← i1]
        unfold kvD valD
        rw [List.map_cons, List.find?_cons_of_neg (by simpa using e)]
      · rw [i2]
        simp [Ne.symm e, eq_comm]
end K20
set_option Elab.async false
set_option linter.all false
set_option maxRecDepth 100000
set_option maxHeartbeats 2000000
namespace K20
open PySem Dz TL PyProof.Rows St
open L2 (Key atI)
/-- a check of parts, one behind the other -/
def seqO (f : List Str → DV → Option (List Str)) : List Str → List DV → Option (List Str)
  | met, [] => some met
  | met, d :: ds => (f met d).bind fun m => seqO f m ds
end K20
set_option Elab.async false
set_option linter.all false
set_option maxRecDepth 100000
set_option maxHeartbeats 2000000
namespace K20
open PySem Dz TL PyProof.Rows St
open L2 (Key atI)
theorem word_is {sz : List (Str × Nat)} {d : DV} {w : Str} (h : wordIn sz d = w) (ne : w ≠ "") : ∃ r, d = .tup (.str w :: r) ∧ sz.lookup w = some (r.length + 1) := by
  unfold wordIn at h
  cases e : sz.lookup (headS d) with
  | none =>
    rw [e] at h
    exact absurd h.symm ne
  | some n =>
    rw [e] at h
    dsimp only at h
    by_cases hn : n = lenT d
    · rw [if_pos hn] at h
      subst h
      match d, hn, ne, e with
      | .tup (.str w :: r), hn, ne, e => exact ⟨r, rfl, by
          show sz.lookup w = _
          rw [show headS (.tup (.str w :: r)) = w from rfl] at e
          rw [e, hn]
          rfl⟩
      | .tup [], _, ne, _ => exact absurd rfl ne
      | .tup (.none :: _), _, ne, _ => exact absurd rfl ne
      | .tup (.bool _ :: _), _, ne, _ => exact absurd rfl ne
      | .tup (.int _ :: _), _, ne, _ => exact absurd rfl ne
      | .tup (.tup _ :: _), _, ne, _ => exact absurd rfl ne
      | .tup (.lst _ :: _), _, ne, _ => exact absurd rfl ne
      | .tup (.dct _ :: _), _, ne, _ => exact absurd rfl ne
      | .tup (.obj _ :: _), _, ne, _ => exact absurd rfl ne
      | .tup (.fix _ :: _), _, ne, _ => exact absurd rfl ne
      | .tup (.dn _ _ _ :: _), _, ne, _ => exact absurd rfl ne
      | .none, _, ne, _ => exact absurd rfl ne
      | .bool _, _, ne, _ => exact absurd rfl ne
      | .int _, _, ne, _ => exact absurd rfl ne
      | .str _, _, ne, _ => exact absurd rfl ne
      | .lst _, _, ne, _ => exact absurd rfl ne
      | .dct _, _, ne, _ => exact absurd rfl ne
      | .obj _, _, ne, _ => exact absurd rfl ne
      | .fix _, _, ne, _ => exact absurd rfl ne
      | .dn _ _ _, _, ne, _ => exact absurd rfl ne
    · rw [if_neg hn] at h
      exact absurd h.symm ne
theorem len2 {r : List DV} (h : r.length + 1 = 2) : ∃ x, r = [x] := by
  match r, h with
  | [x], _ => exact ⟨x, rfl⟩
theorem len3 {r : List DV} (h : r.length + 1 = 3) : ∃ x y, r = [x, y] := by
  match r, h with
  | [x, y], _ => exact ⟨x, y, rfl⟩
def inCol (kv : Kv) (sc : Sc) (a c : Str) : Bool := match sc.lookup a with
  | some t => (match kv.lookup t with | some cs => decide (c ∈ cs) | none => false)
  | none => false
def chkCol (kv : Kv) (sc : Sc) (d : DV) : Bool := match d with
  | .tup [.str w, .str a, .str c] => decide (w = "column") && (nmB a && nmB c && inCol kv sc a c)
  | _ => false
end K20
set_option Elab.async false
set_option linter.all false
set_option maxRecDepth 100000
set_option maxHeartbeats 2000000
namespace K20
open PySem Dz TL PyProof.Rows St
open L2 (Key atI)
inductive Kd where
  | term
  | inner
  | cond
def at_ (d : DV) (i : Nat) : DV := match d with | .tup ds => ds.getD i .none | _ => .none
def tailT (d : DV) : List DV := match d with | .tup (_ :: r) => r | _ => []
def pairOf (x : DV) : Option (Str × Str) := match x with | .tup [.str a, .str t] => some (a, t) | _ => none
def refsOf (d : DV) : Sc := match d with
  | .tup ds => ds.filterMap pairOf
  | _ => []
def joining : List Str := ["not", "and", "or"]
def kinds3 : List Str := ["nothing", "number", "word"]
def isKind (d : DV) : Bool := match d with | .str k => decide (k ∈ kinds3) | _ => false
def chk (kv : Kv) : Nat → Kd → DV → Sc → Bool → List Str → Option (List Str)
  | 0, _, _, _, _, _ => none
  | n + 1, .term, d, sc, inn, met =>
    if wordIn sizesT d = "column" then (if chkCol kv sc d = true then some met else none) else
    if wordIn sizesT d = "value" then (if isVal (at_ d 1) = true then some met else none) else
    if wordIn sizesT d = "plus" then (chk kv n .term (at_ d 1) sc inn met).bind fun m => if within (-1000000000000) 1000000000000 (at_ d 2) = true then some m else none else
    if wordIn sizesT d = "" then none else
    if inn = true then none else
    (chk kv n .inner (at_ d 1) sc true met).bind fun m => chk kv n .term (at_ d 2) (sc ++ refsOf (at_ (at_ d 1) 0)) true m
  | n + 1, .inner, d, sc, _, met => match d with
    | .tup [r, c] => (chkRefs kv met 2 r).bind fun refs => chk kv n .cond c (sc ++ refs) true (met ++ al refs)
    | _ => none
  | n + 1, .cond, d, sc, inn, met =>
    if wordIn sizesC d = "" then none else
    if wordIn sizesC d ∈ joining then seqO (fun m p => chk kv n .cond p sc inn m) met (tailT d) else
    if wordIn sizesC d = "exists" then (if inn = true then none else chk kv n .inner (at_ d 1) sc true met) else
    (chk kv n .term (at_ d 1) sc inn met).bind fun m =>
      if wordIn sizesC d = "is" then (if isKind (at_ d 2) = true then some m else none) else chk kv n .term (at_ d 2) sc inn m
structure ScOk (kv : Kv) (sc : Sc) (met : List Str) : Prop where
  nd : (al sc).Nodup
  sub : ∀ a ∈ al sc, a ∈ met
  nm : ∀ a ∈ al sc, nmB a = true
  tb : ∀ e ∈ sc, e.2 ∈ kv.map (·.1)
theorem ScOk.mono {kv : Kv} {sc : Sc} {met met' : List Str} (h : ScOk kv sc met) (s : ∀ a ∈ met, a ∈ met') : ScOk kv sc met' := ⟨h.nd, fun a ha => s a (h.sub a ha), h.nm, h.tb⟩
section
variable {C : Addr} {μ : Mh} {p q : Addr} {kv : Kv} {met : List Str} {b : Nat} {Q : DV → Mh → Prop}
/-- further on, behind a first part -/
theorem Ans.step {met1 : List Str} {μ1 : Mh} {b1 : Nat} {o : Option (List Str)} (h : Ans C μ p q kv met b o Q) (k1 : KpO [q] μ μ1) (s1 : ∀ a ∈ met, a ∈ met1) (l1 : met1.length + b1 ≤ met.length + b) : Ans C μ1 p q kv met1 b1 o Q := fun met' μ' fr k s l h' => h met' μ' fr (fun x u nb e => k x u nb (k1 x u nb e)) (fun a ha => s a (s1 a ha)) (by omega) h'
end
theorem word3 {w : Str} {k : Nat} (h : sizesT.lookup w = some k) (n1 : w ≠ "column") (n2 : w ≠ "value") (n3 : w ≠ "plus") : k = 3 := by
  have hm : w ∈ sizesT.map (·.1) := by
    have := (look_sz w sizesT).2
    rw [h] at this
    exact of_decide_eq_true this.symm
  simp only [sizesT, List.map_cons, List.map_nil, List.mem_cons, List.not_mem_nil, or_false] at hm
  have e1 : sizesT.lookup ("only" : Str) = some 3 := by decide +kernel
  have e2 : sizesT.lookup ("first" : Str) = some 3 := by decide +kernel
  rcases hm with hm | hm | hm | hm | hm
  · exact absurd hm n1
  · exact absurd hm n2
  · exact absurd hm n3
  · rw [hm, e1] at h
    exact (Option.some.inj h).symm
  · rw [hm, e2] at h
    exact (Option.some.inj h).symm
theorem chkRefs_is {kv : Kv} {met : List Str} {most : Nat} {r : DV} {refs : Sc} (h : chkRefs kv met most r = some refs) : r = .tup (scT refs) ∧ refs.length ≤ most ∧ chkAll kv met (scT refs) = some refs := by
  unfold chkRefs at h
  split at h
  · split at h
    · rename_i hl
      obtain ⟨e, _⟩ := chkAll_is h
      subst e
      have : (scT refs).length = refs.length := List.length_map _
      exact ⟨rfl, by omega, h⟩
    · cases h
  · cases h
end K20
set_option Elab.async false
set_option linter.all false
set_option maxRecDepth 100000
set_option maxHeartbeats 2000000
namespace K20
open PySem Dz TL PyProof.Rows St
open L2 (Key atI)
theorem wordC3 {w : Str} {k : Nat} (h : sizesC.lookup w = some k) (n1 : w ∉ joining) (n2 : w ≠ "exists") : k = 3 := by
  have hm : w ∈ sizesC.map (·.1) := by
    have := (look_sz w sizesC).2
    rw [h] at this
    exact of_decide_eq_true this.symm
  simp only [sizesC, List.map_cons, List.map_nil, List.mem_cons, List.not_mem_nil, or_false] at hm
  simp only [joining, List.mem_cons, List.not_mem_nil, or_false, not_or] at n1
  have e1 : sizesC.lookup ("less" : Str) = some 3 := by decide +kernel
  have e2 : sizesC.lookup ("most" : Str) = some 3 := by decide +kernel
  have e3 : sizesC.lookup ("same" : Str) = some 3 := by decide +kernel
  have e4 : sizesC.lookup ("is" : Str) = some 3 := by decide +kernel
  rcases hm with hm | hm | hm | hm | hm | hm | hm | hm
  · rw [hm, e1] at h; exact (Option.some.inj h).symm
  · rw [hm, e2] at h; exact (Option.some.inj h).symm
  · rw [hm, e3] at h; exact (Option.some.inj h).symm
  · rw [hm, e4] at h; exact (Option.some.inj h).symm
  · exact absurd hm n2
  · exact absurd hm n1.1
  · exact absurd hm n1.2.1
  · exact absurd hm n1.2.2
end K20
set_option Elab.async false
set_option linter.all false
set_option maxRecDepth 100000
set_option maxHeartbeats 2000000
namespace K20
open PySem Dz TL PyProof.Rows St
open L2 (Key atI)
def kvOf (ps : List TD) : Kv := ps.map fun d => (d.nm, d.cols.map (·.1))
end K20
set_option Elab.async false
set_option linter.all false
set_option maxRecDepth 100000
set_option maxHeartbeats 2000000
namespace K20
open PySem Dz TL PyProof.Rows St
open L2 (Key atI)
def chkTold (kv : Kv) (N : Nat) (sc : Sc) (m : List Str) (told : DV) : Option (List Str) := match told with
  | .tup ts => if 1 ≤ ts.length ∧ ts.length ≤ 4 then seqO (fun m t => chk kv N .term t sc false m) m ts else none
  | _ => none
def chkOrd (kv : Kv) (sc : Sc) (order : DV) : Bool := match order with
  | .tup os => decide (os.length ≤ 4) && os.all (chkCol kv sc)
  | _ => false
def chkLim (d : DV) : Bool := match d with | .none => true | d => within 0 1000 d
def chkWh (kv : Kv) (N : Nat) (sc : Sc) (wh : DV) (m : List Str) : Option (List Str) := match wh with
  | .none => some m
  | d => chk kv N .cond d sc false m
def chkQ (kv : Kv) (N : Nat) (d : DV) : Bool := match d with
  | .tup [r, wh, told, order, lim] => match chkRefs kv [] 4 r with
    | none => false
    | some refs => match chkWh kv N refs wh (al refs) with
      | none => false
      | some m => match chkTold kv N refs m told with
        | none => false
        | some _ => chkOrd kv refs order && chkLim lim
  | _ => false
end K20
set_option Elab.async false
set_option linter.all false
set_option maxRecDepth 100000
set_option maxHeartbeats 2000000
namespace K20
open PySem Dz TL PyProof.Rows St
open L2 (Key atI)
def wfIsQ : WF := fun ds μ Q => ∃ (ps : List TD) (d : DV), ds = [.tup (ps.map TD.four), d] ∧ (ps.map (·.nm)).Nodup ∧ ps.length ≤ 100 ∧ (∀ d ∈ ps, d.cols.length ≤ 100) ∧ Siz 60000 41 d ∧ ∀ μ', KpO [] μ μ' → Q (.bool (chkQ (kvOf ps) 41 d)) μ'
end K20
set_option Elab.async false
set_option linter.all false
set_option maxRecDepth 100000
set_option maxHeartbeats 2000000
namespace K20
open PySem Dz TL PyProof.Rows St
open L2 (Key atI)
end K20
set_option Elab.async false
set_option linter.all false
set_option maxRecDepth 100000
set_option maxHeartbeats 2000000
namespace K20
open PySem Dz TL PyProof.Rows St
open L2 (Key atI)
end K20
set_option Elab.async false
set_option linter.all false
set_option maxRecDepth 100000
set_option maxHeartbeats 2000000
namespace K20
open PySem Dz TL PyProof.Rows St
open L2 (Key atI)
def wfKnown : WF := fun ds μ Q => ∃ ps : List TD, ds = [.tup (ps.map TD.four)] ∧ (ps.map (·.nm)).Nodup ∧ ps.length ≤ 100 ∧ (∀ d ∈ ps, d.cols.length ≤ 100) ∧ Q (.dct (kvD (kvOf ps))) μ
end K20
set_option Elab.async false
set_option linter.all false
set_option maxRecDepth 100000
set_option maxHeartbeats 2000000
namespace K20
open PySem Dz TL PyProof.Rows St
open L2 (Key atI)
/-- the law's answer; r the list of aliases met -/
def AnsL (μ : Mh) (r : Addr) (met : List Str) (b : Nat) (o : Option (List Str)) (Q : DV → Mh → Prop) : Prop := ∀ met' μ', μ' r = some (.lst (met'.map .str)) → KpO [r] μ μ' → (∀ a ∈ met, a ∈ met') → met'.length ≤ met.length + b → (∀ m, o = some m → met' = m) → Q (.bool o.isSome) μ'
end K20
set_option Elab.async false
set_option linter.all false
set_option maxRecDepth 100000
set_option maxHeartbeats 2000000
namespace K20
open PySem Dz TL PyProof.Rows St
open L2 (Key atI)
/-- the names are names -/
structure KvOk (kv : Kv) : Prop where
  tb : ∀ t ∈ kv.map (·.1), nmB t = true
  cl : ∀ e ∈ kv, ∀ c ∈ e.2, nmB c = true
def colIn (kv : Kv) (t c : Str) : Bool := match kv.lookup t with | some cs => decide (c ∈ cs) | none => false
theorem lookup_mem {t : Str} {cs : List Str} {kv : Kv} (h : kv.lookup t = some cs) : (t, cs) ∈ kv := by
  induction kv with
  | nil => cases h
  | cons e kv ih =>
    obtain ⟨k, u⟩ := e
    rw [List.lookup_cons] at h
    by_cases z : t = k
    · subst z
      rw [beq_self_eq_true] at h
      cases h
      exact List.mem_cons_self
    · rw [beq_eq_false_iff_ne.mpr z] at h
      exact List.mem_cons_of_mem _ (ih h)
end K20
set_option Elab.async false
set_option linter.all false
set_option maxRecDepth 100000
set_option maxHeartbeats 2000000
namespace K20
open PySem Dz TL PyProof.Rows St
open L2 (Key atI)
section
variable {μ : Mh} {r : Addr} {met : List Str} {b : Nat} {Q : DV → Mh → Prop}
theorem AnsL.no (h : AnsL μ r met b none Q) (hr : μ r = some (.lst (met.map .str))) : Q (.bool false) μ := h met μ hr (fun _ _ _ e => e) (fun _ h => h) (Nat.le_add_right _ _) (fun _ e => by cases e)
theorem AnsL.step {met1 : List Str} {μ1 : Mh} {b1 : Nat} {o : Option (List Str)} (h : AnsL μ r met b o Q) (k1 : KpO [r] μ μ1) (s1 : ∀ a ∈ met, a ∈ met1) (l1 : met1.length + b1 ≤ met.length + b) : AnsL μ1 r met1 b1 o Q := fun met' μ' hr k s l h' => h met' μ' hr (fun x u nb e => k x u nb (k1 x u nb e)) (fun a ha => s a (s1 a ha)) (by omega) h'
end
theorem scT_len (a : Sc) : (scT a).length = a.length := List.length_map _
end K20
set_option Elab.async false
set_option linter.all false
set_option maxRecDepth 100000
set_option maxHeartbeats 2000000
namespace K20
open PySem Dz TL PyProof.Rows St
open L2 (Key atI)
end K20
set_option Elab.async false
set_option linter.all false
set_option maxRecDepth 100000
set_option maxHeartbeats 2000000
namespace K20
open PySem Dz TL PyProof.Rows St
open L2 (Key atI)
theorem nameJ_ {g : Rho → Prop} {ρ : Rho} {d : DV} {j : Nat} (h : g (ρ.set j (some d))) : wgName j d ρ g := h
def wfLQ : WF := fun ds μ Q => ∃ (ps : List TD) (d : DV), ds = [.tup (ps.map TD.four), d] ∧ (ps.map (·.nm)).Nodup ∧ ps.length ≤ 100 ∧ (∀ d ∈ ps, d.cols.length ≤ 100) ∧ KvOk (kvOf ps) ∧ Siz 60000 41 d ∧ ∀ μ', KpO [] μ μ' → Q (.bool (chkQ (kvOf ps) 41 d)) μ'
end K20
set_option Elab.async false
set_option linter.all false
set_option maxRecDepth 100000
set_option maxHeartbeats 2000000
namespace K20
open PySem L2 Dz Qz
open St (nmB TD)
abbrev NmP (x : Str) : Prop := nmB x = true ∧ plainS x = true ∧ x.length ≤ 8
def nmP (x : Str) : Bool := nmB x && (plainS x && decide (x.length ≤ 8))
theorem nmP_is {x : Str} (h : nmP x = true) : NmP x := by
  unfold nmP at h
  rw [Bool.and_eq_true, Bool.and_eq_true, decide_eq_true_eq] at h
  exact h
def wfDNames : WF := fun ds μ Q => ∃ a c m n, ds = [.obj a, .int ((n : Nat) : Int)] ∧ n ≤ 17 ∧ Dk μ a c (m + 2) ∧ ∀ (l : List Str) μ', l.length = n → (∀ d ∈ l, NmP d) → l.Nodup → Dk μ' a c m → OnlyDeck μ μ' a c → Q (.lst (l.map .str)) μ'
/-- the kinds that a column may have -/
def kindSets : List (List Str) := [["number"], ["number", "word"], ["nothing", "number", "word"], ["word"], ["nothing", "number"]]
theorem kindSets_ok : ∀ ks ∈ kindSets, 0 < ks.length ∧ ks.length ≤ 3 ∧ ∀ x ∈ ks, NmP x := by
  have : (kindSets.all fun ks => decide (0 < ks.length) && decide (ks.length ≤ 3) && ks.all fun x => nmP x) = true := by decide +kernel
  rw [List.all_eq_true] at this
  intro ks hk
  have h := this ks hk
  rw [Bool.and_eq_true, Bool.and_eq_true, decide_eq_true_eq, decide_eq_true_eq, List.all_eq_true] at h
  refine ⟨h.1.1, h.1.2, fun x hx => ?_⟩
  exact nmP_is (h.2 x hx)
structure GTb (t : TD) : Prop where
  name : NmP t.nm
  ne : 0 < t.cols.length
  le : t.cols.length ≤ 3
  cols : ∀ c ∈ t.cols, NmP c.1 ∧ c.2 ∈ kindSets
  nd : t.names.Nodup
  keys : t.ks = [] ∨ ∃ c, t.names.head? = some c ∧ t.ks = [c]
  idx : t.ixs.Pairwise leS
  ind : t.ixs.Nodup
  isub : ∀ x ∈ t.ixs, x ∈ t.names
theorem nodup_len : ∀ {l m : List Str}, l.Nodup → (∀ x ∈ l, x ∈ m) → l.length ≤ m.length
  | [], m, _, _ => Nat.zero_le _
  | x :: l, m, h, hs => by
    have hx : x ∈ m := hs x List.mem_cons_self
    have h' := List.pairwise_cons.mp h
    have := nodup_len (l := l) (m := m.erase x) h'.2 fun y hy => (List.mem_erase_of_ne (h'.1 y hy).symm).mpr (hs y (List.mem_cons_of_mem _ hy))
    rw [List.length_erase_of_mem hx] at this
    have hp := List.length_pos_of_mem hx
    rw [List.length_cons]
    omega
theorem strs_siz {l : List Str} (h : ∀ x ∈ l, NmP x) : Siz (l.length * 9) 1 (.tup (l.map .str)) := by
  refine (Siz.tup (Sizs.all (N := 8) (p := 0) (ds := l.map .str) fun d hd => ?_)).le ?_ (by decide)
  · rw [List.mem_map] at hd
    obtain ⟨x, hx, rfl⟩ := hd
    exact (Siz.str (h x hx).2.1).le (h x hx).2.2 (Nat.le_refl _)
  · rw [List.length_map]
    exact Nat.le_refl _
theorem col_siz {c : Str × List Str} (h : NmP c.1) (h2 : c.2 ∈ kindSets) : Siz 40 2 (St.colD c) := by
  obtain ⟨_, k3, kn⟩ := kindSets_ok c.2 h2
  have s := strs_siz kn
  refine (Siz.tup (Sizs.cons ((Siz.str h.2.1).le h.2.2 (Nat.zero_le 1)) (Sizs.cons s nilS))).le ?_ (Nat.le_refl _)
  omega
theorem GTb.siz {t : TD} (h : GTb t) : Siz 250 4 t.four := by
  have sc : Siz 123 3 (.tup (t.cols.map St.colD)) := by
    refine (Siz.tup (Sizs.all (N := 40) (p := 2) (ds := t.cols.map St.colD) fun d hd => ?_)).le ?_ (Nat.le_refl _)
    · rw [List.mem_map] at hd
      obtain ⟨c, hc, rfl⟩ := hd
      exact col_siz (h.cols c hc).1 (h.cols c hc).2
    · rw [List.length_map]
      have := h.le
      omega
  have nmn : ∀ x ∈ t.names, NmP x := fun x hx => by
    rw [List.mem_map] at hx
    obtain ⟨c, hc, rfl⟩ := hx
    exact (h.cols c hc).1
  have sk : Siz 9 1 (.tup (t.ks.map .str)) := by
    rcases h.keys with e | ⟨c, hc, e⟩
    · rw [e]; exact (Siz.tup Sizs.nil).le (by decide) (by decide)
    · rw [e]; exact (strs_siz (l := [c]) fun x hx => by rw [List.mem_singleton] at hx; rw [hx]; exact nmn c (List.mem_of_mem_head? hc)).le (Nat.le_refl _) (Nat.le_refl _)
  have si : Siz 27 1 (.tup (t.ixs.map .str)) := by
    refine (strs_siz fun x hx => nmn x (h.isub x hx)).le ?_ (Nat.le_refl _)
    have h1 := nodup_len h.ind h.isub
    have e : t.names.length = t.cols.length := List.length_map _
    have := h.le
    omega
  refine (Siz.tup (Sizs.cons ((Siz.str h.name.2.1).le h.name.2.2 (Nat.zero_le 3)) (Sizs.cons sc (Sizs.cons (sk.le (Nat.le_refl _) (by decide)) (Sizs.cons (si.le (Nat.le_refl _) (by decide)) nilS))))).le ?_ (Nat.le_refl _)
  omega
structure GCols (cols : List DV) : Prop where
  ne : 0 < cols.length
  le : cols.length ≤ 3
  all : ∀ col ∈ cols, ∃ (y : Str) (ks : List Str), col = .tup [.str y, .tup (ks.map .str)] ∧ plainS y = true ∧ y.length ≤ 8
structure GTab (t : DV) : Prop where
  ex : ∃ (x : Str) (cols : List DV) (kk ii : List Str), t = .tup [.str x, .tup cols, .tup (kk.map .str), .tup (ii.map .str)] ∧ plainS x = true ∧ x.length ≤ 8 ∧ GCols cols
  siz : Siz 500 4 t
/-- but for the deck, what was there stays -/
def Keeps (μ μ' : Mh) (a c : Addr) : Prop := ∀ b, b ≠ a → b ≠ c → μ b ≠ none → μ' b = μ b
theorem Keeps.refl {μ : Mh} {a c : Addr} : Keeps μ μ a c := fun _ _ _ _ => rfl
theorem Keeps.trans {μ μ1 μ2 : Mh} {a c : Addr} (h : Keeps μ μ1 a c) (h' : Keeps μ1 μ2 a c) : Keeps μ μ2 a c := fun b x y z => by
  have e := h b x y z
  rw [h' b x y (by rw [e]; exact z), e]
theorem Keeps.deck {μ μ' : Mh} {a c : Addr} (h : OnlyDeck μ μ' a c) : Keeps μ μ' a c := fun b x y _ => h b x y
theorem Keeps.new {μ μ1 : Mh} {a c p : Addr} {o : MO} (h : Keeps μ μ1 a c) (n : μ p = none) : Keeps μ (updM μ1 p o) a c := fun b x y z => by
  rw [updM_ne (fun e => z (by rw [e]; exact n))]
  exact h b x y z
structure GW (W : List TD) : Prop where
  ne : 0 < W.length
  le : W.length ≤ 3
  tabs : ∀ t ∈ W, GTb t
  nd : (W.map (·.nm)).Nodup
theorem GTb.tab {t : TD} (h : GTb t) : GTab t.four where
  ex := ⟨t.nm, t.cols.map St.colD, t.ks, t.ixs, rfl, h.name.2.1, h.name.2.2, by rw [List.length_map]; exact h.ne, by rw [List.length_map]; exact h.le, fun d hd => by
    rw [List.mem_map] at hd
    obtain ⟨c, hc, rfl⟩ := hd
    exact ⟨c.1, c.2, rfl, (h.cols c hc).1.2.1, (h.cols c hc).1.2.2⟩⟩
  siz := h.siz.le (by decide) (Nat.le_refl _)
def wfDTabled : WF := fun ds μ Q => ∃ a c m names many, ds = [.obj a, .lst (List.map .str names), .int ((many : Nat) : Int)] ∧ 10 ≤ names.length ∧ names.length ≤ 100 ∧ (∀ x ∈ names, NmP x) ∧ names.Nodup ∧ 1 ≤ many ∧ many ≤ 3 ∧ Dk μ a c (m + 60) ∧
  ∀ (W : List TD) μ', GW W → W.length = many → Dk μ' a c m → Keeps μ μ' a c → Q (DV.tup (W.map TD.four)) μ'
end K20
set_option Elab.async false
set_option linter.all false
set_option maxRecDepth 100000
set_option maxHeartbeats 2000000
namespace K20
open PySem L2 Dz Qz
open St (nmB TD)
theorem word_eq {sz : List (Str × Nat)} {w : Str} {r : List DV} {n : Nat} (h : sz.lookup w = some n) (hn : r.length + 1 = n) : wordIn sz (.tup (.str w :: r)) = w := by
  subst hn
  unfold wordIn
  rw [show headS (.tup (.str w :: r)) = w from rfl, h]
  dsimp only
  rw [if_pos (show r.length + 1 = lenT (.tup (.str w :: r)) from rfl)]
abbrev colT (a c : Str) : DV := .tup [.str "column", .str a, .str c]
section
variable {kv : Kv} {N : Nat} {sc refs : Sc} {inn : Bool} {met m m2 : List Str} {a b w : Str} {x y d c t : DV}
theorem wT_col : wordIn sizesT (.tup [.str "column", x, y]) = "column" := word_eq (n := 3) (by decide +kernel) rfl
theorem chk_col (h : chkCol kv sc (colT a b) = true) : chk kv (N + 1) .term (colT a b) sc inn met = some met := by
  unfold chk
  rw [if_pos wT_col, if_pos h]
end
def Cov (sc S : Sc) : Prop := ∀ e ∈ S, sc.lookup e.1 = some e.2
theorem Cov.sub {sc S S' : Sc} (h : Cov sc S) (s : ∀ e ∈ S', e ∈ S) : Cov sc S' := fun e he => h e (s e he)
abbrev world (ps : List TD) : DV := .dct [(.inr "tables", .tup (ps.map TD.four)), (.inr "columns", .dct (kvD (kvOf ps)))]
structure SOk (kv : Kv) (S : Sc) : Prop where
  ne : 0 < S.length
  le : S.length ≤ 20
  all : ∀ e ∈ S, NmP e.1 ∧ e.2 ∈ kv.map (·.1)
theorem SOk.append {kv : Kv} {r s : Sc} (h : SOk kv r) (h' : SOk kv s) (l : r.length + s.length ≤ 20) : SOk kv (r ++ s) :=
  ⟨by rw [List.length_append]; have := h.ne; omega, by rw [List.length_append]; exact l, fun x hx => (List.mem_append.mp hx).elim (h.all x) (h'.all x)⟩
theorem kv_ok {ps : List TD} (g : GW ps) : KvOk (kvOf ps) := by
  refine ⟨fun t ht => ?_, fun e he c hc => ?_⟩
  · unfold kvOf at ht
    rw [List.map_map] at ht
    obtain ⟨d, hd, rfl⟩ := List.mem_map.mp ht
    exact (g.tabs d hd).name.1
  · obtain ⟨d, hd, rfl⟩ := List.mem_map.mp he
    obtain ⟨x, hx, rfl⟩ := List.mem_map.mp hc
    exact ((g.tabs d hd).cols x hx).1.1
theorem cols_of {ps : List TD} (g : GW ps) {t : Str} (h : t ∈ (kvOf ps).map (·.1)) : ∃ cs, (kvOf ps).lookup t = some cs ∧ 0 < cs.length ∧ cs.length ≤ 3 ∧ (∀ c ∈ cs, NmP c) ∧ NmP t := by
  obtain ⟨k1, k2⟩ := kvD_val t (kvOf ps)
  rw [decide_eq_true h] at k2
  obtain ⟨cs, hcs⟩ := Option.isSome_iff_exists.mp k2
  obtain ⟨d, hd, e⟩ := List.mem_map.mp (lookup_mem hcs)
  cases e
  have gt := g.tabs d hd
  refine ⟨_, hcs, by rw [List.length_map]; exact gt.ne, by rw [List.length_map]; exact gt.le, fun c hc => ?_, gt.name⟩
  obtain ⟨x, hx, rfl⟩ := List.mem_map.mp hc
  exact (gt.cols x hx).1
theorem sc_siz {kv : Kv} {ps : List TD} (g : GW ps) (e : kv = kvOf ps) {S : Sc} (h : ∀ e ∈ S, NmP e.1 ∧ e.2 ∈ kv.map (·.1)) : Siz (S.length * 21) 2 (.tup (scT S)) := by
  subst e
  refine (Siz.tup (Sizs.all (N := 20) (p := 1) (ds := scT S) fun r hr => ?_)).le (by rw [scT_len]; omega) (by omega)
  obtain ⟨e, he, rfl⟩ := List.mem_map.mp hr
  obtain ⟨h1, h2⟩ := h e he
  obtain ⟨_, _, _, _, _, h3⟩ := cols_of g h2
  exact (Siz.tup (Sizs.cons (Siz.str h1.2.1) (Sizs.cons (Siz.str h3.2.1) Sizs.nil))).le (by have := h1.2.2; have := h3.2.2; omega) (by omega)
def GCol (kv : Kv) (S : Sc) (d : DV) : Prop := ∃ a t c, (a, t) ∈ S ∧ d = colT a c ∧ NmP a ∧ NmP c ∧ colIn kv t c = true
theorem GCol.ok {kv : Kv} {S sc : Sc} {d : DV} (h : GCol kv S d) (cv : Cov sc S) : chkCol kv sc d = true := by
  obtain ⟨a, t, c, he, rfl, ha, hc, hi⟩ := h
  show (decide (("column" : Str) = "column") && (nmB a && nmB c && inCol kv sc a c)) = true
  have : inCol kv sc a c = colIn kv t c := by
    unfold inCol
    rw [cv _ he]
    rfl
  rw [decide_eq_true rfl, ha.1, hc.1, this, hi]
  rfl
theorem GCol.chk {kv : Kv} {S sc : Sc} {d : DV} {N : Nat} {inn : Bool} {met : List Str} (h : GCol kv S d) (cv : Cov sc S) : chk kv (N + 1) .term d sc inn met = some met := by
  have := h.ok cv
  obtain ⟨a, t, c, he, rfl, _⟩ := h
  exact chk_col this
theorem GCol.siz {kv : Kv} {S : Sc} {d : DV} (h : GCol kv S d) : Siz 30 1 d := by
  obtain ⟨x, _, y, _, rfl, ⟨_, h1, h2⟩, ⟨_, h3, h4⟩, _⟩ := h
  have e : (Str.ofString "column").length = 6 := by decide +kernel
  exact (Siz.tup (Sizs.cons (Siz.str (by decide +kernel)) (Sizs.cons (Siz.str h1) (Sizs.cons (Siz.str h3) Sizs.nil)))).le (by rw [e]; omega) (by omega)
def wfDCol : WF := fun ds μ Q => ∃ a c ps m S, ds = [.obj a, world ps, .tup (scT S)] ∧ GW ps ∧ Dk μ a c (m + 2) ∧ SOk (kvOf ps) S ∧ ∀ d μ', GCol (kvOf ps) S d → Dk μ' a c m → OnlyDeck μ μ' a c → Q d μ'
structure GTerm (kv : Kv) (S : Sc) (n : Nat) (d : DV) : Prop where
  ok : ∀ sc, Cov sc S → ∀ N inn met, n < N → chk kv N .term d sc inn met = some met
  siz : Siz (40 + 40 * n) (n + 1) d
theorem GTerm.sub {kv : Kv} {S S' : Sc} {n : Nat} {d : DV} (h : GTerm kv S n d) (s : ∀ e ∈ S, e ∈ S') : GTerm kv S' n d := ⟨fun sc cv => h.ok sc (cv.sub s), h.siz⟩
theorem GCol.term {kv : Kv} {S : Sc} {n : Nat} {d : DV} (h : GCol kv S d) : GTerm kv S n d := ⟨fun sc cv N inn met hN => by
  obtain ⟨N', rfl⟩ : ∃ N', N = N' + 1 := ⟨N - 1, by omega⟩
  exact h.chk cv, h.siz.le (by omega) (by omega)⟩
structure GLeaf (kv : Kv) (S : Sc) (n : Nat) (d : DV) : Prop where
  ok : ∀ sc, Cov sc S → ∀ N inn met, n + 1 < N → chk kv N .cond d sc inn met = some met
  siz : Siz (100 + 80 * n) (n + 2) d
end K20
set_option Elab.async false
set_option linter.all false
set_option maxRecDepth 100000
set_option maxHeartbeats 2000000
namespace K20
open PySem L2 Dz Qz
open St (nmB TD)
abbrev SC (n : Nat) : Nat := 1000 * 3 ^ n
theorem sc_succ (n : Nat) : SC (n + 1) = 3 * SC n ∧ 1000 ≤ SC n := by
  have h : 1 ≤ 3 ^ n := Nat.one_le_pow _ _ (by decide)
  unfold SC
  rw [Nat.pow_succ]
  omega
structure Pool (μ : Mh) (a c p : Addr) (pl : List Str) : Prop where
  pa : p ≠ a
  pc : p ≠ c
  ex : μ p = some (.lst (pl.map .str))
  le : pl.length ≤ 100
  nm : ∀ x ∈ pl, NmP x
theorem Pool.step {μ μ' : Mh} {a c p : Addr} {pl : List Str} (h : Pool μ a c p pl) (o : OnlyDeck μ μ' a c) : Pool μ' a c p pl := ⟨h.pa, h.pc, (o p h.pa h.pc).trans h.ex, h.le, h.nm⟩
/-- but for the deck and the pool, all stays -/
def Kp3 (μ μ' : Mh) (a c p : Addr) : Prop := ∀ b, b ≠ a → b ≠ c → b ≠ p → μ' b = μ b
theorem Kp3.of {μ μ' : Mh} {a c p : Addr} (h : OnlyDeck μ μ' a c) : Kp3 μ μ' a c p := fun b x y _ => h b x y
theorem Kp3.trans {μ μ1 μ2 : Mh} {a c p : Addr} (h : Kp3 μ μ1 a c p) (h' : Kp3 μ1 μ2 a c p) : Kp3 μ μ2 a c p := fun b x y z => (h' b x y z).trans (h b x y z)
structure GCond (kv : Kv) (S : Sc) (us : List Str) (n : Nat) (d : DV) : Prop where
  ok : ∀ sc, Cov sc S → ∀ met, (∀ x ∈ al sc, x ∈ met) → (∀ u ∈ us, u ∉ met) → us.Nodup → ∀ N, n + 6 < N → ∃ m, chk kv N .cond d sc false met = some m ∧ ∀ x ∈ m, x ∈ met ∨ x ∈ us
  siz : Siz (SC n) (n + 8) d
theorem GLeaf.cond {kv : Kv} {S : Sc} {us : List Str} {n : Nat} {d : DV} (h : GLeaf kv S 1 d) : GCond kv S us n d := ⟨fun sc cv met _ _ _ N hN => ⟨met, h.ok sc cv N false met (by omega), fun x hx => .inl hx⟩, h.siz.le (by have := sc_succ n; omega) (by omega)⟩
end K20
set_option Elab.async false
set_option linter.all false
set_option maxRecDepth 100000
set_option maxHeartbeats 2000000
namespace K20
open PySem L2 Dz Qz
open St (nmB TD)
abbrev quest (refs : Sc) (wh : DV) (heard order : List DV) (lim : DV) : DV := .tup [.tup (scT refs), wh, .tup heard, .tup order, lim]
structure GQ (ps : List TD) (refs : Sc) (wh : DV) (heard order : List DV) (lim : DV) : Prop where
  so : SOk (kvOf ps) refs
  le : refs.length ≤ 3
  ok : chkQ (kvOf ps) 41 (quest refs wh heard order lim) = true
  sw : Siz 9000 10 wh
  sh : Siz 170 3 (.tup heard)
  hlen : heard.length ≤ 2
  sor : Siz 62 2 (.tup order)
  slim : Siz 8 0 lim
theorem GQ.sr {ps : List TD} (g : GW ps) {refs : Sc} {wh : DV} {heard order : List DV} {lim : DV} (h : GQ ps refs wh heard order lim) : Siz 63 2 (.tup (scT refs)) := (sc_siz g rfl h.so.all).le (by have := h.le; omega) (by omega)
theorem GQ.siz {ps : List TD} (g : GW ps) {refs : Sc} {wh : DV} {heard order : List DV} {lim : DV} (h : GQ ps refs wh heard order lim) : Siz 9400 11 (quest refs wh heard order lim) :=
  (Siz.tup (Sizs.cons ((h.sr g).le (Nat.le_refl _) (show 2 ≤ 10 by decide)) (Sizs.cons h.sw (Sizs.cons (h.sh.le (Nat.le_refl _) (show 3 ≤ 10 by decide)) (Sizs.cons (h.sor.le (Nat.le_refl _) (show 2 ≤ 10 by decide)) (Sizs.cons (h.slim.le (Nat.le_refl _) (show 0 ≤ 10 by decide)) nilS)))))).le (by omega) (by omega)
def wfDQuestion : WF := fun ds μ Q => ∃ a c ps m, ∃ names : List Str, ds = [.obj a, world ps, .lst (names.map .str), .int 3] ∧ GW ps ∧ names.length = 8 ∧ (∀ x ∈ names, NmP x) ∧ names.Nodup ∧ Dk μ a c (m + 1000) ∧ ∀ refs wh heard order lim μ', GQ ps refs wh heard order lim → Dk μ' a c m → Keeps μ μ' a c → Q (quest refs wh heard order lim) μ'
end K20
set_option Elab.async false
set_option linter.all false
set_option maxRecDepth 100000
set_option maxHeartbeats 2000000
namespace K20
open PySem L2 Dz Qz
open St (nmB TD PEv PTv PAv pe_var pe_c pe_bin pa_nil pa_cons pe_call pe_tup pe_lst pt_test seq_asg seq_if ret_ ret_v call_ bin_)
def ascS (x : Str) : Bool := x.cps.toList.all fun c => decide (c < 128)
mutual
/-- texts of ascii signs, numbers at most B -/
def bd (B : Nat) : DV → Bool
  | .str x => ascS x
  | .int i => decide (i.natAbs ≤ B)
  | .tup ds => bds B ds
  | .lst ds => bds B ds
  | .dct kvs => kvs.isEmpty
  | .none => true
  | .bool _ => true
  | _ => false
def bds (B : Nat) : List DV → Bool
  | [] => true
  | d :: ds => bd B d && bds B ds
end
theorem bds_all {B : Nat} : ∀ {ds : List DV}, bds B ds = true ↔ ∀ d ∈ ds, bd B d = true
  | [] => by simp [bds]
  | d :: ds => by
    unfold bds
    rw [Bool.and_eq_true, bds_all]
    simp
mutual
theorem bd_mono {B C : Nat} (h : B ≤ C) : ∀ {d : DV}, bd B d = true → bd C d = true
  | .str x, hd => hd
  | .int i, hd => decide_eq_true (Nat.le_trans (of_decide_eq_true (show decide (i.natAbs ≤ B) = true from hd)) h)
  | .tup ds, hd => bds_mono h (ds := ds) hd
  | .lst ds, hd => bds_mono h (ds := ds) hd
  | .dct kvs, hd => hd
  | .none, hd => rfl
  | .bool _, hd => rfl
  | .obj _, hd => hd
  | .fix _, hd => hd
  | .dn _ _ _, hd => hd
theorem bds_mono {B C : Nat} (h : B ≤ C) : ∀ {ds : List DV}, bds B ds = true → bds C ds = true
  | [], _ => rfl
  | d :: ds, hd => by
    have hd : (bd B d && bds B ds) = true := hd
    rw [Bool.and_eq_true] at hd
    show (bd C d && bds C ds) = true
    rw [bd_mono h hd.1, bds_mono h hd.2]
    rfl
end
theorem asc_nm {x : Str} (h : nmB x = true) : ascS x = true := by
  unfold nmB at h
  rw [Bool.and_eq_true, Bool.and_eq_true] at h
  have h := h.2.2
  unfold ascS
  rw [List.all_eq_true] at h ⊢
  intro c hc
  have := of_decide_eq_true (h c hc)
  revert this
  unfold St.abcL
  simp only [List.mem_cons, List.not_mem_nil, or_false]
  intro this
  exact decide_eq_true (by omega)
abbrev FAR : Nat := 1000000000000
theorem bd_col {kv : Kv} {sc : Sc} {d : DV} (h : chkCol kv sc d = true) : bd FAR d = true := by
  unfold chkCol at h
  split at h
  · rename_i w a c
    rw [Bool.and_eq_true, Bool.and_eq_true, Bool.and_eq_true, decide_eq_true_eq] at h
    obtain ⟨rfl, ⟨h1, h2⟩, _⟩ := h
    show (ascS "column" && (ascS a && (ascS c && true))) = true
    rw [asc_nm h1, asc_nm h2]
    decide +kernel
  · cases h
theorem bd_val {d : DV} (h : isVal d = true) : bd FAR d = true := by
  cases d with
  | none => rfl
  | str x =>
    have h : (if nmB x = true then some _ else none).isSome = true := h
    by_cases e : nmB x = true
    · exact asc_nm e
    · rw [if_neg e] at h; cases h
  | int i =>
    have h : (if St.inR i = true then some _ else none).isSome = true := h
    by_cases e : St.inR i = true
    · have e2 : (decide (-1000000000000 ≤ i) && decide (i ≤ 1000000000000)) = true := e
      rw [Bool.and_eq_true, decide_eq_true_eq, decide_eq_true_eq] at e2
      exact decide_eq_true (show i.natAbs ≤ 1000000000000 by omega)
    · rw [if_neg e] at h; cases h
  | _ => cases h
theorem bd_within {lo hi : Int} {d : DV} (h : within lo hi d = true) (h0 : -1000000000000 ≤ lo) (h1 : hi ≤ 1000000000000) : bd FAR d = true := by
  cases d with
  | int i =>
    have e2 : (decide (lo ≤ i) && decide (i ≤ hi)) = true := h
    rw [Bool.and_eq_true, decide_eq_true_eq, decide_eq_true_eq] at e2
    exact decide_eq_true (show i.natAbs ≤ 1000000000000 by omega)
  | _ => cases h
theorem bd_refs {kv : Kv} (hk : KvOk kv) {met : List Str} {refs : Sc} {ds : List DV} (h : chkAll kv met ds = some refs) : bd FAR (.tup (scT refs)) = true := by
  obtain ⟨_, _, h3, h4⟩ := chkAll_is h
  show bds FAR (scT refs) = true
  rw [bds_all]
  intro d hd
  obtain ⟨e, he, rfl⟩ := List.mem_map.mp hd
  show (ascS e.1 && (ascS e.2 && true)) = true
  rw [asc_nm (h3 e.1 (List.mem_map_of_mem (f := fun e : Str × Str => e.1) he)).2, asc_nm (hk.tb e.2 (h4 e he))]
  rfl
theorem seqO_mem {f : List Str → DV → Option (List Str)} : ∀ {ds : List DV} {met m : List Str}, seqO f met ds = some m → ∀ d ∈ ds, ∃ m1 m2, f m1 d = some m2
  | d :: ds, met, m, h, x, hx => by
    obtain ⟨m1, h1, h2⟩ := Option.bind_eq_some_iff.mp h
    rcases List.mem_cons.mp hx with rfl | hx
    · exact ⟨_, _, h1⟩
    · exact seqO_mem h2 x hx
theorem bd_words : ∀ w ∈ sizesT.map (·.1) ++ sizesC.map (·.1), ascS w = true := by
  have : (sizesT.map (·.1) ++ sizesC.map (·.1)).all ascS = true := by decide +kernel
  exact List.all_eq_true.mp this
theorem sz_mem {sz : List (Str × Nat)} {w : Str} {n : Nat} (h : sz.lookup w = some n) : w ∈ sz.map (·.1) := by
  have := (look_sz w sz).2
  rw [h] at this
  exact of_decide_eq_true this.symm
theorem bd_head {B : Nat} {w : Str} {r : List DV} (h : ascS w = true) (hr : ∀ d ∈ r, bd B d = true) : bd B (.tup (.str w :: r)) = true := by
  show (ascS w && bds B r) = true
  rw [h, bds_all.mpr hr]
  rfl
theorem chk_bd {kv : Kv} (hk : KvOk kv) : ∀ (n : Nat) (k : Kd) (d : DV) (sc : Sc) (inn : Bool) (met m : List Str), chk kv n k d sc inn met = some m → bd FAR d = true
  | 0, _, _, _, _, _, _, h => by
    unfold chk at h
    cases h
  | n + 1, .term, d, sc, inn, met, m, h => by
    unfold chk at h
    split at h
    · split at h
      · exact bd_col (by assumption)
      · cases h
    split at h
    · rename_i hw
      obtain ⟨r, rfl, hr⟩ := word_is hw (by decide +kernel)
      obtain ⟨x, rfl⟩ := len2 (r := r) (by
        have e : sizesT.lookup ("value" : Str) = some 2 := by decide +kernel
        rw [e] at hr
        exact (Option.some.inj hr).symm)
      split at h
      · rename_i hv
        refine bd_head (by decide +kernel) fun d hd => ?_
        rw [List.mem_singleton] at hd
        subst hd
        exact bd_val hv
      · cases h
    split at h
    · rename_i hw
      obtain ⟨r, rfl, hr⟩ := word_is hw (by decide +kernel)
      obtain ⟨x, y, rfl⟩ := len3 (r := r) (by
        have e : sizesT.lookup ("plus" : Str) = some 3 := by decide +kernel
        rw [e] at hr
        exact (Option.some.inj hr).symm)
      obtain ⟨m1, h1, h2⟩ := Option.bind_eq_some_iff.mp h
      split at h2
      · rename_i hv
        refine bd_head (by decide +kernel) fun d hd => ?_
        simp only [List.mem_cons, List.not_mem_nil, or_false] at hd
        rcases hd with rfl | rfl
        · exact chk_bd hk n _ _ _ _ _ _ h1
        · exact bd_within hv (by decide) (by decide)
      · cases h2
    rename_i n1 n2 n3
    split at h
    · cases h
    rename_i he
    split at h
    · cases h
    obtain ⟨m1, h1, h2⟩ := Option.bind_eq_some_iff.mp h
    obtain ⟨q, ed, hq⟩ := word_is (w := wordIn sizesT d) rfl he
    obtain ⟨x, y, rfl⟩ := len3 (word3 hq n1 n2 n3)
    have a1 : at_ d 1 = x := (congrArg (fun z => at_ z 1) ed).trans rfl
    have a2 : at_ d 2 = y := (congrArg (fun z => at_ z 2) ed).trans rfl
    rw [a1] at h1
    rw [a2] at h2
    rw [ed]
    refine bd_head (bd_words _ (List.mem_append_left _ (sz_mem hq))) fun z hz => ?_
    simp only [List.mem_cons, List.not_mem_nil, or_false] at hz
    rcases hz with rfl | rfl
    · exact chk_bd hk n _ _ _ _ _ _ h1
    · exact chk_bd hk n _ _ _ _ _ _ h2
  | n + 1, .inner, d, sc, inn, met, m, h => by
    unfold chk at h
    split at h
    · obtain ⟨refs, h1, h2⟩ := Option.bind_eq_some_iff.mp h
      obtain ⟨e1, _, e3⟩ := chkRefs_is h1
      subst e1
      show (bd FAR (.tup (scT refs)) && (bd FAR _ && true)) = true
      rw [bd_refs hk e3, chk_bd hk n _ _ _ _ _ _ h2]
      rfl
    · cases h
  | n + 1, .cond, d, sc, inn, met, m, h => by
    unfold chk at h
    split at h
    · cases h
    rename_i he
    obtain ⟨q, ed, hq⟩ := word_is (w := wordIn sizesC d) rfl he
    have hw := bd_words _ (List.mem_append_right (sizesT.map (·.1)) (sz_mem hq))
    split at h
    · have et : tailT d = q := (congrArg tailT ed).trans rfl
      rw [et] at h
      rw [ed]
      refine bd_head hw fun z hz => ?_
      obtain ⟨m1, m2, hm⟩ := seqO_mem h z hz
      exact chk_bd hk n _ _ _ _ _ _ hm
    rename_i nj
    split at h
    · rename_i hx
      split at h
      · cases h
      · obtain ⟨x, rfl⟩ := len2 (r := q) (by
          have e : sizesC.lookup ("exists" : Str) = some 2 := by decide +kernel
          rw [hx, e] at hq
          exact (Option.some.inj hq).symm)
        have a1 : at_ d 1 = x := (congrArg (fun z => at_ z 1) ed).trans rfl
        rw [a1] at h
        rw [ed]
        refine bd_head hw fun z hz => ?_
        rw [List.mem_singleton] at hz
        subst hz
        exact chk_bd hk n _ _ _ _ _ _ h
    rename_i ne
    obtain ⟨x, y, rfl⟩ := len3 (r := q) (wordC3 hq nj ne)
    have a1 : at_ d 1 = x := (congrArg (fun z => at_ z 1) ed).trans rfl
    have a2 : at_ d 2 = y := (congrArg (fun z => at_ z 2) ed).trans rfl
    rw [a1, a2] at h
    obtain ⟨m1, h1, h2⟩ := Option.bind_eq_some_iff.mp h
    rw [ed]
    refine bd_head hw fun z hz => ?_
    simp only [List.mem_cons, List.not_mem_nil, or_false] at hz
    rcases hz with rfl | rfl
    · exact chk_bd hk n _ _ _ _ _ _ h1
    · split at h2
      · split at h2
        · rename_i hk3
          cases z with
          | str k =>
            have : k ∈ kinds3 := of_decide_eq_true hk3
            have all : kinds3.all ascS = true := by decide +kernel
            exact List.all_eq_true.mp all k this
          | _ => cases hk3
        · cases h2
      · exact chk_bd hk n _ _ _ _ _ _ h2
theorem chkQ_bd {kv : Kv} (hk : KvOk kv) {n : Nat} {d : DV} (h : chkQ kv n d = true) : bd FAR d = true := by
  unfold chkQ at h
  split at h
  · rename_i r wh told order lim
    split at h
    · cases h
    rename_i refs h1
    split at h
    · cases h
    rename_i m h2
    split at h
    · cases h
    rename_i m2 h3
    rw [Bool.and_eq_true] at h
    obtain ⟨e1, _, e3⟩ := chkRefs_is h1
    subst e1
    have b1 := bd_refs hk e3
    have b2 : bd FAR wh = true := by
      cases wh with
      | none => rfl
      | _ => exact chk_bd hk _ _ _ _ _ _ _ h2
    have b3 : bd FAR told = true := by
      cases told with
      | tup ts =>
        have h3 : (if 1 ≤ ts.length ∧ ts.length ≤ 4 then seqO (fun m t => chk kv n .term t refs false m) m ts else none) = some m2 := h3
        split at h3
        · refine bds_all.mpr fun d hd => ?_
          obtain ⟨x, y, hxy⟩ := seqO_mem h3 d hd
          exact chk_bd hk _ _ _ _ _ _ _ hxy
        · cases h3
      | _ => cases h3
    have b4 : bd FAR order = true := by
      cases order with
      | tup os =>
        have h4 : (decide (os.length ≤ 4) && os.all (chkCol kv refs)) = true := h.1
        rw [Bool.and_eq_true, List.all_eq_true] at h4
        exact bds_all.mpr fun d hd => bd_col (h4.2 d hd)
      | _ => cases h.1
    have b5 : bd FAR lim = true := by
      cases lim with
      | none => rfl
      | int i => exact bd_within (lo := 0) (hi := 1000) (show within 0 1000 (.int i) = true from h.2) (by decide) (by decide)
      | _ => cases h.2
    show (bd FAR (.tup (scT refs)) && (bd FAR wh && (bd FAR told && (bd FAR order && (bd FAR lim && true))))) = true
    rw [b1, b2, b3, b4, b5]
    rfl
  · cases h
end K20
set_option Elab.async false
set_option linter.all false
set_option maxRecDepth 100000
set_option maxHeartbeats 2000000
namespace K20
open PySem L2 Dz Qz
open St (nmB TD)
structure Bt (N n B : Nat) (d : DV) : Prop where
  siz : Siz N n d
  bd : bd B d = true
theorem Bt.le {N n B N' n' B' : Nat} {d : DV} (h : Bt N n B d) (h1 : N ≤ N') (h2 : n ≤ n') (h3 : B ≤ B') : Bt N' n' B' d := ⟨h.siz.le h1 h2, bd_mono h3 h.bd⟩
section
variable {ρ : Rho} {μ : Mh} {rest : WS} {E : DEnds} {i : Nat} {p : Addr} {xs ys : List DV} {wb : WE} {y : DV}
theorem addL_ {P : DV → Mh → Prop} (hp : Dz.look μ y = .lst xs) (l : xs.length + ys.length ≤ 1000) (k : ∀ q, μ q = none → P (.obj q) (updM μ q (.lst (xs ++ ys)))) : wAddL y (.lst ys) μ P := by
  show (match Dz.look μ y, Dz.look μ (.lst ys) with | .lst xs, .lst ys => xs.length + ys.length ≤ sizeLine ∧ ∀ p, μ p = none → P (.obj p) (updM μ p (.lst (xs ++ ys))) | _, _ => False)
  rw [hp]
  exact ⟨St.sl (by omega), k⟩
theorem look_of (hp : μ p = some (.lst xs)) : Dz.look μ (.obj p) = .lst xs := by
  show Dz.lookO p (μ p) = _
  rw [hp]
  rfl
end
theorem Keeps.del {μ μ1 : Mh} {a c p : Addr} (h : Keeps μ μ1 a c) (n : μ p = none) : Keeps μ (delM μ1 p) a c := fun b x y z => by
  rw [delM_ne (γ := Gd.non) (fun e => z (by rw [e]; exact n))]
  exact h b x y z
theorem free_of {μ μ1 : Mh} {a c p : Addr} (h : Keeps μ μ1 a c) (ha : μ1 a ≠ none) (hc : μ1 c ≠ none) (n : μ1 p = none) : μ p = none := by
  cases e : μ p with
  | none => rfl
  | some o =>
    have pa : p ≠ a := fun z => ha (by rw [← z]; exact n)
    have pc : p ≠ c := fun z => hc (by rw [← z]; exact n)
    have := h p pa pc (by rw [e]; exact fun z => by cases z)
    rw [n, e] at this
    cases this
/-- a deck, and what stood before -/
structure Dkk (μ0 μ : Mh) (a c : Addr) (m : Nat) : Prop where
  dk : Dk μ a c m
  kp : Keeps μ0 μ a c
theorem Dkk.ne {μ0 μ : Mh} {a c p : Addr} {m : Nat} (h : Dkk μ0 μ a c m) (n : μ p = none) : p ≠ a ∧ p ≠ c ∧ μ0 p = none := by
  obtain ⟨⟨oa, ha⟩, ⟨oc, hc⟩⟩ := h.dk.isSome
  exact ⟨(fun e => by rw [e, ha] at n; cases n), (fun e => by rw [e, hc] at n; cases n), free_of h.kp (by rw [ha]; exact fun z => by cases z) (by rw [hc]; exact fun z => by cases z) n⟩
theorem Dkk.del {μ0 μ : Mh} {a c p : Addr} {m : Nat} (h : Dkk μ0 μ a c m) (n : p ≠ a ∧ p ≠ c ∧ μ0 p = none) : Dkk μ0 (delM μ p) a c m := ⟨h.dk.keep (delM_ne (γ := Gd.non) n.1.symm) (delM_ne (γ := Gd.non) n.2.1.symm), h.kp.del n.2.2⟩
theorem Dkk.step {μ0 μ μ1 : Mh} {a c : Addr} {m m' : Nat} (h : Dkk μ0 μ a c m') (d : Dk μ1 a c m) (o : OnlyDeck μ μ1 a c) : Dkk μ0 μ1 a c m := ⟨d, h.kp.trans (.deck o)⟩
end K20
set_option Elab.async false
set_option linter.all false
set_option maxRecDepth 100000
set_option maxHeartbeats 2000000
namespace K20
open PySem L2 Dz Qz
open St (nmB TD)
section
variable {ρ : Rho} {μ : Mh} {we wk : WE} {ds : List DV} {k : Nat}
theorem pe_toT (h : St.PEv we ρ μ (.tup ds)) (hk : St.PEv wk ρ μ (.int (k : Nat))) : St.PEv (wSl we wNoPart (wPart wk)) ρ μ (.tup (ds.take k)) := fun P q => h _ (hk _ (by
  show P (.tup (cutD ds none (some (k : Int)))) μ
  rw [cut_to]
  exact q))
end
def wfDBent (M : Nat) : WF := fun ds μ Q => ∃ a c d m N n B, ds = [.obj a, d] ∧ n ≤ M ∧ Bt N n B d ∧ N ≤ 20000 ∧ FAR ≤ B ∧ B ≤ 2 * FAR ∧ Dk μ a c (m + 5 * (M + 1)) ∧ ∀ x μ', Bt (2 * N + 30) (n + 2) (B + 1) x → Dk μ' a c m → Keeps μ μ' a c → Q x μ'
end K20
set_option Elab.async false
set_option linter.all false
set_option maxRecDepth 100000
set_option maxHeartbeats 4000000
namespace K20
open PySem Dz TL PyProof.Rows St
open L2 (Key atI)
/-- what stood stays -/
def Kp0 (μ0 μ : Mh) : Prop := ∀ b, μ0 b ≠ none → μ b = μ0 b
abbrev Gx (d : DV) : Prop := Siz 60000 41 d
abbrev Px (d : DV) : Prop := Siz 11000 30 d
section
variable {a b c d e : DV} {N M K p q r : Nat}
theorem zw {x : Str} (h : (plainS x && decide (x.length ≤ 10)) = true) : Siz 10 0 (.str x) := by
  rw [Bool.and_eq_true, decide_eq_true_eq] at h
  exact (Siz.str h.1).le h.2 (Nat.le_refl _)
theorem zt0 : Siz 0 1 (.tup []) := (Siz.tup Sizs.nil).le (Nat.le_refl _) (Nat.le_refl _)
end
theorem lp {ρ : Rho} {μ : Mh} {wr : WA} {es : List DV} (h : PAv wr ρ μ es) (hl : es.length ≤ 30) : PEv (wLst wr) ρ μ (.lst es) := pe_lst h (sl (by omega))
theorem tp0 {ρ : Rho} {μ : Mh} : PEv (wTup wNil) ρ μ (.tup []) := pe_tup pa_nil (Nat.zero_le _)
end K20
set_option Elab.async false
set_option linter.all false
set_option maxRecDepth 100000
set_option maxHeartbeats 4000000
namespace K20
open PySem Dz TL PyProof.Rows St
open L2 (Key atI)
abbrev ownD (c : Str) : DV := .tup [.str "column", .str "fresha", .str c]
abbrev in1 (a c : Str) : DV := .tup [.str "same", ownD c, colT a c]
theorem pv {w : WE} {ρ : Rho} {μ : Mh} {y : DV} {P : DV → Mh → Prop} (h : PEv w ρ μ y) (k : P y μ) : w ρ μ P := h P k
theorem sm {N p : Nat} {d : DV} (h : Siz N p d) (h1 : N ≤ 11000 := by decide) (h2 : p ≤ 30 := by decide) : Px d := h.le h1 h2
def wfDSpoils : WF := fun ds μ Q => ∃ ps refs wh heard order lim col, ds = [quest refs wh heard order lim, col] ∧ GW ps ∧ GQ ps refs wh heard order lim ∧ (∃ S, (∀ e ∈ S, e ∈ refs) ∧ GCol (kvOf ps) S col) ∧ ∀ L μ', (∀ y ∈ L, Gx y) → L.length ≤ 100 → Kp0 μ μ' → Q (.lst L) μ'
end K20
set_option Elab.async false
set_option linter.all false
set_option maxRecDepth 100000
set_option maxHeartbeats 4000000
namespace K20
open PySem Dz TL PyProof.Rows St
open L2 (Key atI)
section
variable {ρ : Rho} {μ : Mh} {P : DV → Mh → Prop} {wa : WE} {wr : WA} {n : Nat} {wf : WF} {t : WT} {wb : WE}
theorem repr_ (k : wa ρ μ fun d μ1 => Shows d ∧ P (.str (shownD d)) μ1) : wB wRepr (wCons wa wNil) ρ μ P := k
theorem lst_ (k : wr ρ μ fun ds μ1 => ds.length ≤ sizeLine ∧ P (.lst ds) μ1) : wLst wr ρ μ P := k
theorem callI_ (k : wr ρ μ fun ds μ1 => ds.length = n ∧ wf ds μ1 P) : wCall n wf wr ρ μ P := k
theorem callP_ {ix : List Nat} {ys : List DV} (ha : PAv wr ρ μ ys) (hn : (perm ix ys).length = n) (k : wf (perm ix ys) μ P) : wCallP n wf ix wr ρ μ P := ha _ ⟨hn, k⟩
theorem ifI_ (k : t ρ μ fun b μ1 => match b with | true => wa ρ μ1 P | false => wb ρ μ1 P) : wIf t wa wb ρ μ P := k
theorem testI_ {P : Bool → Mh → Prop} (k : wa ρ μ fun d μ1 => match d with | .bool b => P b μ1 | _ => False) : wTest wa ρ μ P := k
theorem appI_ {i : Nat} {p : Addr} {ds : List DV} (h1 : ρ[i]? = some (some (.obj p))) (e : μ p = some (.lst ds)) (k : wa ρ μ fun y μ2 => ∃ ds, μ2 p = some (.lst ds) ∧ ds.length < sizeLine ∧ P .none (updM μ2 p (.lst (ds ++ [y])))) : wApp (wVar i) wa ρ μ P := pe_var h1 _ ⟨by
  show (match μ p with | some (.lst _) => True | _ => False)
  rw [e]
  exact trivial, by
  have f : (fun (y : DV) (μ2 : Mh) => ∃ ds, μ2 p = some (.lst ds) ∧ ds.length < sizeLine ∧ P .none (updM μ2 p (.lst (ds ++ [y])))) = fun y μ2 => (match μ2 p with | some (.lst ds) => ds.length < sizeLine ∧ P .none (updM μ2 p (.lst (ds ++ [y]))) | _ => False) := by
    funext y μ2
    refine propext ⟨fun ⟨ds, e, h⟩ => ?_, fun h => ?_⟩
    · rw [e]
      exact h
    · split at h
      · rename_i ds e
        exact ⟨ds, e, h⟩
      · exact h.elim
  rw [f] at k
  exact k⟩
end
theorem shows_bool (b : Bool) : Shows (.bool b) := (Siz.bool b).shows (by decide) (by decide)
theorem shown_ok (b : Bool) : shapedD (.lst [.str (shownD (.bool b)), .str (shownD (.bool b))]) = true ∧ deepEq (.lst [.str (shownD (.bool b)), .str (shownD (.bool b))]) (.lst [.str (shownD (.bool b)), .str (shownD (.bool b))]) = true := by
  cases b <;> exact ⟨by decide +kernel, by decide +kernel⟩
theorem ne_two {b : Bool} {μ : Mh} {P : DV → Mh → Prop} (q : P (.bool false) μ) : wNeL (.lst [.str (shownD (.bool b)), .str (shownD (.bool b))]) (.lst [.str (shownD (.bool b)), .str (shownD (.bool b))]) μ P := by
  obtain ⟨h1, h2⟩ := shown_ok b
  show (shapedD _ = true ∧ shapedD _ = true ∧ P (.bool (!(deepEq (.lst [.str (shownD (.bool b)), .str (shownD (.bool b))]) (.lst [.str (shownD (.bool b)), .str (shownD (.bool b))])))) μ)
  rw [h2]
  exact ⟨h1, h1, q⟩
theorem dk_kp {μ μ' : Mh} {a c : Addr} {m : Nat} (h : Qz.Dk μ a c m) (k : KpO [] μ μ') : Qz.Dk μ' a c m := by
  obtain ⟨⟨oa, ha⟩, ⟨oc, hc⟩⟩ := h.isSome
  exact h.keep ((k a oa (by simp) ha).trans ha.symm) ((k c oc (by simp) hc).trans hc.symm)
structure PsOk (ps : List TD) : Prop where
  g : GW ps
  nd : (ps.map (·.nm)).Nodup
  few : ps.length ≤ 100
  hc : ∀ d ∈ ps, d.cols.length ≤ 100
  hk : KvOk (kvOf ps)
theorem ps_ok {ps : List TD} (g : GW ps) : PsOk ps := ⟨g, g.nd, by have := g.le; omega, fun d hd => by have := (g.tabs d hd).le; omega, kv_ok g⟩
def w_look (f_q : WF) (f_is : WF) : WS := (wSeq (wPar 12 13 (wCons (wB wRepr (wCons (wVar 10) wNil)) (wCons (wB wRepr (wCons (wCall 2 f_q (wCons (wVar 4) (wCons (wVar 10) wNil))) wNil)) wNil)))
    (wSeq (wIfS (wTest (wBin wNeL (wLst (wCons (wB wRepr (wCons (wCall 2 f_is (wCons (wVar 4) (wCons (wVar 10) wNil))) wNil)) (wCons (wB wRepr (wCons (wCallP 2 f_is [1, 0] (wCons (wVar 10) (wCons (wVar 4) wNil))) wNil)) wNil))) (wLst (wCons (wVar 13) (wCons (wVar 13) wNil))))) (wRet (wC (.bool false))) wNext)
    (wIfS (wTest (wBin wNeL (wB wRepr (wCons (wVar 10) wNil)) (wVar 12))) (wRet (wC (.bool false))) wNext)))
/-- a turn of the last loop -/
theorem look_ok {ps : List TD} (ok : PsOk ps) {x : DV} (hx : Gx x) {E : DEnds} {μ : Mh} {r0 r1 r2 r3 r5 r6 r7 r8 r9 r11 r12 r13 : Option DV} (k : ∀ z12 z13 μ', KpO [] μ μ' → E.nx [r0, r1, r2, r3, some (.tup (ps.map TD.four)), r5, r6, r7, r8, r9, some x, r11, z12, z13] μ') :
    w_look wfLQ wfIsQ E [r0, r1, r2, r3, some (.tup (ps.map TD.four)), r5, r6, r7, r8, r9, some x, r11, r12, r13] μ := by
  have sx : Shows x := hx.shows (by decide) (by decide)
  unfold w_look
  refine seq_par (pv (y := .str (shownD x)) (pe_b (pa_cons (pe_var (i := 10) rfl) pa_nil) fun P q => ⟨sx, q⟩) ?_)
  refine repr_ (call_ (ys := [.tup (ps.map TD.four), x]) (pa_cons (pe_var rfl) (pa_cons (pe_var rfl) pa_nil)) rfl ⟨ps, x, rfl, ok.nd, ok.few, ok.hc, ok.hk, hx, fun μ1 k1 => ⟨shows_bool _, ?_⟩⟩)
  refine seq_ifF (bin_ (lst_ (cons_ (repr_ (call_ (ys := [.tup (ps.map TD.four), x]) (pa_cons (pe_var rfl) (pa_cons (pe_var rfl) pa_nil)) rfl ⟨ps, x, rfl, ok.nd, ok.few, ok.hc, hx, fun μ2 k2 => ⟨shows_bool _, ?_⟩⟩)))))
  refine cons_ (repr_ (callP_ (ys := [x, .tup (ps.map TD.four)]) (pa_cons (pe_var rfl) (pa_cons (pe_var rfl) pa_nil)) rfl ⟨ps, x, rfl, ok.nd, ok.few, ok.hc, hx, fun μ3 k3 => ⟨shows_bool _, ?_⟩⟩))
  refine ⟨sl (Nat.le_of_ble_eq_true rfl), lst_ (cons_v (pe_var rfl) (cons_v (pe_var rfl) ⟨sl (Nat.le_of_ble_eq_true rfl), ne_two ?_⟩))⟩
  refine fls_ok ?_
  have kk : KpO [] μ μ3 := fun b o nb e => k3 b o nb (k2 b o nb (k1 b o nb e))
  exact ifs_v (b := false) (pt_test (pe_bin (pe_b (z := .str (shownD x)) (pa_cons (pe_var (i := 10) rfl) pa_nil) fun P q => ⟨sx, q⟩) (pe_var (i := 12) (y := .str (shownD x)) rfl) fun P q => ne_self _ _ _ q)) (fun z => by cases z) fun _ => k _ _ _ kk
end K20
set_option Elab.async false
set_option linter.all false
set_option maxRecDepth 100000
set_option maxHeartbeats 4000000
namespace K20
open PySem Dz TL PyProof.Rows St
open L2 (Key atI)
open Qz (drawW pickW)
def w_turnQ : WS := (wSeq (wAsg (wCall 4 wfDQuestion (wCons (wVar 1) (wCons (wVar 5) (wCons (wSl (wVar 3) (wPart (wC (.int 8))) wNoPart) (wCons (wC (.int 3)) wNil))))) (wgName 7)) (wSeq (wAsg (wBin wAddL (wLst (wCons (wVar 7) wNil)) (wCall 2 wfDSpoils (wCons (wVar 7) (wCons (wCall 3 wfDCol (wCons (wVar 1) (wCons (wVar 5) (wCons (wSl (wBin wIx (wVar 7) (wC (.int 0))) wNoPart (wPart (wC (.int 1)))) wNil)))) wNil)))) (wgName 8)) (wSeq (wFor (sRng1 (wC (.int 10))) (wgName 9) (wSeq (wAsg (wCall 2 (wfDBent 20) (wCons (wVar 1) (wCons (wVar 7) wNil))) (wgName 11)) (wDrop (wApp (wVar 8) (wIf (wTest (wBin wEqL (wCall 2 drawW (wCons (wVar 1) (wCons (wC (.int 2)) wNil))) (wC (.int 0)))) (wCall 2 (wfDBent 20) (wCons (wVar 1) (wCons (wVar 11) wNil))) (wVar 11)))))) (wSeq (wIfS (wNotT (wTest (wCall 2 wfLQ (wCons (wVar 4) (wCons (wVar 7) wNil))))) (wRet (wC (.bool false))) wNext) (wFor (sLst (wBin wAddI (wVar 8) (wLst (wCons (wC .none) (wCons (wC (.str "")) (wCons (wTup wNil) (wCons (wLst wNil) (wCons (wC (.dct [])) (wCons (wC (.int 7)) wNil))))))))) (wgName 10) (wSeq (wPar 12 13 (wCons (wB wRepr (wCons (wVar 10) wNil)) (wCons (wB wRepr (wCons (wCall 2 wfLQ (wCons (wVar 4) (wCons (wVar 10) wNil))) wNil)) wNil))) (wSeq (wIfS (wTest (wBin wNeL (wLst (wCons (wB wRepr (wCons (wCall 2 wfIsQ (wCons (wVar 4) (wCons (wVar 10) wNil))) wNil)) (wCons (wB wRepr (wCons (wCallP 2 wfIsQ [1, 0] (wCons (wVar 10) (wCons (wVar 4) wNil))) wNil)) wNil))) (wLst (wCons (wVar 13) (wCons (wVar 13) wNil))))) (wRet (wC (.bool false))) wNext) (wIfS (wTest (wBin wNeL (wB wRepr (wCons (wVar 10) wNil)) (wVar 12))) (wRet (wC (.bool false))) wNext))))))))
def w_turn : WS := (wSeq (wAsg (wCall 2 wfDNames (wCons (wVar 1) (wCons (wC (.int 16)) wNil))) (wgName 3)) (wSeq (wAsg (wCall 3 wfDTabled (wCons (wVar 1) (wCons (wVar 3) (wCons (wBin wAdd (wC (.int 1)) (wCall 2 drawW (wCons (wVar 1) (wCons (wC (.int 3)) wNil)))) wNil)))) (wgName 4)) (wSeq (wAsg (wDct [((.inr "tables"), (wVar 4)), ((.inr "columns"), (wCall 1 wfKnown (wCons (wVar 4) wNil)))]) (wgName 5)) (wFor (sRng1 (wC (.int 3))) (wgName 6) (wSeq (wAsg (wCall 4 wfDQuestion (wCons (wVar 1) (wCons (wVar 5) (wCons (wSl (wVar 3) (wPart (wC (.int 8))) wNoPart) (wCons (wC (.int 3)) wNil))))) (wgName 7)) (wSeq (wAsg (wBin wAddL (wLst (wCons (wVar 7) wNil)) (wCall 2 wfDSpoils (wCons (wVar 7) (wCons (wCall 3 wfDCol (wCons (wVar 1) (wCons (wVar 5) (wCons (wSl (wBin wIx (wVar 7) (wC (.int 0))) wNoPart (wPart (wC (.int 1)))) wNil)))) wNil)))) (wgName 8)) (wSeq (wFor (sRng1 (wC (.int 10))) (wgName 9) (wSeq (wAsg (wCall 2 (wfDBent 20) (wCons (wVar 1) (wCons (wVar 7) wNil))) (wgName 11)) (wDrop (wApp (wVar 8) (wIf (wTest (wBin wEqL (wCall 2 drawW (wCons (wVar 1) (wCons (wC (.int 2)) wNil))) (wC (.int 0)))) (wCall 2 (wfDBent 20) (wCons (wVar 1) (wCons (wVar 11) wNil))) (wVar 11)))))) (wSeq (wIfS (wNotT (wTest (wCall 2 wfLQ (wCons (wVar 4) (wCons (wVar 7) wNil))))) (wRet (wC (.bool false))) wNext) (wFor (sLst (wBin wAddI (wVar 8) (wLst (wCons (wC .none) (wCons (wC (.str "")) (wCons (wTup wNil) (wCons (wLst wNil) (wCons (wC (.dct [])) (wCons (wC (.int 7)) wNil))))))))) (wgName 10) (wSeq (wPar 12 13 (wCons (wB wRepr (wCons (wVar 10) wNil)) (wCons (wB wRepr (wCons (wCall 2 wfLQ (wCons (wVar 4) (wCons (wVar 10) wNil))) wNil)) wNil))) (wSeq (wIfS (wTest (wBin wNeL (wLst (wCons (wB wRepr (wCons (wCall 2 wfIsQ (wCons (wVar 4) (wCons (wVar 10) wNil))) wNil)) (wCons (wB wRepr (wCons (wCallP 2 wfIsQ [1, 0] (wCons (wVar 10) (wCons (wVar 4) wNil))) wNil)) wNil))) (wLst (wCons (wVar 13) (wCons (wVar 13) wNil))))) (wRet (wC (.bool false))) wNext) (wIfS (wTest (wBin wNeL (wB wRepr (wCons (wVar 10) wNil)) (wVar 12))) (wRet (wC (.bool false))) wNext))))))))))))
section
variable {ρ : Rho} {μ : Mh} {E : DEnds} {rest bd : WS} {g : WG} {we : WE} {n : Nat}
theorem seq_forR (hn : n ≤ 1000) (k : forW g bd { E with nx := rest E } (rngD 0 n) ρ μ) : wSeq (wFor (sRng1 (wC (.int (n : Nat)))) g bd) rest E ρ μ := ⟨by omega, by omega, by
  rw [Int.toNat_natCast]
  exact k⟩
theorem forR_ (hn : n ≤ 1000) (k : forW g bd E (rngD 0 n) ρ μ) : wFor (sRng1 (wC (.int (n : Nat)))) g bd E ρ μ := ⟨by omega, by omega, by
  rw [Int.toNat_natCast]
  exact k⟩
theorem forL_ {xs : List DV} (h : PEv we ρ μ (.lst xs)) (k : forW g bd E xs ρ μ) : wFor (sLst we) g bd E ρ μ := h _ k
theorem pe_addI2 {i : Nat} {p : Addr} {xs ys : List DV} {wb : WE} (h1 : ρ[i]? = some (some (.obj p))) (hp : μ p = some (.lst xs)) (hb : PEv wb ρ μ (.lst ys)) (l : xs.length + ys.length ≤ 1000) : PEv (wBin wAddI (wVar i) wb) ρ μ (.lst (xs ++ ys)) := fun P q => pe_var h1 _ (hb _ (by
  show (match Dz.look μ (.obj p), Dz.look μ (.lst ys) with | .lst xs, .lst ys => xs.length + ys.length ≤ sizeLine ∧ P (.lst (xs ++ ys)) μ | _, _ => False)
  rw [look_of hp]
  exact ⟨sl (by omega), q⟩))
theorem pe_dct2 {k1 k2 : Key} {w1 w2 : WE} {d1 d2 : DV} (h1 : PEv w1 ρ μ d1) (h2 : PEv w2 ρ μ d2) : PEv (wDct [(k1, w1), (k2, w2)]) ρ μ (.dct [(k1, d1), (k2, d2)]) := fun P q => by
  show w1 ρ μ fun d μ1 => w2 ρ μ1 fun e μ2 => P (.dct [(k1, d), (k2, e)]) μ2
  exact h1 _ (h2 _ q)
theorem eqDraw2 {a c : Addr} {m i : Nat} {many : Int} {P : DV → Mh → Prop} (ha : ρ[i]? = some (some (.obj a))) (h0 : 0 < many) (h1 : many < 2 ^ 64) (h : Qz.Dk μ a c (m + 1)) (k : ∀ (b : Bool) μ1, Qz.Dk μ1 a c m → OnlyDeck μ μ1 a c → P (.bool b) μ1) : wBin wEqL (wCall 2 drawW (wCons (wVar i) (wCons (wC (.int many)) wNil))) (wC (.int 0)) ρ μ P :=
  bin_ (call_ (ys := [.obj a, .int many]) (pa_cons (pe_var ha) (pa_cons pe_c pa_nil)) rfl (Qz.draw_c h0 h1 h fun r μ1 _ _ d o => k (decide (r = 0)) μ1 d o))
end
theorem more_ok : ∀ y ∈ [DV.none, .str "", .tup [], .lst [], .dct [], .int 7], Gx y := fun y hy => by
  simp only [List.mem_cons, List.not_mem_nil, or_false] at hy
  rcases hy with rfl | rfl | rfl | rfl | rfl | rfl
  · exact Siz.none.le (by decide) (by decide)
  · exact (zw (x := "") (by decide +kernel)).le (by decide) (by decide)
  · exact zt0.le (by decide) (by decide)
  · exact (Siz.lst Sizs.nil).le (by decide) (by decide)
  · exact Siz.dct0.le (by decide) (by decide)
  · exact (Siz.int (by decide)).le (by decide) (by decide)
theorem turnQ_ok {ps : List TD} (ok : PsOk ps) {names : List Str} (h16 : names.length = 16) (nm : ∀ x ∈ names, NmP x) (nd : names.Nodup) {a c : Addr} {E : DEnds} {μ : Mh} {m : Nat} {r0 r2 r6 r7 r8 r9 r10 r11 r12 r13 : Option DV} (hd : Qz.Dk μ a c (m + 3200))
    (k : ∀ z7 z8 z9 z10 z11 z12 z13 μ', Qz.Dk μ' a c m → E.nx [r0, some (.obj a), r2, some (.lst (names.map .str)), some (.tup (ps.map TD.four)), some (world ps), r6, z7, z8, z9, z10, z11, z12, z13] μ') :
    w_turnQ E [r0, some (.obj a), r2, some (.lst (names.map .str)), some (.tup (ps.map TD.four)), some (world ps), r6, r7, r8, r9, r10, r11, r12, r13] μ := by
  unfold w_turnQ
  have pdrop : PEv (wSl (wVar 3) (wPart (wC (.int 8))) wNoPart) [r0, some (.obj a), r2, some (.lst (names.map .str)), some (.tup (ps.map TD.four)), some (world ps), r6, r7, r8, r9, r10, r11, r12, r13] μ (.lst ((names.drop 8).map .str)) := by
    rw [List.map_drop]
    exact pe_dropL (k := 8) (pe_var rfl)
  refine seq_ (call_ (ys := [.obj a, world ps, .lst ((names.drop 8).map .str), .int 3]) (pa_cons (pe_var rfl) (pa_cons (pe_var rfl) (pa_cons pdrop (pa_cons pe_c pa_nil)))) rfl ⟨a, c, ps, m + 2200, names.drop 8, rfl, ok.g, by rw [List.length_drop]; omega, fun x hx => nm x (List.mem_of_mem_drop hx), nd.sublist (List.drop_sublist _ _), hd.le (by omega), fun refs wh heard order lim μ1 gq d1 _ => ?_⟩)
  obtain ⟨asked, ea⟩ : ∃ x, quest refs wh heard order lim = x := ⟨_, rfl⟩
  have za : Siz 9400 11 asked := by rw [← ea]; exact gq.siz ok.g
  have ca : chkQ (kvOf ps) 41 asked = true := by rw [← ea]; exact gq.ok
  have bta : Bt 9400 11 FAR asked := ⟨za, chkQ_bd ok.hk ca⟩
  have ga : Gx asked := za.le (by decide) (by decide)
  have l1 : 0 < (refs.take 1).length := by rw [List.length_take]; have := gq.so.ne; omega
  have l2 : (refs.take 1).length ≤ 20 := by rw [List.length_take]; omega
  have sok : SOk (kvOf ps) (refs.take 1) := ⟨l1, l2, fun e he => gq.so.all e (List.mem_of_mem_take he)⟩
  have pcut : ∀ {ρ : Rho} {μ : Mh}, ρ[7]? = some (some (quest refs wh heard order lim)) → PEv (wSl (wBin wIx (wVar 7) (wC (.int 0))) wNoPart (wPart (wC (.int 1)))) ρ μ (.tup (scT (refs.take 1))) := fun h => by
    have e : scT (refs.take 1) = (scT refs).take 1 := List.map_take
    rw [e]
    exact pe_toT (k := 1) (pe_ixT (ds := [.tup (scT refs), wh, .tup heard, .tup order, lim]) (pe_var h) pe_c Qz.atI_zero) pe_c
  refine seq_ (bin_ (lst_ (cons_v (pe_var (y := quest refs wh heard order lim) rfl) ⟨sl (Nat.le_of_ble_eq_true rfl), ?_⟩)))
  refine callI_ (cons_v (pe_var (y := quest refs wh heard order lim) rfl) (cons_ (call_ (ys := [.obj a, world ps, .tup (scT (refs.take 1))]) (pa_cons (pe_var rfl) (pa_cons (pe_var rfl) (pa_cons (pcut rfl) pa_nil))) rfl ⟨a, c, ps, m + 2198, refs.take 1, rfl, ok.g, d1.le (by omega), sok, fun col μ2 gc d2 o2 => ⟨rfl, ps, refs, wh, heard, order, lim, col, rfl, ok.g, gq, ⟨refs.take 1, fun e he => List.mem_of_mem_take he, gc⟩, fun L μ3 hL lL kp3 => ?_⟩⟩)))
  refine addL_ (xs := [quest refs wh heard order lim]) (ys := L) rfl (by show 1 + L.length ≤ 1000; omega) fun p8 hp8 => ?_
  rw [ea]
  have d3 : Qz.Dk μ3 a c (m + 2198) := by
    obtain ⟨⟨oa, ha⟩, ⟨oc, hc⟩⟩ := d2.isSome
    exact d2.keep (kp3 a (by rw [ha]; exact fun z => by cases z)) (kp3 c (by rw [hc]; exact fun z => by cases z))
  obtain ⟨⟨oa, ha⟩, ⟨oc, hc⟩⟩ := d3.isSome
  have pa : p8 ≠ a := fun e => by rw [e, ha] at hp8; cases hp8
  have pc : p8 ≠ c := fun e => by rw [e, hc] at hp8; cases hp8
  have d4 : Qz.Dk (updM μ3 p8 (.lst ([asked] ++ L))) a c (m + 2198) := d3.keep (updM_ne pa.symm) (updM_ne pc.symm)
  have e4 : updM μ3 p8 (.lst ([asked] ++ L)) p8 = some (.lst ([asked] ++ L)) := updM_same
  have g4 : ∀ y ∈ [asked] ++ L, Gx y := fun y hy => by
    rcases List.mem_append.mp hy with hy | hy
    · rw [List.mem_singleton] at hy
      rw [hy]
      exact ga
    · exact hL y hy
  have n4 : ([asked] ++ L).length ≤ 101 := by rw [List.length_append]; show 1 + L.length ≤ 101; omega
  generalize updM μ3 p8 (.lst ([asked] ++ L)) = μ4 at d4 e4 ⊢
  generalize [asked] ++ L = L4 at e4 g4 n4
  let B : Option DV → Option DV → Rho := fun z9 z11 => [r0, some (.obj a), r2, some (.lst (names.map .str)), some (.tup (ps.map TD.four)), some (world ps), r6, some asked, some (.obj p8), z9, r10, z11, r12, r13]
  refine seq_forR (n := 10) (by decide) ?_
  refine for_rule (I := fun j ρ μ' => (∃ z9 z11, ρ = B z9 z11) ∧ Qz.Dk μ' a c (m + j * 211) ∧ ∃ L, μ' p8 = some (.lst L) ∧ (∀ y ∈ L, Gx y) ∧ L.length + j ≤ 111) (n := 0) _ _ _ (fun x hx j ρ μ5 F hi hrt _ hnx _ => ?_) ⟨⟨r9, r11, rfl⟩, d4.le (by rw [rngD_len]; omega), L4, e4, g4, by rw [rngD_len]; omega⟩ (fun ρ μ5 hi => ?_)
  · obtain ⟨⟨z9, z11, rfl⟩, dk, L5, e5, g5, n5⟩ := hi
    rw [Nat.succ_mul, ← Nat.add_assoc] at dk
    refine nameJ_ (seq_ (call_ (ys := [.obj a, asked]) (pa_cons (pe_var rfl) (pa_cons (pe_var rfl) pa_nil)) rfl ⟨a, c, asked, m + j * 211 + 106, 9400, 11, FAR, rfl, by decide, bta, by decide, Nat.le_refl _, by decide, dk.le (by omega), fun x1 μ6 hx1 d6 k6 => ?_⟩))
    have e6 : μ6 p8 = some (.lst L5) := (k6 p8 pa pc (by rw [e5]; exact fun z => by cases z)).trans e5
    have fin : ∀ y μ8, Gx y → Qz.Dk μ8 a c (m + j * 211) → μ8 p8 = some (.lst L5) → ∃ ds, μ8 p8 = some (.lst ds) ∧ ds.length < sizeLine ∧ F.nx (B (some x) (some x1)) (updM μ8 p8 (.lst (ds ++ [y]))) := fun y μ8 gy d8 e8 => ⟨L5, e8, Nat.lt_of_lt_of_le (show L5.length < 1000000 by omega) (sl (Nat.le_refl _)), hnx _ _ ⟨⟨_, _, rfl⟩, d8.keep (updM_ne pa.symm) (updM_ne pc.symm), L5 ++ [y], updM_same, fun z hz => by
      rcases List.mem_append.mp hz with hz | hz
      · exact g5 z hz
      · rw [List.mem_singleton] at hz
        rw [hz]
        exact gy, by rw [List.length_append]; show L5.length + 1 + j ≤ 111; omega⟩⟩
    refine St.drop_ (appI_ rfl e6 (ifI_ (testI_ (eqDraw2 (m := m + j * 211 + 105) rfl (by decide) (by decide) d6 fun b μ7 d7 o7 => ?_))))
    have e7 : μ7 p8 = some (.lst L5) := (o7 p8 pa pc).trans e6
    cases b with
    | true =>
      show (wCall 2 (wfDBent 20) (wCons (wVar 1) (wCons (wVar 11) wNil))) (B (some x) (some x1)) μ7 _
      exact call_ (ys := [.obj a, x1]) (pa_cons (pe_var rfl) (pa_cons (pe_var rfl) pa_nil)) rfl ⟨a, c, x1, m + j * 211, 18830, 13, FAR + 1, rfl, by decide, hx1, by decide, by decide, by decide, d7, fun x2 μ8 hx2 d8 k8 => fin x2 μ8 (hx2.siz.le (by decide) (by decide)) d8 ((k8 p8 pa pc (by rw [e7]; exact fun z => by cases z)).trans e7)⟩
    | false =>
      show (wVar 11) (B (some x) (some x1)) μ7 _
      exact pv (y := x1) (pe_var rfl) (fin x1 μ7 (hx1.siz.le (by decide) (by decide)) (d7.le (by omega)) e7)
  · obtain ⟨⟨z9, z11, rfl⟩, d5, L5, e5, g5, n5⟩ := hi
    dsimp only
    refine seq_not (call_ (ys := [.tup (ps.map TD.four), asked]) (pa_cons (pe_var rfl) (pa_cons (pe_var rfl) pa_nil)) rfl ⟨ps, asked, rfl, ok.nd, ok.few, ok.hc, ok.hk, ga, fun μ6 k6 => ?_⟩)
    rw [ca]
    refine tru_ok ?_
    have d6 := dk_kp d5 k6
    have e6 : μ6 p8 = some (.lst L5) := k6 p8 _ (by simp) e5
    refine forL_ (pe_addI2 (p := p8) (xs := L5) (ys := [.none, .str "", .tup [], .lst [], .dct [], .int 7]) rfl e6 (lp (pa_cons pe_c (pa_cons pe_c (pa_cons tp0 (pa_cons (pe_lst pa_nil (Nat.zero_le _)) (pa_cons pe_c (pa_cons pe_c pa_nil)))))) (Nat.le_of_ble_eq_true rfl)) (by show L5.length + 6 ≤ 1000; omega)) ?_
    let C : Option DV → Option DV → Option DV → Rho := fun z10 z12 z13 => [r0, some (.obj a), r2, some (.lst (names.map .str)), some (.tup (ps.map TD.four)), some (world ps), r6, some asked, some (.obj p8), z9, z10, z11, z12, z13]
    refine for_rule (I := fun j ρ μ' => (∃ z10 z12 z13, ρ = C z10 z12 z13) ∧ Qz.Dk μ' a c m) (n := 0) _ _ _ (fun x hx j ρ μ7 F hi hrt _ hnx _ => ?_) ⟨⟨r10, r12, r13, rfl⟩, d6.le (by omega)⟩ (fun ρ μ7 hi => ?_)
    · obtain ⟨⟨z10, z12, z13, rfl⟩, d7⟩ := hi
      have gx : Gx x := (List.mem_append.mp hx).elim (g5 x) (more_ok x)
      refine nameJ_ ?_
      show w_look wfLQ wfIsQ F (C (some x) z12 z13) μ7
      exact look_ok ok gx fun y12 y13 μ8 k8 => hnx _ _ ⟨⟨some x, y12, y13, rfl⟩, dk_kp d7 k8⟩
    · obtain ⟨⟨z10, z12, z13, rfl⟩, d7⟩ := hi
      exact k _ _ _ _ _ _ _ μ7 d7
theorem turn_ok {a c : Addr} {E : DEnds} {μ : Mh} {m : Nat} {r0 r2 r3 r4 r5 r6 r7 r8 r9 r10 r11 r12 r13 : Option DV} (hd : Qz.Dk μ a c (m + 10000))
    (k : ∀ zs μ', zs.length = 11 → Qz.Dk μ' a c m → E.nx (r0 :: some (.obj a) :: r2 :: zs) μ') :
    w_turn E [r0, some (.obj a), r2, r3, r4, r5, r6, r7, r8, r9, r10, r11, r12, r13] μ := by
  unfold w_turn
  refine seq_ (call_ (ys := [.obj a, .int 16]) (pa_cons (pe_var rfl) (pa_cons pe_c pa_nil)) rfl ⟨a, c, m + 9990, 16, rfl, by decide, hd.le (by omega), fun names μ1 h16 nm nd d1 _ => ?_⟩)
  refine seq_ (callI_ (cons_v (pe_var (y := .obj a) rfl) (cons_v (pe_var (y := .lst (names.map .str)) rfl) (cons_ (bin_r (pe_c (y := .int 1)) (call_ (ys := [.obj a, .int 3]) (pa_cons (pe_var rfl) (pa_cons pe_c pa_nil)) rfl (Qz.draw_c (m := m + 9989) (by decide) (by decide) d1 fun r μ2 q0 q1 d2 o2 => ?_)))))))
  obtain ⟨r, rfl⟩ := Int.eq_ofNat_of_zero_le q0
  refine ⟨rfl, a, c, m + 9900, names, 1 + r, rfl, by omega, by omega, nm, nd, by omega, by omega, d2.le (by omega), fun ps μ3 g _ d3 _ => ?_⟩
  have ok := ps_ok g
  have pw : PEv (wDct [((.inr "tables"), (wVar 4)), ((.inr "columns"), (wCall 1 wfKnown (wCons (wVar 4) wNil)))]) [r0, some (.obj a), r2, some (.lst (names.map .str)), some (.tup (ps.map TD.four)), r5, r6, r7, r8, r9, r10, r11, r12, r13] μ3 (world ps) := pe_dct2 (pe_var rfl) (pe_call (ys := [.tup (ps.map TD.four)]) (pa_cons (pe_var rfl) pa_nil) rfl fun P k => ⟨ps, rfl, ok.nd, ok.few, ok.hc, k⟩)
  refine seq_ (pv pw ?_)
  refine forR_ (n := 3) (by decide) ?_
  let B : Option DV → List (Option DV) → Rho := fun z6 zs => r0 :: some (.obj a) :: r2 :: some (.lst (names.map .str)) :: some (.tup (ps.map TD.four)) :: some (world ps) :: z6 :: zs
  refine for_rule (I := fun j ρ μ' => (∃ z6 zs, zs.length = 7 ∧ ρ = B z6 zs) ∧ Qz.Dk μ' a c (m + j * 3200)) (n := 0) _ _ _ (fun x hx j ρ μ5 F hi hrt _ hnx _ => ?_) ⟨⟨r6, [r7, r8, r9, r10, r11, r12, r13], rfl, rfl⟩, d3.le (by rw [rngD_len]; omega)⟩ (fun ρ μ5 hi => ?_)
  · obtain ⟨⟨z6, zs, hz, rfl⟩, dk⟩ := hi
    rw [Nat.succ_mul, ← Nat.add_assoc] at dk
    match zs, hz with
    | [z7, z8, z9, z10, z11, z12, z13], _ =>
    refine nameJ_ ?_
    exact turnQ_ok ok h16 nm nd dk fun y7 y8 y9 y10 y11 y12 y13 μ' d' => hnx _ _ ⟨⟨some x, [y7, y8, y9, y10, y11, y12, y13], rfl, rfl⟩, d'⟩
  · obtain ⟨⟨z6, zs, hz, rfl⟩, dk⟩ := hi
    exact k _ μ5 (by show (zs.length + 4) = 11; omega) (dk.le (by omega))
def wfLaw : WF := fun ds μ Q => ∃ ns : List Int, ds = [.fix (ns.map .int)] ∧ ∀ μ', Q (.bool true) μ'
theorem p_law (ds : List DV) (μ : Mh) (Q : DV → Mh → Prop) (hl : ds.length = 1) (h : wfLaw ds μ Q) :
    w_law_main (wfDeck "total") wfDNames wfDTabled wfKnown wfDQuestion drawW wfDSpoils (wfDBent 20) wfLQ wfDCol wfIsQ { nx := fun _ μ' => Q .none μ', rt := Q } (ds.map some ++ List.replicate 13 none) μ := by
  obtain ⟨ns, rfl, k⟩ := h
  unfold w_law_main
  let scr : DV := .fix (ns.map .int)
  refine seq_ (call_ (ys := [scr]) (pa_cons (pe_var rfl) pa_nil) rfl ⟨ns, rfl, fun a c μ1 ha hc hd ho => ?_⟩)
  refine seq_forR (n := 4) (by decide) ?_
  refine for_rule (I := fun j ρ μ' => (∃ z2 zs, zs.length = 11 ∧ ρ = some scr :: some (.obj a) :: z2 :: zs) ∧ Qz.Dk μ' a c (j * 10000)) (n := 0) _ _ _ (fun x hx j ρ μ2 F hi hrt _ hnx _ => ?_) ⟨⟨none, List.replicate 11 none, rfl, rfl⟩, hd.le (by rw [rngD_len]; decide)⟩ (fun ρ μ' hi => ?_)
  · obtain ⟨⟨z2, zs, hz, rfl⟩, dk⟩ := hi
    rw [Nat.succ_mul] at dk
    match zs, hz with
    | [z3, z4, z5, z6, z7, z8, z9, z10, z11, z12, z13], _ =>
    refine nameJ_ ?_
    show w_turn F [some scr, some (.obj a), some x, z3, z4, z5, z6, z7, z8, z9, z10, z11, z12, z13] μ2
    exact turn_ok dk fun zs μ' hz d' => hnx _ _ ⟨⟨some x, zs, hz, rfl⟩, d'⟩
  · exact k μ'
end K20
set_option Elab.async false
set_option linter.all false
set_option maxRecDepth 100000
set_option maxHeartbeats 2000000
namespace K01
open PySem Dz TL PyProof.Rows St K20
open L2 (Key atI)
open Qz (drawW pickW draw_c pick_c)
theorem siz_dct2 {N p : Nat} {d : DV} (h : Siz N p d) : Siz (N + 5) (p + 1) (.dct [(.inr "a", d), (.inl 7, .none)]) := by
  have hs := Siz.str (x := "a") (by decide +kernel)
  have hi := Siz.int (i := 7) (by decide)
  have el : ("a" : Str).length = 1 := by decide +kernel
  refine ⟨?_, ?_, ?_, ?_, ?_, by show (plainS "a" && plD d && (true && true)) = true; rw [h.pl]; decide +kernel⟩
  · show (noObj d && (true && true)) = true
    rw [h.no]; rfl
  · show (true && (toPy d).showable && ((PyData.int 7).showable && true && true)) = true
    rw [h.sh, show (PyData.int 7).showable = true from hi.sh]; rfl
  · show ((PyData.str "a").leavesShort 64 && (toPy d).leavesShort 64 && ((PyData.int 7).leavesShort 64 && PyData.none.leavesShort 64 && true)) = true
    rw [show (PyData.str "a").leavesShort 64 = true from hs.lv, h.lv, show (PyData.int 7).leavesShort 64 = true from hi.lv]; rfl
  · show ("a" : Str).cps.size + (toPy d).bulk + 2 + (0 + 0 + 2 + 0) ≤ _
    have := h.bk
    have e : ("a" : Str).cps.size = 1 := el
    omega
  · show max (max 0 (toPy d).depth) (max (max 0 0) 0) + 1 ≤ _
    have := h.dp
    omega
def bk : Nat → Nat
  | 0 => 15
  | n + 1 => 3 * bk n + 5
def cost : Nat → Nat
  | 0 => 2
  | n + 1 => 3 * cost n + 2
theorem bk_le (n : Nat) : 15 ≤ bk n := by
  induction n with
  | zero => decide
  | succ n ih => unfold bk; omega
theorem cost_le (n : Nat) : 2 ≤ cost n := by
  induction n with
  | zero => decide
  | succ n ih => unfold cost; omega
abbrev Th (n : Nat) (d : DV) : Prop := Siz (bk n) (n + 1) d
def wfThing (n : Nat) : WF := fun ds μ Q => ∃ a c m, ds = [.obj a, .int (n : Nat)] ∧ Qz.Dk μ a c (m + cost n) ∧ ∀ d μ', Th n d → Qz.Dk μ' a c m → OnlyDeck μ μ' a c → Q d μ'
/-- some things -/
theorem things_c {F : WF} {a c : Addr} {m n r i : Nat} {wr : WA} {ρ : Rho} {μ : Mh} {P : List DV → Mh → Prop} (hr : r ≤ 1000) (hF : ∀ ds μ Q, wfThing n ds μ Q → F ds μ Q) (ha : ∀ x μ, PAv wr (ρ.set i (some x)) μ [.obj a, .int (n : Nat)])
    (hd : Qz.Dk μ a c (m + r * cost n)) (k : ∀ zs μ', (∀ y ∈ zs, Th n y) → zs.length = r → Qz.Dk μ' a c m → OnlyDeck μ μ' a c → P zs μ') : compW (wgName i) wYes (wCall 2 F wr) ρ (rngD 0 r) [] μ P := by
  refine comp_all (G := Th n) (I := fun j μ' => Qz.Dk μ' a c (m + j * cost n) ∧ OnlyDeck μ μ' a c) (n := 0) _ _ _ _ (fun x hx μ2 j P2 ⟨d2, o2⟩ k2 => ?_) (by rw [rngD_len]; exact sl (by show 0 + r ≤ _; omega)) (fun y hy => by cases hy) ⟨by rw [rngD_len, Nat.zero_add]; exact hd, .refl⟩ (fun zs μ2 h1 h2 ⟨d2, o2⟩ => k zs μ2 h1 (by rw [h2, rngD_len]; exact Nat.zero_add _) (by rw [Nat.zero_mul] at d2; exact d2) o2)
  refine nameJ_ (call_ (ha x μ2) rfl (hF _ _ _ ⟨a, c, m + j * cost n, rfl, by rw [Nat.succ_mul, ← Nat.add_assoc] at d2; exact d2, fun d μ3 t d3 o3 => k2 d μ3 t ⟨d3, o2.trans o3⟩⟩))
theorem siz_th {n r : Nat} {zs : List DV} (h : ∀ y ∈ zs, Th n y) (hr : zs.length ≤ r) (hr2 : r ≤ 3) : Sizs (bk (n + 1)) (n + 1) zs := by
  refine (Sizs.all h).le ?_ (Nat.le_refl _)
  have h1 : zs.length * (bk n + 1) ≤ 3 * (bk n + 1) := Nat.mul_le_mul_right _ (by omega)
  show zs.length * (bk n + 1) ≤ 3 * bk n + 5
  omega
def leaves : List DV := [.none, .bool true, .bool false, .int 0, .int (-1), .int (10 ^ 39), .str "", .str "kind", .str "several", .tup [.int 1, .int 2], .tup [], .lst [], .tup [.str "no", .str "t", .str "a", .str "word"], .int 2000]
theorem leaf_th {d : DV} (h : d ∈ leaves) : Siz 15 1 d := by
  have e0 : ("" : Str).length = 0 := by decide +kernel
  have e1 : ("kind" : Str).length = 4 := by decide +kernel
  have e2 : ("several" : Str).length = 7 := by decide +kernel
  have e3 : ("no" : Str).length = 2 := by decide +kernel
  have e4 : ("t" : Str).length = 1 := by decide +kernel
  have e5 : ("a" : Str).length = 1 := by decide +kernel
  have e6 : ("word" : Str).length = 4 := by decide +kernel
  unfold leaves at h
  simp only [List.mem_cons, List.not_mem_nil, or_false] at h
  rcases h with rfl | rfl | rfl | rfl | rfl | rfl | rfl | rfl | rfl | rfl | rfl | rfl | rfl | rfl
  · exact Siz.none.le (by omega) (by omega)
  · exact (Siz.bool true).le (by omega) (by omega)
  · exact (Siz.bool false).le (by omega) (by omega)
  · exact (Siz.int (by decide)).le (by omega) (by omega)
  · exact (Siz.int (by decide)).le (by omega) (by omega)
  · exact (Siz.int (by decide)).le (by omega) (by omega)
  · exact (Siz.str (by decide +kernel)).le (by omega) (by omega)
  · exact (Siz.str (by decide +kernel)).le (by omega) (by omega)
  · exact (Siz.str (by decide +kernel)).le (by omega) (by omega)
  · exact (Siz.tup (Sizs.cons (Siz.int (i := 1) (by decide)) (Sizs.cons (Siz.int (i := 2) (by decide)) Sizs.nil))).le (by omega) (by omega)
  · exact (Siz.tup Sizs.nil).le (by omega) (by omega)
  · exact (Siz.lst Sizs.nil).le (by omega) (by omega)
  · exact (Siz.tup (Sizs.cons (Siz.str (x := "no") (by decide +kernel)) (Sizs.cons (Siz.str (x := "t") (by decide +kernel)) (Sizs.cons (Siz.str (x := "a") (by decide +kernel)) (Sizs.cons (Siz.str (x := "word") (by decide +kernel)) Sizs.nil))))).le (by omega) (by omega)
  · exact (Siz.int (by decide)).le (by omega) (by omega)
theorem dct2_ {k1 k2 : Key} {w1 w2 : WE} {ρ : Rho} {μ : Mh} {P : DV → Mh → Prop} (k : w1 ρ μ fun d μ1 => w2 ρ μ1 fun e μ2 => P (.dct [(k1, d), (k2, e)]) μ2) : wDct [(k1, w1), (k2, w2)] ρ μ P := k
theorem tupB_ {w : WE} {ρ : Rho} {μ : Mh} {P : DV → Mh → Prop} (k : w ρ μ fun d μ1 => wTuple [d] μ1 P) : wB wTuple (wCons w wNil) ρ μ P := k
theorem lcR1_ {w : WE} {g : WG} {t : WT} {e : WE} {vs : List Nat} {ρ : Rho} {μ : Mh} {P : DV → Mh → Prop} (k : w ρ μ fun d μ1 => match d with | .int j => j < 2 ^ 62 ∧ -(2 ^ 62) ≤ j ∧ compW g t e (wipeD ρ vs) (rngD 0 j.toNat) [] μ1 fun acc μ2 => P (.lst acc) μ2 | _ => False) : wLc (sRng1 w) g t e vs ρ μ P := k
def w_leaf : WS := (wSeq (wAsg (wLst (wCons (wC .none) (wCons (wC (.bool true)) (wCons (wC (.bool false)) (wCons (wC (.int 0)) (wCons (wUn wNeg (wC (.int 1))) (wCons (wBin wPow (wC (.int 10)) (wC (.int 39))) (wCons (wC (.str "")) (wCons (wC (.str "kind")) (wCons (wC (.str "several")) (wCons (wTup (wCons (wC (.int 1)) (wCons (wC (.int 2)) wNil))) (wCons (wTup wNil) (wCons (wLst wNil) (wCons (wTup (wCons (wC (.str "no")) (wCons (wC (.str "t")) (wCons (wC (.str "a")) (wCons (wC (.str "word")) wNil))))) (wCons (wC (.int 2000)) wNil))))))))))))))) (wgName 4))
    (wRet (wCall 2 pickW (wCons (wVar 0) (wCons (wVar 4) wNil)))))
theorem leaf_ok {E : DEnds} {a c : Addr} {m : Nat} {r1 r2 r3 r4 : Option DV} {μ : Mh} (hd : Qz.Dk μ a c (m + 1)) (k : ∀ d μ', Siz 15 1 d → Qz.Dk μ' a c m → OnlyDeck μ μ' a c → E.rt d μ') : w_leaf E [some (.obj a), r1, r2, r3, r4] μ := by
  have pc : ∀ {y : DV} {ρ : Rho}, PEv (wC y) ρ μ y := pe_c
  have e39 : (10 : Int) ^ (39 : Int).toNat = 10 ^ 39 := by decide +kernel
  unfold w_leaf
  have pl : ∀ {wr : WA} {ρ : Rho} {ys : List DV}, PAv wr ρ μ ys → ys.length ≤ 1000 → PEv (wLst wr) ρ μ (.lst ys) := fun h l => pe_lst h (sl (by omega))
  have pt : ∀ {wr : WA} {ρ : Rho} {ys : List DV}, PAv wr ρ μ ys → ys.length ≤ 1000 → PEv (wTup wr) ρ μ (.tup ys) := fun h l => pe_tup h (sl (by omega))
  have pn : ∀ {ρ : Rho}, PEv (wUn wNeg (wC (.int 1))) ρ μ (.int (-1)) := fun P q => q
  have pp : ∀ {ρ : Rho}, PEv (wBin wPow (wC (.int 10)) (wC (.int 39))) ρ μ (.int (10 ^ 39)) := fun P q => ⟨cpow_ten (by decide) (by decide), by rw [e39]; exact q⟩
  refine seq_asg (y := .lst leaves) (pl (pa_cons pc (pa_cons pc (pa_cons pc (pa_cons pc (pa_cons pn (pa_cons pp (pa_cons pc (pa_cons pc (pa_cons pc (pa_cons (pt (pa_cons pc (pa_cons pc pa_nil)) (Nat.le_of_ble_eq_true rfl)) (pa_cons (pt pa_nil (Nat.le_of_ble_eq_true rfl)) (pa_cons (pl pa_nil (Nat.le_of_ble_eq_true rfl)) (pa_cons (pt (pa_cons pc (pa_cons pc (pa_cons pc (pa_cons pc pa_nil)))) (Nat.le_of_ble_eq_true rfl)) (pa_cons pc pa_nil)))))))))))))) (Nat.le_of_ble_eq_true rfl)) ?_
  exact ret_ (call_ (ys := [.obj a, .lst leaves]) (pa_cons (pe_var rfl) (pa_cons (pe_var rfl) pa_nil)) rfl (pick_c (by decide) (by decide) hd fun x μ' hx d' o' => k x μ' (leaf_th hx) d' o'))
theorem p_law_thing (F : WF) (n : Nat) (hF : ∀ n', n = n' + 1 → ∀ ds μ Q, wfThing n' ds μ Q → F ds μ Q) (ds : List DV) (μ : Mh) (Q : DV → Mh → Prop) (hl : ds.length = 2) (h : wfThing n ds μ Q) :
    w_law_thing drawW F pickW { nx := fun _ μ' => Q .none μ', rt := Q } (ds.map some ++ List.replicate 3 none) μ := by
  obtain ⟨a, c, m, rfl, hd, k⟩ := h
  have cl := cost_le n
  have bl := bk_le n
  unfold w_law_thing
  refine seq_ (call_ (ys := [.obj a, .int 12]) (pa_cons (pe_var rfl) (pa_cons pe_c pa_nil)) rfl (draw_c (m := m + (cost n - 1)) (by decide) (by decide) (hd.le (by omega)) fun way μ1 q0 q1 d1 o1 => ?_))
  show wSeq _ _ _ [some (.obj a), some (.int (n : Nat)), some (.int way), none, none] μ1
  have deep : ∀ {b : Bool}, (b && decide (0 < (n : Int))) = true → ∃ n', n = n' + 1 := fun {b} e => ⟨n - 1, by
    have := of_decide_eq_true (Bool.and_eq_true_iff.mp e).2
    omega⟩
  have hgt : PTv (wTest (wBin wGt (wVar 1) (wC (.int 0)))) [some (.obj a), some (.int (n : Nat)), some (.int way), none, none] μ1 (decide (0 < (n : Int))) := pt_test (pe_bin (pe_var rfl) pe_c fun P q => q)
  have hsub : ∀ (n' : Nat), n = n' + 1 → ∀ x μ, PAv (wCons (wVar 0) (wCons (wBin wSub (wVar 1) (wC (.int 1))) wNil)) (([some (.obj a), some (.int (n : Nat)), some (.int way), none, none] : Rho).set 3 (some x)) μ [.obj a, .int (n' : Nat)] := fun n' e x μ => pa_cons (pe_var rfl) (pa_cons (pe_bin (pe_var (y := .int (n : Nat)) rfl) pe_c fun P q => by
    have e2 : ((n : Nat) : Int) - 1 = (n' : Nat) := by omega
    show P (.int ((n : Nat) - 1)) μ
    rw [e2]
    exact q) pa_nil)
  have hsub0 : ∀ (n' : Nat), n = n' + 1 → ∀ μ, PAv (wCons (wVar 0) (wCons (wBin wSub (wVar 1) (wC (.int 1))) wNil)) [some (.obj a), some (.int (n : Nat)), some (.int way), none, none] μ [.obj a, .int (n' : Nat)] := fun n' e μ => pa_cons (pe_var rfl) (pa_cons (pe_bin (pe_var (y := .int (n : Nat)) rfl) pe_c fun P q => by
    have e2 : ((n : Nat) : Int) - 1 = (n' : Nat) := by omega
    show P (.int ((n : Nat) - 1)) μ
    rw [e2]
    exact q) pa_nil)
  have eqn : ∀ {i : Int}, PTv (wTest (wBin wEqL (wVar 2) (wC (.int i)))) [some (.obj a), some (.int (n : Nat)), some (.int way), none, none] μ1 (decide (way = i)) := fun {i} => pt_test (pe_bin (pe_var rfl) pe_c fun P q => q)
  refine seq_if (pt_and (pt_test (pe_bin (pe_var (y := .int way) rfl) (pe_c (y := .int 3)) fun P q => q)) fun _ => hgt) (fun e => ?_) fun _ => seq_if (pt_and eqn fun _ => hgt) (fun e => ?_) fun _ => seq_if (pt_and eqn fun _ => hgt) (fun e => ?_) fun _ => ?_
  · obtain ⟨n', rfl⟩ := deep e
    have hc : cost (n' + 1) = 3 * cost n' + 2 := rfl
    refine ret_ (tupB_ ?_)
    refine lcR1_ (call_ (ys := [.obj a, .int 4]) (pa_cons (pe_var rfl) (pa_cons pe_c pa_nil)) rfl (draw_c (m := m + 3 * cost n') (by decide) (by decide) (d1.le (by omega)) fun r μ2 r0 r1 d2 o2 => ?_))
    obtain ⟨r, rfl⟩ := Int.eq_ofNat_of_zero_le r0
    refine ⟨by omega, by omega, ?_⟩
    rw [Int.toNat_natCast]
    have hm : r * cost n' ≤ 3 * cost n' := Nat.mul_le_mul_right _ (by omega)
    refine things_c (m := m) (n := n') (by omega) (hF n' rfl) (hsub n' rfl) (d2.le (by omega)) fun zs μ3 hz l3 d3 o3 => ?_
    exact k _ _ (Siz.tup (siz_th hz (Nat.le_of_eq l3) (by omega))) d3 ((o1.trans o2).trans o3)
  · obtain ⟨n', rfl⟩ := deep e
    have hc : cost (n' + 1) = 3 * cost n' + 2 := rfl
    refine ret_ ?_
    refine lcR1_ (call_ (ys := [.obj a, .int 3]) (pa_cons (pe_var rfl) (pa_cons pe_c pa_nil)) rfl (draw_c (m := m + 3 * cost n') (by decide) (by decide) (d1.le (by omega)) fun r μ2 r0 r1 d2 o2 => ?_))
    obtain ⟨r, rfl⟩ := Int.eq_ofNat_of_zero_le r0
    refine ⟨by omega, by omega, ?_⟩
    rw [Int.toNat_natCast]
    have hm : r * cost n' ≤ 3 * cost n' := Nat.mul_le_mul_right _ (by omega)
    refine things_c (m := m) (n := n') (by omega) (hF n' rfl) (hsub n' rfl) (d2.le (by omega)) fun zs μ3 hz l3 d3 o3 => ?_
    exact k _ _ (Siz.lst (siz_th hz (Nat.le_of_eq l3) (by omega))) d3 ((o1.trans o2).trans o3)
  · obtain ⟨n', rfl⟩ := deep e
    have hc : cost (n' + 1) = 3 * cost n' + 2 := rfl
    refine ret_ (dct2_ (call_ (hsub0 n' rfl _) rfl (hF n' rfl _ _ _ ⟨a, c, m, rfl, d1.le (by omega), fun d μ2 t d2 o2 => ?_⟩)))
    exact k _ _ ((siz_dct2 t).le (by show bk n' + 5 ≤ 3 * bk n' + 5; omega) (Nat.le_refl _)) d2 (o1.trans o2)
  · exact leaf_ok (m := m) (d1.le (by omega)) fun d μ2 hs d2 o2 => k d μ2 (hs.le bl (by omega)) d2 (o1.trans o2)
end K01
set_option Elab.async false
set_option linter.all false
set_option maxRecDepth 100000
set_option maxHeartbeats 4000000
namespace K01
open PySem Dz TL PyProof.Rows St K20
open L2 (Key atI)
def lt19 {P : Nat → Prop} (h : P 0 ∧ P 1 ∧ P 2 ∧ P 3 ∧ P 4 ∧ P 5 ∧ P 6 ∧ P 7 ∧ P 8 ∧ P 9 ∧ P 10 ∧ P 11 ∧ P 12 ∧ P 13 ∧ P 14 ∧ P 15 ∧ P 16 ∧ P 17 ∧ P 18) : ∀ w, w < 19 → P w
  | 0, _ => h.1
  | 1, _ => h.2.1
  | 2, _ => h.2.2.1
  | 3, _ => h.2.2.2.1
  | 4, _ => h.2.2.2.2.1
  | 5, _ => h.2.2.2.2.2.1
  | 6, _ => h.2.2.2.2.2.2.1
  | 7, _ => h.2.2.2.2.2.2.2.1
  | 8, _ => h.2.2.2.2.2.2.2.2.1
  | 9, _ => h.2.2.2.2.2.2.2.2.2.1
  | 10, _ => h.2.2.2.2.2.2.2.2.2.2.1
  | 11, _ => h.2.2.2.2.2.2.2.2.2.2.2.1
  | 12, _ => h.2.2.2.2.2.2.2.2.2.2.2.2.1
  | 13, _ => h.2.2.2.2.2.2.2.2.2.2.2.2.2.1
  | 14, _ => h.2.2.2.2.2.2.2.2.2.2.2.2.2.2.1
  | 15, _ => h.2.2.2.2.2.2.2.2.2.2.2.2.2.2.2.1
  | 16, _ => h.2.2.2.2.2.2.2.2.2.2.2.2.2.2.2.2.1
  | 17, _ => h.2.2.2.2.2.2.2.2.2.2.2.2.2.2.2.2.2.1
  | 18, _ => h.2.2.2.2.2.2.2.2.2.2.2.2.2.2.2.2.2.2
  | n + 19, h => absurd h (by omega)
/-- the classes, in the law's own order; CF above them all -/
structure KK (kt : KtM) (cs : List Addr) (CF : Addr) : Prop where
  own : ∀ w : Nat, w < 19 → ∀ j : Nat, j < 19 → kt (cs.getD w 0) (.ref (cs.getD j 0)) = some (decide ((j : Int) = (w : Int)))
  cf : ∀ w : Nat, w < 19 → kt (cs.getD w 0) (.ref CF) = some true
  ty : ∀ w : Nat, w < 19 → ∀ t ∈ (["ValueError", "LookupError", "ArithmeticError", "TypeError", "RuntimeError", "AttributeError", "NotImplementedError"] : List String), kt (cs.getD w 0) (.type t) = some false
  ex : ∀ w : Nat, w < 19 → kt (cs.getD w 0) (.type "Exception") = some true
def FoAll (fo : FoM) : List (Addr × Str) → Prop
  | [] => True
  | z :: r => fo z.1 z.2 ∧ FoAll fo r
theorem foAll_of {fo : FoM} : ∀ {l : List (Addr × Str)}, (∀ z ∈ l, fo z.1 z.2) → FoAll fo l
  | [], _ => trivial
  | z :: r, h => ⟨h z List.mem_cons_self, foAll_of fun y hy => h y (List.mem_cons_of_mem _ hy)⟩
def ownD (w : Nat) : DV := .lst ((rngD 0 19).map fun d => match d with | .int k => .bool (decide (k = (w : Int))) | _ => .none)
def othD : DV := .lst (List.replicate 7 (.bool false))
theorem own_lit (w : Nat) : ownD w = .lst [.bool (decide (((0 : Nat) : Int) = (w : Int))), .bool (decide (((1 : Nat) : Int) = (w : Int))), .bool (decide (((2 : Nat) : Int) = (w : Int))), .bool (decide (((3 : Nat) : Int) = (w : Int))), .bool (decide (((4 : Nat) : Int) = (w : Int))), .bool (decide (((5 : Nat) : Int) = (w : Int))), .bool (decide (((6 : Nat) : Int) = (w : Int))), .bool (decide (((7 : Nat) : Int) = (w : Int))), .bool (decide (((8 : Nat) : Int) = (w : Int))), .bool (decide (((9 : Nat) : Int) = (w : Int))), .bool (decide (((10 : Nat) : Int) = (w : Int))), .bool (decide (((11 : Nat) : Int) = (w : Int))), .bool (decide (((12 : Nat) : Int) = (w : Int))), .bool (decide (((13 : Nat) : Int) = (w : Int))), .bool (decide (((14 : Nat) : Int) = (w : Int))), .bool (decide (((15 : Nat) : Int) = (w : Int))), .bool (decide (((16 : Nat) : Int) = (w : Int))), .bool (decide (((17 : Nat) : Int) = (w : Int))), .bool (decide (((18 : Nat) : Int) = (w : Int)))] := rfl
theorem pl {μ : Mh} {wr : WA} {ρ : Rho} {ys : List DV} (h : PAv wr ρ μ ys) (l : ys.length ≤ 1000) : PEv (wLst wr) ρ μ (.lst ys) := pe_lst h (sl (by omega))
theorem le1 {n m : Nat} (h : Nat.ble n m = true) : n ≤ m := Nat.le_of_ble_eq_true h
section
variable {C_BadRow C_BadTable C_Failed C_InvalidCommand C_InvalidText C_KeyTaken C_NameTaken C_NoColumn C_NoCourse C_NoGoal C_NoPlan C_NoQuestion C_NoRow C_NoRun C_NoTable C_NotPlain C_NothingAsked C_Outdated C_TooGreat : Addr}
/-- in the law's order -/
abbrev clsL (C_BadRow C_BadTable C_Failed C_InvalidCommand C_InvalidText C_KeyTaken C_NameTaken C_NoColumn C_NoCourse C_NoGoal C_NoPlan C_NoQuestion C_NoRow C_NoRun C_NoTable C_NotPlain C_NothingAsked C_Outdated C_TooGreat : Addr) : List Addr := [C_Failed, C_NameTaken, C_BadTable, C_NoTable, C_NoColumn, C_BadRow, C_KeyTaken, C_NoRow, C_TooGreat, C_Outdated, C_NoGoal, C_NoCourse, C_NoQuestion, C_NotPlain, C_NoPlan, C_InvalidText, C_InvalidCommand, C_NothingAsked, C_NoRun]
theorem p_own {is : Value → WE → WE} {a : Addr} {w : Nat} {μ : Mh} {Q : DV → Mh → Prop} (hj : ∀ j, j < 19 → ∀ ρ : Rho, ρ[0]? = some (some (.obj a)) → PEv (is (.ref ((clsL C_BadRow C_BadTable C_Failed C_InvalidCommand C_InvalidText C_KeyTaken C_NameTaken C_NoColumn C_NoCourse C_NoGoal C_NoPlan C_NoQuestion C_NoRow C_NoRun C_NoTable C_NotPlain C_NothingAsked C_Outdated C_TooGreat).getD j 0)) (wVar 0)) ρ μ (.bool (decide ((j : Int) = (w : Int))))) (q : Q (ownD w) μ) :
    w_law_own_kinds C_BadRow C_BadTable C_Failed C_InvalidCommand C_InvalidText C_KeyTaken C_NameTaken C_NoColumn C_NoCourse C_NoGoal C_NoPlan C_NoQuestion C_NoRow C_NoRun C_NoTable C_NotPlain C_NothingAsked C_Outdated C_TooGreat is { nx := fun _ μ' => Q .none μ', rt := Q } [some (.obj a), none] μ := by
  rw [own_lit] at q
  unfold w_law_own_kinds
  refine seq_asg (pl (pa_cons (hj 0 (by decide) _ rfl) (pa_cons (hj 1 (by decide) _ rfl) (pa_cons (hj 2 (by decide) _ rfl) (pa_cons (hj 3 (by decide) _ rfl) pa_nil)))) (le1 rfl)) ?_
  refine seq_asg (pe_catL (pe_var rfl) (pl (pa_cons (hj 4 (by decide) _ rfl) (pa_cons (hj 5 (by decide) _ rfl) (pa_cons (hj 6 (by decide) _ rfl) (pa_cons (hj 7 (by decide) _ rfl) pa_nil)))) (le1 rfl)) (sl (le1 rfl))) ?_
  refine seq_asg (pe_catL (pe_var rfl) (pl (pa_cons (hj 8 (by decide) _ rfl) (pa_cons (hj 9 (by decide) _ rfl) (pa_cons (hj 10 (by decide) _ rfl) (pa_cons (hj 11 (by decide) _ rfl) pa_nil)))) (le1 rfl)) (sl (le1 rfl))) ?_
  refine seq_asg (pe_catL (pe_var rfl) (pl (pa_cons (hj 12 (by decide) _ rfl) (pa_cons (hj 13 (by decide) _ rfl) (pa_cons (hj 14 (by decide) _ rfl) pa_nil))) (le1 rfl)) (sl (le1 rfl))) ?_
  refine seq_asg (pe_catL (pe_var rfl) (pl (pa_cons (hj 15 (by decide) _ rfl) (pa_cons (hj 16 (by decide) _ rfl) pa_nil)) (le1 rfl)) (sl (le1 rfl))) ?_
  exact ret_v (pe_catL (pe_var rfl) (pl (pa_cons (hj 17 (by decide) _ rfl) (pa_cons (hj 18 (by decide) _ rfl) pa_nil)) (le1 rfl)) (sl (le1 rfl))) q
theorem p_oth {is : Value → WE → WE} {a : Addr} {μ : Mh} {Q : DV → Mh → Prop} (hj : ∀ t ∈ (["ValueError", "LookupError", "ArithmeticError", "TypeError", "RuntimeError", "AttributeError", "NotImplementedError"] : List String), ∀ ρ : Rho, ρ[0]? = some (some (.obj a)) → PEv (is (.type t) (wVar 0)) ρ μ (.bool false)) (q : Q othD μ) :
    w_law_other_kinds is { nx := fun _ μ' => Q .none μ', rt := Q } [some (.obj a), none] μ := by
  unfold w_law_other_kinds
  refine seq_asg (pl (pa_cons (hj "ValueError" (by decide) _ rfl) (pa_cons (hj "LookupError" (by decide) _ rfl) (pa_cons (hj "ArithmeticError" (by decide) _ rfl) pa_nil))) (le1 rfl)) ?_
  refine seq_asg (pe_catL (pe_var rfl) (pl (pa_cons (hj "TypeError" (by decide) _ rfl) (pa_cons (hj "RuntimeError" (by decide) _ rfl) (pa_cons (hj "AttributeError" (by decide) _ rfl) pa_nil))) (le1 rfl)) (sl (le1 rfl))) ?_
  exact ret_v (pe_catL (pe_var rfl) (pl (pa_cons (hj "NotImplementedError" (by decide) _ rfl) pa_nil) (le1 rfl)) (sl (le1 rfl))) q
theorem pe_isO {kt : KtM} {a C : Addr} {fs : List (Str × DV)} {cv : Value} {b : Bool} {μ : Mh} {ρ : Rho} {i : Nat} (e : μ a = some (.xo C fs)) (k : kt C cv = some b) (h : ρ[i]? = some (some (.obj a))) : PEv (wIsO kt cv (wVar i)) ρ μ (.bool b) := fun P q => pe_var h _ ⟨a, C, fs, b, rfl, e, k, q⟩
theorem pe_isP {kt : KtM} {a C : Addr} {cv : Value} {b : Bool} {μ : Mh} {ρ : Rho} {i : Nat} (k : kt C cv = some b) (h : ρ[i]? = some (some (.obj a))) : PEv (wIsP kt a C cv (wVar i)) ρ μ (.bool b) := fun P q => pe_var h _ ⟨rfl, b, k, q⟩
def wfOwn (cs : List Addr) : WF := fun ds μ Q => ∃ a fs w, w < 19 ∧ ds = [.obj a] ∧ μ a = some (.xo (cs.getD w 0) fs) ∧ Q (ownD w) μ
def wfOth (cs : List Addr) : WF := fun ds μ Q => ∃ a fs w, w < 19 ∧ ds = [.obj a] ∧ μ a = some (.xo (cs.getD w 0) fs) ∧ Q othD μ
def wfOwnH (cs : List Addr) (a C : Addr) : WF := fun ds μ Q => ∃ w, w < 19 ∧ ds = [.obj a] ∧ C = cs.getD w 0 ∧ Q (ownD w) μ
def wfOthH (cs : List Addr) (a C : Addr) : WF := fun ds μ Q => ∃ w, w < 19 ∧ ds = [.obj a] ∧ C = cs.getD w 0 ∧ Q othD μ
variable {kt : KtM} {CF : Addr}
theorem p_law_own_kinds (h : KK kt (clsL C_BadRow C_BadTable C_Failed C_InvalidCommand C_InvalidText C_KeyTaken C_NameTaken C_NoColumn C_NoCourse C_NoGoal C_NoPlan C_NoQuestion C_NoRow C_NoRun C_NoTable C_NotPlain C_NothingAsked C_Outdated C_TooGreat) CF) (ds : List DV) (μ : Mh) (Q : DV → Mh → Prop) (hl : ds.length = 1) (hw : wfOwn (clsL C_BadRow C_BadTable C_Failed C_InvalidCommand C_InvalidText C_KeyTaken C_NameTaken C_NoColumn C_NoCourse C_NoGoal C_NoPlan C_NoQuestion C_NoRow C_NoRun C_NoTable C_NotPlain C_NothingAsked C_Outdated C_TooGreat) ds μ Q) : w_law_own_kinds C_BadRow C_BadTable C_Failed C_InvalidCommand C_InvalidText C_KeyTaken C_NameTaken C_NoColumn C_NoCourse C_NoGoal C_NoPlan C_NoQuestion C_NoRow C_NoRun C_NoTable C_NotPlain C_NothingAsked C_Outdated C_TooGreat (wIsO kt) { nx := fun _ μ' => Q .none μ', rt := Q } (ds.map some ++ List.replicate 1 none) μ := by
  obtain ⟨a, fs, w, lw, rfl, e, q⟩ := hw
  exact p_own (a := a) (fun j hj ρ hr => pe_isO e (h.own w lw j hj) hr) q
theorem p_law_other_kinds (h : KK kt (clsL C_BadRow C_BadTable C_Failed C_InvalidCommand C_InvalidText C_KeyTaken C_NameTaken C_NoColumn C_NoCourse C_NoGoal C_NoPlan C_NoQuestion C_NoRow C_NoRun C_NoTable C_NotPlain C_NothingAsked C_Outdated C_TooGreat) CF) (ds : List DV) (μ : Mh) (Q : DV → Mh → Prop) (hl : ds.length = 1) (hw : wfOth (clsL C_BadRow C_BadTable C_Failed C_InvalidCommand C_InvalidText C_KeyTaken C_NameTaken C_NoColumn C_NoCourse C_NoGoal C_NoPlan C_NoQuestion C_NoRow C_NoRun C_NoTable C_NotPlain C_NothingAsked C_Outdated C_TooGreat) ds μ Q) : w_law_other_kinds (wIsO kt) { nx := fun _ μ' => Q .none μ', rt := Q } (ds.map some ++ List.replicate 1 none) μ := by
  obtain ⟨a, fs, w, lw, rfl, e, q⟩ := hw
  exact p_oth (a := a) (fun t ht ρ hr => pe_isO e (h.ty w lw t ht) hr) q
theorem pH_law_own_kinds (h : KK kt (clsL C_BadRow C_BadTable C_Failed C_InvalidCommand C_InvalidText C_KeyTaken C_NameTaken C_NoColumn C_NoCourse C_NoGoal C_NoPlan C_NoQuestion C_NoRow C_NoRun C_NoTable C_NotPlain C_NothingAsked C_Outdated C_TooGreat) CF) (a C : Addr) (ds : List DV) (μ : Mh) (Q : DV → Mh → Prop) (hl : ds.length = 1) (hw : wfOwnH (clsL C_BadRow C_BadTable C_Failed C_InvalidCommand C_InvalidText C_KeyTaken C_NameTaken C_NoColumn C_NoCourse C_NoGoal C_NoPlan C_NoQuestion C_NoRow C_NoRun C_NoTable C_NotPlain C_NothingAsked C_Outdated C_TooGreat) a C ds μ Q) : w_law_own_kinds C_BadRow C_BadTable C_Failed C_InvalidCommand C_InvalidText C_KeyTaken C_NameTaken C_NoColumn C_NoCourse C_NoGoal C_NoPlan C_NoQuestion C_NoRow C_NoRun C_NoTable C_NotPlain C_NothingAsked C_Outdated C_TooGreat (wIsP kt a C) { nx := fun _ μ' => Q .none μ', rt := Q } (ds.map some ++ List.replicate 1 none) μ := by
  obtain ⟨w, lw, rfl, rfl, q⟩ := hw
  exact p_own (a := a) (fun j hj ρ hr => pe_isP (h.own w lw j hj) hr) q
theorem pH_law_other_kinds (h : KK kt (clsL C_BadRow C_BadTable C_Failed C_InvalidCommand C_InvalidText C_KeyTaken C_NameTaken C_NoColumn C_NoCourse C_NoGoal C_NoPlan C_NoQuestion C_NoRow C_NoRun C_NoTable C_NotPlain C_NothingAsked C_Outdated C_TooGreat) CF) (a C : Addr) (ds : List DV) (μ : Mh) (Q : DV → Mh → Prop) (hl : ds.length = 1) (hw : wfOthH (clsL C_BadRow C_BadTable C_Failed C_InvalidCommand C_InvalidText C_KeyTaken C_NameTaken C_NoColumn C_NoCourse C_NoGoal C_NoPlan C_NoQuestion C_NoRow C_NoRun C_NoTable C_NotPlain C_NothingAsked C_Outdated C_TooGreat) a C ds μ Q) : w_law_other_kinds (wIsP kt a C) { nx := fun _ μ' => Q .none μ', rt := Q } (ds.map some ++ List.replicate 1 none) μ := by
  obtain ⟨w, lw, rfl, rfl, q⟩ := hw
  exact p_oth (a := a) (fun t ht ρ hr => pe_isP (h.ty w lw t ht) hr) q
theorem kp_tr {μ μ' μ'' : Mh} (h : KpO [] μ μ') (k : KpO [] μ' μ'') : KpO [] μ μ'' := fun b o nb e => k b o nb (h b o nb e)
theorem kp_new {μ : Mh} {p : Addr} {o : MO} (n : μ p = none) : KpO [] μ (updM μ p o) := fun b x _ e => by
  rw [updM_ne fun z => by rw [z, n] at e; cases e]
  exact e
theorem no_if {t : WT} {su rest : WS} {E : DEnds} {ρ : Rho} {μ : Mh} (h : PTv t ρ μ false) (k : rest E ρ μ) : wSeq (wIfS t su wNext) rest E ρ μ := seq_if h (fun z => by cases z) fun _ => k
theorem yes_if {t : WT} {su rest : WS} {E : DEnds} {ρ : Rho} {μ : Mh} (h : PTv t ρ μ true) (k : su { E with nx := rest E } ρ μ) : wSeq (wIfS t su wNext) rest E ρ μ := seq_if h (fun _ => k) fun z => by cases z
theorem eq_t {w k : Int} {b : Bool} {ρ : Rho} {μ : Mh} (e : decide (w = k) = b) (h : ρ[0]? = some (some (.int w))) : PTv (wTest (wBin wEqL (wVar 0) (wC (.int k)))) ρ μ b := pt_test (pe_bin (pe_var h) pe_c fun P q => by
  show P (.bool (decide (w = k))) μ
  rw [e]
  exact q)
theorem in_t {w : Int} {ks : List DV} {wr : WA} {b : Bool} {ρ : Rho} {μ : Mh} (ha : PAv wr ρ μ ks) (hl : Nat.ble ks.length 1000 = true) (hf : ks.all flatD = true) (e : inF (.int w) ks = b) (h : ρ[0]? = some (some (.int w))) : PTv (wTest (wBin wIn (wVar 0) (wTup wr))) ρ μ b := pt_test (pe_bin (pe_var h) (pe_tup ha (sl (by have := le1 hl; omega))) fun P q => .inl ⟨rfl, hf, by rw [e]; exact q⟩)
theorem if_y {t : WT} {wa wb : WE} {ρ : Rho} {μ : Mh} {P : DV → Mh → Prop} (h : PTv t ρ μ true) (k : wa ρ μ P) : wIf t wa wb ρ μ P := h _ k
theorem if_n {t : WT} {wa wb : WE} {ρ : Rho} {μ : Mh} {P : DV → Mh → Prop} (h : PTv t ρ μ false) (k : wb ρ μ P) : wIf t wa wb ρ μ P := h _ k
theorem pe_xo {fo : FoM} {f : Str} {wa : WE} {ρ : Rho} {μ : Mh} {a C : Addr} {fs : List (Str × DV)} {y : DV} (h : PEv wa ρ μ (.obj a)) (e : μ a = some (.xo C fs)) (hf : fo C f) (l : fs.lookup f = some y) : PEv (wXo fo f wa) ρ μ y := fun P q => h _ ⟨a, C, fs, y, rfl, e, hf, l, q⟩
def heldL (w : Nat) (ts : List DV) : List DV := if w = 0 then ts else if w ≤ 11 then ts.take 1 else []
def wfMade (cs : List Addr) : WF := fun ds μ Q => ∃ (w : Nat) (t0 t1 t2 : DV), w < 19 ∧ ds = [.int (w : Nat), .lst [t0, t1, t2]] ∧ ∀ p fs μ', μ' p = some (.xo (cs.getD w 0) fs) → KpO [] μ μ' → Q (.lst [.obj p, .lst (heldL w [t0, t1, t2])]) μ'
variable {t0 t1 t2 : DV} {fo : FoM} {μ : Mh}
theorem fin1 {C : Addr} {f : Str} {we : WE} {E : DEnds} {r0 r1 r2 r3 r4 : Option DV} (hwe : ∀ P : DV → Mh → Prop, (∀ p, μ p = none → P (.obj p) (updM μ p (.xo C [(f, t0)]))) → we [r0, r1, r2, r3, r4] μ P) (hf : fo C f) (q : ∀ p, μ p = none → E.rt (.lst [.obj p, .lst [t0]]) (updM μ p (.xo C [(f, t0)]))) :
    wSeq (wAsg we (wgName 3)) (wRet (wLst (wCons (wVar 3) (wCons (wLst (wCons (wXo fo f (wVar 3)) wNil)) wNil)))) E [r0, r1, r2, r3, r4] μ := by
  refine seq_ (hwe _ fun p n => ?_)
  exact ret_v (pl (pa_cons (pe_var (y := .obj p) rfl) (pa_cons (pl (pa_cons (pe_xo (y := t0) (pe_var (y := .obj p) rfl) updM_same hf (by simp [List.lookup])) pa_nil) (le1 rfl)) pa_nil)) (le1 rfl)) (q p n)
theorem new1 {C : Addr} {f : Str} {ρ : Rho} {P : DV → Mh → Prop} (h : ρ[2]? = some (some t0)) (k : ∀ p, μ p = none → P (.obj p) (updM μ p (.xo C [(f, t0)]))) : wNewE C [f] (wCons (wVar 2) wNil) ρ μ P := cons_v (pe_var h) ⟨rfl, k⟩
abbrev foL (C_BadRow C_BadTable C_Failed C_InvalidCommand C_InvalidText C_KeyTaken C_NameTaken C_NoColumn C_NoCourse C_NoGoal C_NoPlan C_NoQuestion C_NoRow C_NoRun C_NoTable C_NotPlain C_NothingAsked C_Outdated C_TooGreat : Addr) : List (Addr × Str) := [(C_Failed, "word"), (C_Failed, "place"), (C_Failed, "numbers"), (C_NameTaken, "name"), (C_BadTable, "part"), (C_NoTable, "name"), (C_NoColumn, "name"), (C_BadRow, "column"), (C_KeyTaken, "column"), (C_NoRow, "number"), (C_TooGreat, "limit"), (C_Outdated, "fact"), (C_NoGoal, "number"), (C_NoCourse, "number")]
theorem made_0 {Q : DV → Mh → Prop} (hfo : FoAll fo (foL C_BadRow C_BadTable C_Failed C_InvalidCommand C_InvalidText C_KeyTaken C_NameTaken C_NoColumn C_NoCourse C_NoGoal C_NoPlan C_NoQuestion C_NoRow C_NoRun C_NoTable C_NotPlain C_NothingAsked C_Outdated C_TooGreat)) (q : ∀ p fs μ', μ' p = some (.xo C_Failed fs) → KpO [] μ μ' → Q (.lst [.obj p, .lst (heldL 0 [t0, t1, t2])]) μ') : w_law_made C_BadRow C_BadTable C_Failed C_InvalidCommand C_InvalidText C_KeyTaken C_NameTaken C_NoColumn C_NoCourse C_NoGoal C_NoPlan C_NoQuestion C_NoRow C_NoRun C_NoTable C_NotPlain C_NothingAsked C_Outdated C_TooGreat fo { nx := fun _ μ' => Q .none μ', rt := Q } [some (.int ((0 : Nat) : Int)), some (.lst [t0, t1, t2]), none, none, none] μ := by
  unfold w_law_made
  refine seq_asg (y := t0) (pe_ixL (ds := [t0, t1, t2]) (pe_var rfl) (pe_c (y := .int 0)) rfl) ?_
  refine yes_if (eq_t (by decide) rfl) ?_
  refine seq_ (cons_v (pe_var (y := t0) rfl) (cons_v (pe_ixL (ds := [t0, t1, t2]) (pe_var rfl) (pe_c (y := .int 1)) (y := t1) rfl) (cons_v (pe_ixL (ds := [t0, t1, t2]) (pe_var rfl) (pe_c (y := .int 2)) (y := t2) rfl) ⟨rfl, fun p n => ?_⟩)))
  exact ret_v (pl (pa_cons (pe_var (y := .obj p) rfl) (pa_cons (pl (pa_cons (pe_xo (y := t0) (pe_var (y := .obj p) rfl) updM_same hfo.1 rfl) (pa_cons (pe_xo (y := t1) (pe_var (y := .obj p) rfl) updM_same hfo.2.1 rfl) (pa_cons (pe_xo (y := t2) (pe_var (y := .obj p) rfl) updM_same hfo.2.2.1 rfl) pa_nil))) (le1 rfl)) pa_nil)) (le1 rfl)) (q p _ _ updM_same (kp_new n))
theorem made_1 {Q : DV → Mh → Prop} (hfo : FoAll fo (foL C_BadRow C_BadTable C_Failed C_InvalidCommand C_InvalidText C_KeyTaken C_NameTaken C_NoColumn C_NoCourse C_NoGoal C_NoPlan C_NoQuestion C_NoRow C_NoRun C_NoTable C_NotPlain C_NothingAsked C_Outdated C_TooGreat)) (q : ∀ p fs μ', μ' p = some (.xo C_NameTaken fs) → KpO [] μ μ' → Q (.lst [.obj p, .lst (heldL 1 [t0, t1, t2])]) μ') : w_law_made C_BadRow C_BadTable C_Failed C_InvalidCommand C_InvalidText C_KeyTaken C_NameTaken C_NoColumn C_NoCourse C_NoGoal C_NoPlan C_NoQuestion C_NoRow C_NoRun C_NoTable C_NotPlain C_NothingAsked C_Outdated C_TooGreat fo { nx := fun _ μ' => Q .none μ', rt := Q } [some (.int ((1 : Nat) : Int)), some (.lst [t0, t1, t2]), none, none, none] μ := by
  unfold w_law_made
  refine seq_asg (y := t0) (pe_ixL (ds := [t0, t1, t2]) (pe_var rfl) (pe_c (y := .int 0)) rfl) ?_
  refine no_if (eq_t (by decide) rfl) ?_
  refine yes_if (in_t (pa_cons (pe_c (y := .int 1)) (pa_cons (pe_c (y := .int 3)) (pa_cons (pe_c (y := .int 4)) pa_nil))) rfl rfl (by decide) rfl) ?_
  exact fin1 (fun P hk => if_y (eq_t (by decide) rfl) (new1 rfl hk)) hfo.2.2.2.1 fun p n => q p _ _ updM_same (kp_new n)
theorem made_2 {Q : DV → Mh → Prop} (hfo : FoAll fo (foL C_BadRow C_BadTable C_Failed C_InvalidCommand C_InvalidText C_KeyTaken C_NameTaken C_NoColumn C_NoCourse C_NoGoal C_NoPlan C_NoQuestion C_NoRow C_NoRun C_NoTable C_NotPlain C_NothingAsked C_Outdated C_TooGreat)) (q : ∀ p fs μ', μ' p = some (.xo C_BadTable fs) → KpO [] μ μ' → Q (.lst [.obj p, .lst (heldL 2 [t0, t1, t2])]) μ') : w_law_made C_BadRow C_BadTable C_Failed C_InvalidCommand C_InvalidText C_KeyTaken C_NameTaken C_NoColumn C_NoCourse C_NoGoal C_NoPlan C_NoQuestion C_NoRow C_NoRun C_NoTable C_NotPlain C_NothingAsked C_Outdated C_TooGreat fo { nx := fun _ μ' => Q .none μ', rt := Q } [some (.int ((2 : Nat) : Int)), some (.lst [t0, t1, t2]), none, none, none] μ := by
  unfold w_law_made
  refine seq_asg (y := t0) (pe_ixL (ds := [t0, t1, t2]) (pe_var rfl) (pe_c (y := .int 0)) rfl) ?_
  refine no_if (eq_t (by decide) rfl) ?_
  refine no_if (in_t (pa_cons (pe_c (y := .int 1)) (pa_cons (pe_c (y := .int 3)) (pa_cons (pe_c (y := .int 4)) pa_nil))) rfl rfl (by decide) rfl) ?_
  refine yes_if (eq_t (by decide) rfl) ?_
  exact fin1 (fun P hk => new1 rfl hk) hfo.2.2.2.2.1 fun p n => q p _ _ updM_same (kp_new n)
theorem made_3 {Q : DV → Mh → Prop} (hfo : FoAll fo (foL C_BadRow C_BadTable C_Failed C_InvalidCommand C_InvalidText C_KeyTaken C_NameTaken C_NoColumn C_NoCourse C_NoGoal C_NoPlan C_NoQuestion C_NoRow C_NoRun C_NoTable C_NotPlain C_NothingAsked C_Outdated C_TooGreat)) (q : ∀ p fs μ', μ' p = some (.xo C_NoTable fs) → KpO [] μ μ' → Q (.lst [.obj p, .lst (heldL 3 [t0, t1, t2])]) μ') : w_law_made C_BadRow C_BadTable C_Failed C_InvalidCommand C_InvalidText C_KeyTaken C_NameTaken C_NoColumn C_NoCourse C_NoGoal C_NoPlan C_NoQuestion C_NoRow C_NoRun C_NoTable C_NotPlain C_NothingAsked C_Outdated C_TooGreat fo { nx := fun _ μ' => Q .none μ', rt := Q } [some (.int ((3 : Nat) : Int)), some (.lst [t0, t1, t2]), none, none, none] μ := by
  unfold w_law_made
  refine seq_asg (y := t0) (pe_ixL (ds := [t0, t1, t2]) (pe_var rfl) (pe_c (y := .int 0)) rfl) ?_
  refine no_if (eq_t (by decide) rfl) ?_
  refine yes_if (in_t (pa_cons (pe_c (y := .int 1)) (pa_cons (pe_c (y := .int 3)) (pa_cons (pe_c (y := .int 4)) pa_nil))) rfl rfl (by decide) rfl) ?_
  exact fin1 (fun P hk => if_n (eq_t (by decide) rfl) (if_y (eq_t (by decide) rfl) (new1 rfl hk))) hfo.2.2.2.2.2.1 fun p n => q p _ _ updM_same (kp_new n)
theorem made_4 {Q : DV → Mh → Prop} (hfo : FoAll fo (foL C_BadRow C_BadTable C_Failed C_InvalidCommand C_InvalidText C_KeyTaken C_NameTaken C_NoColumn C_NoCourse C_NoGoal C_NoPlan C_NoQuestion C_NoRow C_NoRun C_NoTable C_NotPlain C_NothingAsked C_Outdated C_TooGreat)) (q : ∀ p fs μ', μ' p = some (.xo C_NoColumn fs) → KpO [] μ μ' → Q (.lst [.obj p, .lst (heldL 4 [t0, t1, t2])]) μ') : w_law_made C_BadRow C_BadTable C_Failed C_InvalidCommand C_InvalidText C_KeyTaken C_NameTaken C_NoColumn C_NoCourse C_NoGoal C_NoPlan C_NoQuestion C_NoRow C_NoRun C_NoTable C_NotPlain C_NothingAsked C_Outdated C_TooGreat fo { nx := fun _ μ' => Q .none μ', rt := Q } [some (.int ((4 : Nat) : Int)), some (.lst [t0, t1, t2]), none, none, none] μ := by
  unfold w_law_made
  refine seq_asg (y := t0) (pe_ixL (ds := [t0, t1, t2]) (pe_var rfl) (pe_c (y := .int 0)) rfl) ?_
  refine no_if (eq_t (by decide) rfl) ?_
  refine yes_if (in_t (pa_cons (pe_c (y := .int 1)) (pa_cons (pe_c (y := .int 3)) (pa_cons (pe_c (y := .int 4)) pa_nil))) rfl rfl (by decide) rfl) ?_
  exact fin1 (fun P hk => if_n (eq_t (by decide) rfl) (if_n (eq_t (by decide) rfl) (new1 rfl hk))) hfo.2.2.2.2.2.2.1 fun p n => q p _ _ updM_same (kp_new n)
theorem made_5 {Q : DV → Mh → Prop} (hfo : FoAll fo (foL C_BadRow C_BadTable C_Failed C_InvalidCommand C_InvalidText C_KeyTaken C_NameTaken C_NoColumn C_NoCourse C_NoGoal C_NoPlan C_NoQuestion C_NoRow C_NoRun C_NoTable C_NotPlain C_NothingAsked C_Outdated C_TooGreat)) (q : ∀ p fs μ', μ' p = some (.xo C_BadRow fs) → KpO [] μ μ' → Q (.lst [.obj p, .lst (heldL 5 [t0, t1, t2])]) μ') : w_law_made C_BadRow C_BadTable C_Failed C_InvalidCommand C_InvalidText C_KeyTaken C_NameTaken C_NoColumn C_NoCourse C_NoGoal C_NoPlan C_NoQuestion C_NoRow C_NoRun C_NoTable C_NotPlain C_NothingAsked C_Outdated C_TooGreat fo { nx := fun _ μ' => Q .none μ', rt := Q } [some (.int ((5 : Nat) : Int)), some (.lst [t0, t1, t2]), none, none, none] μ := by
  unfold w_law_made
  refine seq_asg (y := t0) (pe_ixL (ds := [t0, t1, t2]) (pe_var rfl) (pe_c (y := .int 0)) rfl) ?_
  refine no_if (eq_t (by decide) rfl) ?_
  refine no_if (in_t (pa_cons (pe_c (y := .int 1)) (pa_cons (pe_c (y := .int 3)) (pa_cons (pe_c (y := .int 4)) pa_nil))) rfl rfl (by decide) rfl) ?_
  refine no_if (eq_t (by decide) rfl) ?_
  refine yes_if (in_t (pa_cons (pe_c (y := .int 5)) (pa_cons (pe_c (y := .int 6)) pa_nil)) rfl rfl (by decide) rfl) ?_
  exact fin1 (fun P hk => if_y (eq_t (by decide) rfl) (new1 rfl hk)) hfo.2.2.2.2.2.2.2.1 fun p n => q p _ _ updM_same (kp_new n)
theorem made_6 {Q : DV → Mh → Prop} (hfo : FoAll fo (foL C_BadRow C_BadTable C_Failed C_InvalidCommand C_InvalidText C_KeyTaken C_NameTaken C_NoColumn C_NoCourse C_NoGoal C_NoPlan C_NoQuestion C_NoRow C_NoRun C_NoTable C_NotPlain C_NothingAsked C_Outdated C_TooGreat)) (q : ∀ p fs μ', μ' p = some (.xo C_KeyTaken fs) → KpO [] μ μ' → Q (.lst [.obj p, .lst (heldL 6 [t0, t1, t2])]) μ') : w_law_made C_BadRow C_BadTable C_Failed C_InvalidCommand C_InvalidText C_KeyTaken C_NameTaken C_NoColumn C_NoCourse C_NoGoal C_NoPlan C_NoQuestion C_NoRow C_NoRun C_NoTable C_NotPlain C_NothingAsked C_Outdated C_TooGreat fo { nx := fun _ μ' => Q .none μ', rt := Q } [some (.int ((6 : Nat) : Int)), some (.lst [t0, t1, t2]), none, none, none] μ := by
  unfold w_law_made
  refine seq_asg (y := t0) (pe_ixL (ds := [t0, t1, t2]) (pe_var rfl) (pe_c (y := .int 0)) rfl) ?_
  refine no_if (eq_t (by decide) rfl) ?_
  refine no_if (in_t (pa_cons (pe_c (y := .int 1)) (pa_cons (pe_c (y := .int 3)) (pa_cons (pe_c (y := .int 4)) pa_nil))) rfl rfl (by decide) rfl) ?_
  refine no_if (eq_t (by decide) rfl) ?_
  refine yes_if (in_t (pa_cons (pe_c (y := .int 5)) (pa_cons (pe_c (y := .int 6)) pa_nil)) rfl rfl (by decide) rfl) ?_
  exact fin1 (fun P hk => if_n (eq_t (by decide) rfl) (new1 rfl hk)) hfo.2.2.2.2.2.2.2.2.1 fun p n => q p _ _ updM_same (kp_new n)
theorem made_7 {Q : DV → Mh → Prop} (hfo : FoAll fo (foL C_BadRow C_BadTable C_Failed C_InvalidCommand C_InvalidText C_KeyTaken C_NameTaken C_NoColumn C_NoCourse C_NoGoal C_NoPlan C_NoQuestion C_NoRow C_NoRun C_NoTable C_NotPlain C_NothingAsked C_Outdated C_TooGreat)) (q : ∀ p fs μ', μ' p = some (.xo C_NoRow fs) → KpO [] μ μ' → Q (.lst [.obj p, .lst (heldL 7 [t0, t1, t2])]) μ') : w_law_made C_BadRow C_BadTable C_Failed C_InvalidCommand C_InvalidText C_KeyTaken C_NameTaken C_NoColumn C_NoCourse C_NoGoal C_NoPlan C_NoQuestion C_NoRow C_NoRun C_NoTable C_NotPlain C_NothingAsked C_Outdated C_TooGreat fo { nx := fun _ μ' => Q .none μ', rt := Q } [some (.int ((7 : Nat) : Int)), some (.lst [t0, t1, t2]), none, none, none] μ := by
  unfold w_law_made
  refine seq_asg (y := t0) (pe_ixL (ds := [t0, t1, t2]) (pe_var rfl) (pe_c (y := .int 0)) rfl) ?_
  refine no_if (eq_t (by decide) rfl) ?_
  refine no_if (in_t (pa_cons (pe_c (y := .int 1)) (pa_cons (pe_c (y := .int 3)) (pa_cons (pe_c (y := .int 4)) pa_nil))) rfl rfl (by decide) rfl) ?_
  refine no_if (eq_t (by decide) rfl) ?_
  refine no_if (in_t (pa_cons (pe_c (y := .int 5)) (pa_cons (pe_c (y := .int 6)) pa_nil)) rfl rfl (by decide) rfl) ?_
  refine yes_if (in_t (pa_cons (pe_c (y := .int 7)) (pa_cons (pe_c (y := .int 10)) (pa_cons (pe_c (y := .int 11)) pa_nil))) rfl rfl (by decide) rfl) ?_
  exact fin1 (fun P hk => if_y (eq_t (by decide) rfl) (new1 rfl hk)) hfo.2.2.2.2.2.2.2.2.2.1 fun p n => q p _ _ updM_same (kp_new n)
theorem made_8 {Q : DV → Mh → Prop} (hfo : FoAll fo (foL C_BadRow C_BadTable C_Failed C_InvalidCommand C_InvalidText C_KeyTaken C_NameTaken C_NoColumn C_NoCourse C_NoGoal C_NoPlan C_NoQuestion C_NoRow C_NoRun C_NoTable C_NotPlain C_NothingAsked C_Outdated C_TooGreat)) (q : ∀ p fs μ', μ' p = some (.xo C_TooGreat fs) → KpO [] μ μ' → Q (.lst [.obj p, .lst (heldL 8 [t0, t1, t2])]) μ') : w_law_made C_BadRow C_BadTable C_Failed C_InvalidCommand C_InvalidText C_KeyTaken C_NameTaken C_NoColumn C_NoCourse C_NoGoal C_NoPlan C_NoQuestion C_NoRow C_NoRun C_NoTable C_NotPlain C_NothingAsked C_Outdated C_TooGreat fo { nx := fun _ μ' => Q .none μ', rt := Q } [some (.int ((8 : Nat) : Int)), some (.lst [t0, t1, t2]), none, none, none] μ := by
  unfold w_law_made
  refine seq_asg (y := t0) (pe_ixL (ds := [t0, t1, t2]) (pe_var rfl) (pe_c (y := .int 0)) rfl) ?_
  refine no_if (eq_t (by decide) rfl) ?_
  refine no_if (in_t (pa_cons (pe_c (y := .int 1)) (pa_cons (pe_c (y := .int 3)) (pa_cons (pe_c (y := .int 4)) pa_nil))) rfl rfl (by decide) rfl) ?_
  refine no_if (eq_t (by decide) rfl) ?_
  refine no_if (in_t (pa_cons (pe_c (y := .int 5)) (pa_cons (pe_c (y := .int 6)) pa_nil)) rfl rfl (by decide) rfl) ?_
  refine no_if (in_t (pa_cons (pe_c (y := .int 7)) (pa_cons (pe_c (y := .int 10)) (pa_cons (pe_c (y := .int 11)) pa_nil))) rfl rfl (by decide) rfl) ?_
  refine yes_if (eq_t (by decide) rfl) ?_
  exact fin1 (fun P hk => new1 rfl hk) hfo.2.2.2.2.2.2.2.2.2.2.1 fun p n => q p _ _ updM_same (kp_new n)
theorem made_9 {Q : DV → Mh → Prop} (hfo : FoAll fo (foL C_BadRow C_BadTable C_Failed C_InvalidCommand C_InvalidText C_KeyTaken C_NameTaken C_NoColumn C_NoCourse C_NoGoal C_NoPlan C_NoQuestion C_NoRow C_NoRun C_NoTable C_NotPlain C_NothingAsked C_Outdated C_TooGreat)) (q : ∀ p fs μ', μ' p = some (.xo C_Outdated fs) → KpO [] μ μ' → Q (.lst [.obj p, .lst (heldL 9 [t0, t1, t2])]) μ') : w_law_made C_BadRow C_BadTable C_Failed C_InvalidCommand C_InvalidText C_KeyTaken C_NameTaken C_NoColumn C_NoCourse C_NoGoal C_NoPlan C_NoQuestion C_NoRow C_NoRun C_NoTable C_NotPlain C_NothingAsked C_Outdated C_TooGreat fo { nx := fun _ μ' => Q .none μ', rt := Q } [some (.int ((9 : Nat) : Int)), some (.lst [t0, t1, t2]), none, none, none] μ := by
  unfold w_law_made
  refine seq_asg (y := t0) (pe_ixL (ds := [t0, t1, t2]) (pe_var rfl) (pe_c (y := .int 0)) rfl) ?_
  refine no_if (eq_t (by decide) rfl) ?_
  refine no_if (in_t (pa_cons (pe_c (y := .int 1)) (pa_cons (pe_c (y := .int 3)) (pa_cons (pe_c (y := .int 4)) pa_nil))) rfl rfl (by decide) rfl) ?_
  refine no_if (eq_t (by decide) rfl) ?_
  refine no_if (in_t (pa_cons (pe_c (y := .int 5)) (pa_cons (pe_c (y := .int 6)) pa_nil)) rfl rfl (by decide) rfl) ?_
  refine no_if (in_t (pa_cons (pe_c (y := .int 7)) (pa_cons (pe_c (y := .int 10)) (pa_cons (pe_c (y := .int 11)) pa_nil))) rfl rfl (by decide) rfl) ?_
  refine no_if (eq_t (by decide) rfl) ?_
  refine yes_if (eq_t (by decide) rfl) ?_
  exact fin1 (fun P hk => new1 rfl hk) hfo.2.2.2.2.2.2.2.2.2.2.2.1 fun p n => q p _ _ updM_same (kp_new n)
theorem made_10 {Q : DV → Mh → Prop} (hfo : FoAll fo (foL C_BadRow C_BadTable C_Failed C_InvalidCommand C_InvalidText C_KeyTaken C_NameTaken C_NoColumn C_NoCourse C_NoGoal C_NoPlan C_NoQuestion C_NoRow C_NoRun C_NoTable C_NotPlain C_NothingAsked C_Outdated C_TooGreat)) (q : ∀ p fs μ', μ' p = some (.xo C_NoGoal fs) → KpO [] μ μ' → Q (.lst [.obj p, .lst (heldL 10 [t0, t1, t2])]) μ') : w_law_made C_BadRow C_BadTable C_Failed C_InvalidCommand C_InvalidText C_KeyTaken C_NameTaken C_NoColumn C_NoCourse C_NoGoal C_NoPlan C_NoQuestion C_NoRow C_NoRun C_NoTable C_NotPlain C_NothingAsked C_Outdated C_TooGreat fo { nx := fun _ μ' => Q .none μ', rt := Q } [some (.int ((10 : Nat) : Int)), some (.lst [t0, t1, t2]), none, none, none] μ := by
  unfold w_law_made
  refine seq_asg (y := t0) (pe_ixL (ds := [t0, t1, t2]) (pe_var rfl) (pe_c (y := .int 0)) rfl) ?_
  refine no_if (eq_t (by decide) rfl) ?_
  refine no_if (in_t (pa_cons (pe_c (y := .int 1)) (pa_cons (pe_c (y := .int 3)) (pa_cons (pe_c (y := .int 4)) pa_nil))) rfl rfl (by decide) rfl) ?_
  refine no_if (eq_t (by decide) rfl) ?_
  refine no_if (in_t (pa_cons (pe_c (y := .int 5)) (pa_cons (pe_c (y := .int 6)) pa_nil)) rfl rfl (by decide) rfl) ?_
  refine yes_if (in_t (pa_cons (pe_c (y := .int 7)) (pa_cons (pe_c (y := .int 10)) (pa_cons (pe_c (y := .int 11)) pa_nil))) rfl rfl (by decide) rfl) ?_
  exact fin1 (fun P hk => if_n (eq_t (by decide) rfl) (if_y (eq_t (by decide) rfl) (new1 rfl hk))) hfo.2.2.2.2.2.2.2.2.2.2.2.2.1 fun p n => q p _ _ updM_same (kp_new n)
theorem made_11 {Q : DV → Mh → Prop} (hfo : FoAll fo (foL C_BadRow C_BadTable C_Failed C_InvalidCommand C_InvalidText C_KeyTaken C_NameTaken C_NoColumn C_NoCourse C_NoGoal C_NoPlan C_NoQuestion C_NoRow C_NoRun C_NoTable C_NotPlain C_NothingAsked C_Outdated C_TooGreat)) (q : ∀ p fs μ', μ' p = some (.xo C_NoCourse fs) → KpO [] μ μ' → Q (.lst [.obj p, .lst (heldL 11 [t0, t1, t2])]) μ') : w_law_made C_BadRow C_BadTable C_Failed C_InvalidCommand C_InvalidText C_KeyTaken C_NameTaken C_NoColumn C_NoCourse C_NoGoal C_NoPlan C_NoQuestion C_NoRow C_NoRun C_NoTable C_NotPlain C_NothingAsked C_Outdated C_TooGreat fo { nx := fun _ μ' => Q .none μ', rt := Q } [some (.int ((11 : Nat) : Int)), some (.lst [t0, t1, t2]), none, none, none] μ := by
  unfold w_law_made
  refine seq_asg (y := t0) (pe_ixL (ds := [t0, t1, t2]) (pe_var rfl) (pe_c (y := .int 0)) rfl) ?_
  refine no_if (eq_t (by decide) rfl) ?_
  refine no_if (in_t (pa_cons (pe_c (y := .int 1)) (pa_cons (pe_c (y := .int 3)) (pa_cons (pe_c (y := .int 4)) pa_nil))) rfl rfl (by decide) rfl) ?_
  refine no_if (eq_t (by decide) rfl) ?_
  refine no_if (in_t (pa_cons (pe_c (y := .int 5)) (pa_cons (pe_c (y := .int 6)) pa_nil)) rfl rfl (by decide) rfl) ?_
  refine yes_if (in_t (pa_cons (pe_c (y := .int 7)) (pa_cons (pe_c (y := .int 10)) (pa_cons (pe_c (y := .int 11)) pa_nil))) rfl rfl (by decide) rfl) ?_
  exact fin1 (fun P hk => if_n (eq_t (by decide) rfl) (if_n (eq_t (by decide) rfl) (new1 rfl hk))) hfo.2.2.2.2.2.2.2.2.2.2.2.2.2.1 fun p n => q p _ _ updM_same (kp_new n)
theorem made_12 {Q : DV → Mh → Prop} (hfo : FoAll fo (foL C_BadRow C_BadTable C_Failed C_InvalidCommand C_InvalidText C_KeyTaken C_NameTaken C_NoColumn C_NoCourse C_NoGoal C_NoPlan C_NoQuestion C_NoRow C_NoRun C_NoTable C_NotPlain C_NothingAsked C_Outdated C_TooGreat)) (q : ∀ p fs μ', μ' p = some (.xo C_NoQuestion fs) → KpO [] μ μ' → Q (.lst [.obj p, .lst (heldL 12 [t0, t1, t2])]) μ') : w_law_made C_BadRow C_BadTable C_Failed C_InvalidCommand C_InvalidText C_KeyTaken C_NameTaken C_NoColumn C_NoCourse C_NoGoal C_NoPlan C_NoQuestion C_NoRow C_NoRun C_NoTable C_NotPlain C_NothingAsked C_Outdated C_TooGreat fo { nx := fun _ μ' => Q .none μ', rt := Q } [some (.int ((12 : Nat) : Int)), some (.lst [t0, t1, t2]), none, none, none] μ := by
  unfold w_law_made
  refine seq_asg (y := t0) (pe_ixL (ds := [t0, t1, t2]) (pe_var rfl) (pe_c (y := .int 0)) rfl) ?_
  refine no_if (eq_t (by decide) rfl) ?_
  refine no_if (in_t (pa_cons (pe_c (y := .int 1)) (pa_cons (pe_c (y := .int 3)) (pa_cons (pe_c (y := .int 4)) pa_nil))) rfl rfl (by decide) rfl) ?_
  refine no_if (eq_t (by decide) rfl) ?_
  refine no_if (in_t (pa_cons (pe_c (y := .int 5)) (pa_cons (pe_c (y := .int 6)) pa_nil)) rfl rfl (by decide) rfl) ?_
  refine no_if (in_t (pa_cons (pe_c (y := .int 7)) (pa_cons (pe_c (y := .int 10)) (pa_cons (pe_c (y := .int 11)) pa_nil))) rfl rfl (by decide) rfl) ?_
  refine no_if (eq_t (by decide) rfl) ?_
  refine no_if (eq_t (by decide) rfl) ?_
  refine seq_ (lst_ (cons_ fun p0 n0 => cons_ fun p1 n1 => cons_ fun p2 n2 => cons_ fun p3 n3 => cons_ fun p4 n4 => cons_ fun p5 n5 => cons_ fun p6 n6 => ⟨sl (le1 rfl), ?_⟩))
  exact ret_v (pl (pa_cons (pe_ixL (pe_var rfl) (pe_bin (pe_var (y := .int ((12 : Nat) : Int)) rfl) (pe_c (y := .int 12)) fun P q => q) (y := .obj p0) rfl) (pa_cons (pl pa_nil (le1 rfl)) pa_nil)) (le1 rfl)) (q p0 _ _ (kp_new n6 _ _ (by simp) (kp_new n5 _ _ (by simp) (kp_new n4 _ _ (by simp) (kp_new n3 _ _ (by simp) (kp_new n2 _ _ (by simp) (kp_new n1 _ _ (by simp) updM_same)))))) (kp_tr (kp_tr (kp_tr (kp_tr (kp_tr (kp_tr (kp_new n0) (kp_new n1)) (kp_new n2)) (kp_new n3)) (kp_new n4)) (kp_new n5)) (kp_new n6)))
theorem made_13 {Q : DV → Mh → Prop} (hfo : FoAll fo (foL C_BadRow C_BadTable C_Failed C_InvalidCommand C_InvalidText C_KeyTaken C_NameTaken C_NoColumn C_NoCourse C_NoGoal C_NoPlan C_NoQuestion C_NoRow C_NoRun C_NoTable C_NotPlain C_NothingAsked C_Outdated C_TooGreat)) (q : ∀ p fs μ', μ' p = some (.xo C_NotPlain fs) → KpO [] μ μ' → Q (.lst [.obj p, .lst (heldL 13 [t0, t1, t2])]) μ') : w_law_made C_BadRow C_BadTable C_Failed C_InvalidCommand C_InvalidText C_KeyTaken C_NameTaken C_NoColumn C_NoCourse C_NoGoal C_NoPlan C_NoQuestion C_NoRow C_NoRun C_NoTable C_NotPlain C_NothingAsked C_Outdated C_TooGreat fo { nx := fun _ μ' => Q .none μ', rt := Q } [some (.int ((13 : Nat) : Int)), some (.lst [t0, t1, t2]), none, none, none] μ := by
  unfold w_law_made
  refine seq_asg (y := t0) (pe_ixL (ds := [t0, t1, t2]) (pe_var rfl) (pe_c (y := .int 0)) rfl) ?_
  refine no_if (eq_t (by decide) rfl) ?_
  refine no_if (in_t (pa_cons (pe_c (y := .int 1)) (pa_cons (pe_c (y := .int 3)) (pa_cons (pe_c (y := .int 4)) pa_nil))) rfl rfl (by decide) rfl) ?_
  refine no_if (eq_t (by decide) rfl) ?_
  refine no_if (in_t (pa_cons (pe_c (y := .int 5)) (pa_cons (pe_c (y := .int 6)) pa_nil)) rfl rfl (by decide) rfl) ?_
  refine no_if (in_t (pa_cons (pe_c (y := .int 7)) (pa_cons (pe_c (y := .int 10)) (pa_cons (pe_c (y := .int 11)) pa_nil))) rfl rfl (by decide) rfl) ?_
  refine no_if (eq_t (by decide) rfl) ?_
  refine no_if (eq_t (by decide) rfl) ?_
  refine seq_ (lst_ (cons_ fun p0 n0 => cons_ fun p1 n1 => cons_ fun p2 n2 => cons_ fun p3 n3 => cons_ fun p4 n4 => cons_ fun p5 n5 => cons_ fun p6 n6 => ⟨sl (le1 rfl), ?_⟩))
  exact ret_v (pl (pa_cons (pe_ixL (pe_var rfl) (pe_bin (pe_var (y := .int ((13 : Nat) : Int)) rfl) (pe_c (y := .int 12)) fun P q => q) (y := .obj p1) rfl) (pa_cons (pl pa_nil (le1 rfl)) pa_nil)) (le1 rfl)) (q p1 _ _ (kp_new n6 _ _ (by simp) (kp_new n5 _ _ (by simp) (kp_new n4 _ _ (by simp) (kp_new n3 _ _ (by simp) (kp_new n2 _ _ (by simp) updM_same))))) (kp_tr (kp_tr (kp_tr (kp_tr (kp_tr (kp_tr (kp_new n0) (kp_new n1)) (kp_new n2)) (kp_new n3)) (kp_new n4)) (kp_new n5)) (kp_new n6)))
theorem made_14 {Q : DV → Mh → Prop} (hfo : FoAll fo (foL C_BadRow C_BadTable C_Failed C_InvalidCommand C_InvalidText C_KeyTaken C_NameTaken C_NoColumn C_NoCourse C_NoGoal C_NoPlan C_NoQuestion C_NoRow C_NoRun C_NoTable C_NotPlain C_NothingAsked C_Outdated C_TooGreat)) (q : ∀ p fs μ', μ' p = some (.xo C_NoPlan fs) → KpO [] μ μ' → Q (.lst [.obj p, .lst (heldL 14 [t0, t1, t2])]) μ') : w_law_made C_BadRow C_BadTable C_Failed C_InvalidCommand C_InvalidText C_KeyTaken C_NameTaken C_NoColumn C_NoCourse C_NoGoal C_NoPlan C_NoQuestion C_NoRow C_NoRun C_NoTable C_NotPlain C_NothingAsked C_Outdated C_TooGreat fo { nx := fun _ μ' => Q .none μ', rt := Q } [some (.int ((14 : Nat) : Int)), some (.lst [t0, t1, t2]), none, none, none] μ := by
  unfold w_law_made
  refine seq_asg (y := t0) (pe_ixL (ds := [t0, t1, t2]) (pe_var rfl) (pe_c (y := .int 0)) rfl) ?_
  refine no_if (eq_t (by decide) rfl) ?_
  refine no_if (in_t (pa_cons (pe_c (y := .int 1)) (pa_cons (pe_c (y := .int 3)) (pa_cons (pe_c (y := .int 4)) pa_nil))) rfl rfl (by decide) rfl) ?_
  refine no_if (eq_t (by decide) rfl) ?_
  refine no_if (in_t (pa_cons (pe_c (y := .int 5)) (pa_cons (pe_c (y := .int 6)) pa_nil)) rfl rfl (by decide) rfl) ?_
  refine no_if (in_t (pa_cons (pe_c (y := .int 7)) (pa_cons (pe_c (y := .int 10)) (pa_cons (pe_c (y := .int 11)) pa_nil))) rfl rfl (by decide) rfl) ?_
  refine no_if (eq_t (by decide) rfl) ?_
  refine no_if (eq_t (by decide) rfl) ?_
  refine seq_ (lst_ (cons_ fun p0 n0 => cons_ fun p1 n1 => cons_ fun p2 n2 => cons_ fun p3 n3 => cons_ fun p4 n4 => cons_ fun p5 n5 => cons_ fun p6 n6 => ⟨sl (le1 rfl), ?_⟩))
  exact ret_v (pl (pa_cons (pe_ixL (pe_var rfl) (pe_bin (pe_var (y := .int ((14 : Nat) : Int)) rfl) (pe_c (y := .int 12)) fun P q => q) (y := .obj p2) rfl) (pa_cons (pl pa_nil (le1 rfl)) pa_nil)) (le1 rfl)) (q p2 _ _ (kp_new n6 _ _ (by simp) (kp_new n5 _ _ (by simp) (kp_new n4 _ _ (by simp) (kp_new n3 _ _ (by simp) updM_same)))) (kp_tr (kp_tr (kp_tr (kp_tr (kp_tr (kp_tr (kp_new n0) (kp_new n1)) (kp_new n2)) (kp_new n3)) (kp_new n4)) (kp_new n5)) (kp_new n6)))
theorem made_15 {Q : DV → Mh → Prop} (hfo : FoAll fo (foL C_BadRow C_BadTable C_Failed C_InvalidCommand C_InvalidText C_KeyTaken C_NameTaken C_NoColumn C_NoCourse C_NoGoal C_NoPlan C_NoQuestion C_NoRow C_NoRun C_NoTable C_NotPlain C_NothingAsked C_Outdated C_TooGreat)) (q : ∀ p fs μ', μ' p = some (.xo C_InvalidText fs) → KpO [] μ μ' → Q (.lst [.obj p, .lst (heldL 15 [t0, t1, t2])]) μ') : w_law_made C_BadRow C_BadTable C_Failed C_InvalidCommand C_InvalidText C_KeyTaken C_NameTaken C_NoColumn C_NoCourse C_NoGoal C_NoPlan C_NoQuestion C_NoRow C_NoRun C_NoTable C_NotPlain C_NothingAsked C_Outdated C_TooGreat fo { nx := fun _ μ' => Q .none μ', rt := Q } [some (.int ((15 : Nat) : Int)), some (.lst [t0, t1, t2]), none, none, none] μ := by
  unfold w_law_made
  refine seq_asg (y := t0) (pe_ixL (ds := [t0, t1, t2]) (pe_var rfl) (pe_c (y := .int 0)) rfl) ?_
  refine no_if (eq_t (by decide) rfl) ?_
  refine no_if (in_t (pa_cons (pe_c (y := .int 1)) (pa_cons (pe_c (y := .int 3)) (pa_cons (pe_c (y := .int 4)) pa_nil))) rfl rfl (by decide) rfl) ?_
  refine no_if (eq_t (by decide) rfl) ?_
  refine no_if (in_t (pa_cons (pe_c (y := .int 5)) (pa_cons (pe_c (y := .int 6)) pa_nil)) rfl rfl (by decide) rfl) ?_
  refine no_if (in_t (pa_cons (pe_c (y := .int 7)) (pa_cons (pe_c (y := .int 10)) (pa_cons (pe_c (y := .int 11)) pa_nil))) rfl rfl (by decide) rfl) ?_
  refine no_if (eq_t (by decide) rfl) ?_
  refine no_if (eq_t (by decide) rfl) ?_
  refine seq_ (lst_ (cons_ fun p0 n0 => cons_ fun p1 n1 => cons_ fun p2 n2 => cons_ fun p3 n3 => cons_ fun p4 n4 => cons_ fun p5 n5 => cons_ fun p6 n6 => ⟨sl (le1 rfl), ?_⟩))
  exact ret_v (pl (pa_cons (pe_ixL (pe_var rfl) (pe_bin (pe_var (y := .int ((15 : Nat) : Int)) rfl) (pe_c (y := .int 12)) fun P q => q) (y := .obj p3) rfl) (pa_cons (pl pa_nil (le1 rfl)) pa_nil)) (le1 rfl)) (q p3 _ _ (kp_new n6 _ _ (by simp) (kp_new n5 _ _ (by simp) (kp_new n4 _ _ (by simp) updM_same))) (kp_tr (kp_tr (kp_tr (kp_tr (kp_tr (kp_tr (kp_new n0) (kp_new n1)) (kp_new n2)) (kp_new n3)) (kp_new n4)) (kp_new n5)) (kp_new n6)))
theorem made_16 {Q : DV → Mh → Prop} (hfo : FoAll fo (foL C_BadRow C_BadTable C_Failed C_InvalidCommand C_InvalidText C_KeyTaken C_NameTaken C_NoColumn C_NoCourse C_NoGoal C_NoPlan C_NoQuestion C_NoRow C_NoRun C_NoTable C_NotPlain C_NothingAsked C_Outdated C_TooGreat)) (q : ∀ p fs μ', μ' p = some (.xo C_InvalidCommand fs) → KpO [] μ μ' → Q (.lst [.obj p, .lst (heldL 16 [t0, t1, t2])]) μ') : w_law_made C_BadRow C_BadTable C_Failed C_InvalidCommand C_InvalidText C_KeyTaken C_NameTaken C_NoColumn C_NoCourse C_NoGoal C_NoPlan C_NoQuestion C_NoRow C_NoRun C_NoTable C_NotPlain C_NothingAsked C_Outdated C_TooGreat fo { nx := fun _ μ' => Q .none μ', rt := Q } [some (.int ((16 : Nat) : Int)), some (.lst [t0, t1, t2]), none, none, none] μ := by
  unfold w_law_made
  refine seq_asg (y := t0) (pe_ixL (ds := [t0, t1, t2]) (pe_var rfl) (pe_c (y := .int 0)) rfl) ?_
  refine no_if (eq_t (by decide) rfl) ?_
  refine no_if (in_t (pa_cons (pe_c (y := .int 1)) (pa_cons (pe_c (y := .int 3)) (pa_cons (pe_c (y := .int 4)) pa_nil))) rfl rfl (by decide) rfl) ?_
  refine no_if (eq_t (by decide) rfl) ?_
  refine no_if (in_t (pa_cons (pe_c (y := .int 5)) (pa_cons (pe_c (y := .int 6)) pa_nil)) rfl rfl (by decide) rfl) ?_
  refine no_if (in_t (pa_cons (pe_c (y := .int 7)) (pa_cons (pe_c (y := .int 10)) (pa_cons (pe_c (y := .int 11)) pa_nil))) rfl rfl (by decide) rfl) ?_
  refine no_if (eq_t (by decide) rfl) ?_
  refine no_if (eq_t (by decide) rfl) ?_
  refine seq_ (lst_ (cons_ fun p0 n0 => cons_ fun p1 n1 => cons_ fun p2 n2 => cons_ fun p3 n3 => cons_ fun p4 n4 => cons_ fun p5 n5 => cons_ fun p6 n6 => ⟨sl (le1 rfl), ?_⟩))
  exact ret_v (pl (pa_cons (pe_ixL (pe_var rfl) (pe_bin (pe_var (y := .int ((16 : Nat) : Int)) rfl) (pe_c (y := .int 12)) fun P q => q) (y := .obj p4) rfl) (pa_cons (pl pa_nil (le1 rfl)) pa_nil)) (le1 rfl)) (q p4 _ _ (kp_new n6 _ _ (by simp) (kp_new n5 _ _ (by simp) updM_same)) (kp_tr (kp_tr (kp_tr (kp_tr (kp_tr (kp_tr (kp_new n0) (kp_new n1)) (kp_new n2)) (kp_new n3)) (kp_new n4)) (kp_new n5)) (kp_new n6)))
theorem made_17 {Q : DV → Mh → Prop} (hfo : FoAll fo (foL C_BadRow C_BadTable C_Failed C_InvalidCommand C_InvalidText C_KeyTaken C_NameTaken C_NoColumn C_NoCourse C_NoGoal C_NoPlan C_NoQuestion C_NoRow C_NoRun C_NoTable C_NotPlain C_NothingAsked C_Outdated C_TooGreat)) (q : ∀ p fs μ', μ' p = some (.xo C_NothingAsked fs) → KpO [] μ μ' → Q (.lst [.obj p, .lst (heldL 17 [t0, t1, t2])]) μ') : w_law_made C_BadRow C_BadTable C_Failed C_InvalidCommand C_InvalidText C_KeyTaken C_NameTaken C_NoColumn C_NoCourse C_NoGoal C_NoPlan C_NoQuestion C_NoRow C_NoRun C_NoTable C_NotPlain C_NothingAsked C_Outdated C_TooGreat fo { nx := fun _ μ' => Q .none μ', rt := Q } [some (.int ((17 : Nat) : Int)), some (.lst [t0, t1, t2]), none, none, none] μ := by
  unfold w_law_made
  refine seq_asg (y := t0) (pe_ixL (ds := [t0, t1, t2]) (pe_var rfl) (pe_c (y := .int 0)) rfl) ?_
  refine no_if (eq_t (by decide) rfl) ?_
  refine no_if (in_t (pa_cons (pe_c (y := .int 1)) (pa_cons (pe_c (y := .int 3)) (pa_cons (pe_c (y := .int 4)) pa_nil))) rfl rfl (by decide) rfl) ?_
  refine no_if (eq_t (by decide) rfl) ?_
  refine no_if (in_t (pa_cons (pe_c (y := .int 5)) (pa_cons (pe_c (y := .int 6)) pa_nil)) rfl rfl (by decide) rfl) ?_
  refine no_if (in_t (pa_cons (pe_c (y := .int 7)) (pa_cons (pe_c (y := .int 10)) (pa_cons (pe_c (y := .int 11)) pa_nil))) rfl rfl (by decide) rfl) ?_
  refine no_if (eq_t (by decide) rfl) ?_
  refine no_if (eq_t (by decide) rfl) ?_
  refine seq_ (lst_ (cons_ fun p0 n0 => cons_ fun p1 n1 => cons_ fun p2 n2 => cons_ fun p3 n3 => cons_ fun p4 n4 => cons_ fun p5 n5 => cons_ fun p6 n6 => ⟨sl (le1 rfl), ?_⟩))
  exact ret_v (pl (pa_cons (pe_ixL (pe_var rfl) (pe_bin (pe_var (y := .int ((17 : Nat) : Int)) rfl) (pe_c (y := .int 12)) fun P q => q) (y := .obj p5) rfl) (pa_cons (pl pa_nil (le1 rfl)) pa_nil)) (le1 rfl)) (q p5 _ _ (kp_new n6 _ _ (by simp) updM_same) (kp_tr (kp_tr (kp_tr (kp_tr (kp_tr (kp_tr (kp_new n0) (kp_new n1)) (kp_new n2)) (kp_new n3)) (kp_new n4)) (kp_new n5)) (kp_new n6)))
theorem made_18 {Q : DV → Mh → Prop} (hfo : FoAll fo (foL C_BadRow C_BadTable C_Failed C_InvalidCommand C_InvalidText C_KeyTaken C_NameTaken C_NoColumn C_NoCourse C_NoGoal C_NoPlan C_NoQuestion C_NoRow C_NoRun C_NoTable C_NotPlain C_NothingAsked C_Outdated C_TooGreat)) (q : ∀ p fs μ', μ' p = some (.xo C_NoRun fs) → KpO [] μ μ' → Q (.lst [.obj p, .lst (heldL 18 [t0, t1, t2])]) μ') : w_law_made C_BadRow C_BadTable C_Failed C_InvalidCommand C_InvalidText C_KeyTaken C_NameTaken C_NoColumn C_NoCourse C_NoGoal C_NoPlan C_NoQuestion C_NoRow C_NoRun C_NoTable C_NotPlain C_NothingAsked C_Outdated C_TooGreat fo { nx := fun _ μ' => Q .none μ', rt := Q } [some (.int ((18 : Nat) : Int)), some (.lst [t0, t1, t2]), none, none, none] μ := by
  unfold w_law_made
  refine seq_asg (y := t0) (pe_ixL (ds := [t0, t1, t2]) (pe_var rfl) (pe_c (y := .int 0)) rfl) ?_
  refine no_if (eq_t (by decide) rfl) ?_
  refine no_if (in_t (pa_cons (pe_c (y := .int 1)) (pa_cons (pe_c (y := .int 3)) (pa_cons (pe_c (y := .int 4)) pa_nil))) rfl rfl (by decide) rfl) ?_
  refine no_if (eq_t (by decide) rfl) ?_
  refine no_if (in_t (pa_cons (pe_c (y := .int 5)) (pa_cons (pe_c (y := .int 6)) pa_nil)) rfl rfl (by decide) rfl) ?_
  refine no_if (in_t (pa_cons (pe_c (y := .int 7)) (pa_cons (pe_c (y := .int 10)) (pa_cons (pe_c (y := .int 11)) pa_nil))) rfl rfl (by decide) rfl) ?_
  refine no_if (eq_t (by decide) rfl) ?_
  refine no_if (eq_t (by decide) rfl) ?_
  refine seq_ (lst_ (cons_ fun p0 n0 => cons_ fun p1 n1 => cons_ fun p2 n2 => cons_ fun p3 n3 => cons_ fun p4 n4 => cons_ fun p5 n5 => cons_ fun p6 n6 => ⟨sl (le1 rfl), ?_⟩))
  exact ret_v (pl (pa_cons (pe_ixL (pe_var rfl) (pe_bin (pe_var (y := .int ((18 : Nat) : Int)) rfl) (pe_c (y := .int 12)) fun P q => q) (y := .obj p6) rfl) (pa_cons (pl pa_nil (le1 rfl)) pa_nil)) (le1 rfl)) (q p6 _ _ updM_same (kp_tr (kp_tr (kp_tr (kp_tr (kp_tr (kp_tr (kp_new n0) (kp_new n1)) (kp_new n2)) (kp_new n3)) (kp_new n4)) (kp_new n5)) (kp_new n6)))
theorem p_law_made (hfo : FoAll fo (foL C_BadRow C_BadTable C_Failed C_InvalidCommand C_InvalidText C_KeyTaken C_NameTaken C_NoColumn C_NoCourse C_NoGoal C_NoPlan C_NoQuestion C_NoRow C_NoRun C_NoTable C_NotPlain C_NothingAsked C_Outdated C_TooGreat)) (ds : List DV) (μ : Mh) (Q : DV → Mh → Prop) (hl : ds.length = 2) (h : wfMade (clsL C_BadRow C_BadTable C_Failed C_InvalidCommand C_InvalidText C_KeyTaken C_NameTaken C_NoColumn C_NoCourse C_NoGoal C_NoPlan C_NoQuestion C_NoRow C_NoRun C_NoTable C_NotPlain C_NothingAsked C_Outdated C_TooGreat) ds μ Q) : w_law_made C_BadRow C_BadTable C_Failed C_InvalidCommand C_InvalidText C_KeyTaken C_NameTaken C_NoColumn C_NoCourse C_NoGoal C_NoPlan C_NoQuestion C_NoRow C_NoRun C_NoTable C_NotPlain C_NothingAsked C_Outdated C_TooGreat fo { nx := fun _ μ' => Q .none μ', rt := Q } (ds.map some ++ List.replicate 3 none) μ := by
  obtain ⟨w, t0, t1, t2, lw, rfl, q⟩ := h
  revert q
  refine lt19 (P := fun w => (∀ p fs μ', μ' p = some (.xo ((clsL C_BadRow C_BadTable C_Failed C_InvalidCommand C_InvalidText C_KeyTaken C_NameTaken C_NoColumn C_NoCourse C_NoGoal C_NoPlan C_NoQuestion C_NoRow C_NoRun C_NoTable C_NotPlain C_NothingAsked C_Outdated C_TooGreat).getD w 0) fs) → KpO [] μ μ' → Q (.lst [.obj p, .lst (heldL w [t0, t1, t2])]) μ') → w_law_made C_BadRow C_BadTable C_Failed C_InvalidCommand C_InvalidText C_KeyTaken C_NameTaken C_NoColumn C_NoCourse C_NoGoal C_NoPlan C_NoQuestion C_NoRow C_NoRun C_NoTable C_NotPlain C_NothingAsked C_Outdated C_TooGreat fo { nx := fun _ μ' => Q .none μ', rt := Q } [some (.int (w : Nat)), some (.lst [t0, t1, t2]), none, none, none] μ) ⟨made_0 hfo, made_1 hfo, made_2 hfo, made_3 hfo, made_4 hfo, made_5 hfo, made_6 hfo, made_7 hfo, made_8 hfo, made_9 hfo, made_10 hfo, made_11 hfo, made_12 hfo, made_13 hfo, made_14 hfo, made_15 hfo, made_16 hfo, made_17 hfo, made_18 hfo⟩ w lw
def wfByName : WF := fun ds μ Q => ∃ t0 t1 t2, ds = [.lst [t0, t1, t2]] ∧ ∀ μ', KpO [] μ μ' → Q (.lst ([t0, t1, t2] ++ List.replicate 11 t0)) μ'
theorem newX {C : Addr} {f : Str} {ρ : Rho} {P : DV → Mh → Prop} (h : ρ[0]? = some (some (.lst [t0, t1, t2]))) (hf : fo C f) (k : ∀ p, μ p = none → P t0 (updM μ p (.xo C [(f, t0)]))) : wXo fo f (wNewK C [f] [0] 1 (wCons (wBin wIx (wVar 0) (wC (.int 0))) wNil)) ρ μ P := by
  unfold wXo wNewK
  exact cons_v (pe_ixL (pe_var h) (pe_c (y := .int 0)) (y := t0) rfl) ⟨rfl, rfl, fun p n => ⟨p, C, [(f, t0)], t0, rfl, updM_same, hf, by simp [List.lookup], k p n⟩⟩
theorem p_law_by_name (hfo : FoAll fo (foL C_BadRow C_BadTable C_Failed C_InvalidCommand C_InvalidText C_KeyTaken C_NameTaken C_NoColumn C_NoCourse C_NoGoal C_NoPlan C_NoQuestion C_NoRow C_NoRun C_NoTable C_NotPlain C_NothingAsked C_Outdated C_TooGreat)) (ds : List DV) (μ : Mh) (Q : DV → Mh → Prop) (hl : ds.length = 1) (h : wfByName ds μ Q) : w_law_by_name C_BadRow C_BadTable C_Failed C_KeyTaken C_NameTaken C_NoColumn C_NoCourse C_NoGoal C_NoRow C_NoTable C_Outdated C_TooGreat fo { nx := fun _ μ' => Q .none μ', rt := Q } (ds.map some ++ List.replicate 2 none) μ := by
  obtain ⟨t0, t1, t2, rfl, q⟩ := h
  unfold w_law_by_name
  refine seq_ (cons_v (pe_ixL (ds := [t0, t1, t2]) (pe_var rfl) (pe_c (y := .int 2)) (y := t2) rfl) (cons_v (pe_ixL (ds := [t0, t1, t2]) (pe_var rfl) (pe_c (y := .int 0)) (y := t0) rfl) (cons_v (pe_ixL (ds := [t0, t1, t2]) (pe_var rfl) (pe_c (y := .int 1)) (y := t1) rfl) ⟨rfl, rfl, fun p n => ?_⟩)))
  refine seq_ (lst_ (cons_v (pe_xo (y := t0) (pe_var (y := .obj p) rfl) updM_same hfo.1 rfl) (cons_v (pe_xo (y := t1) (pe_var (y := .obj p) rfl) updM_same hfo.2.1 rfl) (cons_v (pe_xo (y := t2) (pe_var (y := .obj p) rfl) updM_same hfo.2.2.1 rfl) (cons_ (newX rfl hfo.2.2.2.1 fun p0 n0 => cons_ (newX rfl hfo.2.2.2.2.1 fun p1 n1 => ⟨sl (le1 rfl), ?_⟩)))))))
  refine seq_ (bin_r (pe_var rfl) (lst_ (cons_ (newX rfl hfo.2.2.2.2.2.1 fun p2 n2 => cons_ (newX rfl hfo.2.2.2.2.2.2.1 fun p3 n3 => cons_ (newX rfl hfo.2.2.2.2.2.2.2.1 fun p4 n4 => ⟨sl (le1 rfl), ⟨sl (le1 rfl), ?_⟩⟩))))))
  refine seq_ (bin_r (pe_var rfl) (lst_ (cons_ (newX rfl hfo.2.2.2.2.2.2.2.2.1 fun p5 n5 => cons_ (newX rfl hfo.2.2.2.2.2.2.2.2.2.1 fun p6 n6 => cons_ (newX rfl hfo.2.2.2.2.2.2.2.2.2.2.1 fun p7 n7 => ⟨sl (le1 rfl), ⟨sl (le1 rfl), ?_⟩⟩))))))
  refine seq_ (bin_r (pe_var rfl) (lst_ (cons_ (newX rfl hfo.2.2.2.2.2.2.2.2.2.2.2.1 fun p8 n8 => cons_ (newX rfl hfo.2.2.2.2.2.2.2.2.2.2.2.2.1 fun p9 n9 => ⟨sl (le1 rfl), ⟨sl (le1 rfl), ?_⟩⟩)))))
  refine ret_ (bin_r (pe_var rfl) (lst_ (cons_ (newX rfl hfo.2.2.2.2.2.2.2.2.2.2.2.2.2.1 fun p10 n10 => ⟨sl (le1 rfl), ⟨sl (le1 rfl), ?_⟩⟩))))
  exact q _ (kp_tr (kp_tr (kp_tr (kp_tr (kp_tr (kp_tr (kp_tr (kp_tr (kp_tr (kp_tr (kp_tr (kp_new n) (kp_new n0)) (kp_new n1)) (kp_new n2)) (kp_new n3)) (kp_new n4)) (kp_new n5)) (kp_new n6)) (kp_new n7)) (kp_new n8)) (kp_new n9)) (kp_new n10))
theorem fnX2_ {xr : XR} {wf : WFX} {ρ : Rho} {μ : Mh} {E : DEnds} {x y : DV} (h0 : ρ[0]? = some (some x)) (h1 : ρ[1]? = some (some y)) (k : wf [x, y] μ (fun _ μ' => E.nx ρ μ') fun C fs μ' => xr C fs ρ μ') : wDrop (wFnX xr 2 0 2 wf (fun ds es => perm [0, 1] (ds ++ es)) (wCons (wVar 0) (wCons (wVar 1) wNil)) wNil) E ρ μ := by
  unfold wDrop wFnX
  exact cons_v (pe_var h0) (cons_v (pe_var h1) ⟨rfl, rfl, rfl, k⟩)
theorem asgJ_ {w : WE} {i : Nat} {E : DEnds} {ρ : Rho} {μ : Mh} (k : w ρ μ fun d μ1 => E.nx (ρ.set i (some d)) μ1) : wAsg w (wgName i) E ρ μ := k
theorem raise_ {xr : XR} {C : Addr} {fs : List Str} {wa : WA} {E : DEnds} {ρ : Rho} {μ : Mh} (k : wa ρ μ fun ds μ1 => ds.length = fs.length ∧ xr C (fs.zip ds).reverse ρ μ1) : wRaise xr (wMkE C fs wa) E ρ μ := k
def wfFirst (cs : List Addr) : WFX := fun ds μ Q XP => ∃ (w : Nat) (t0 t1 t2 : DV), w < 19 ∧ ds = [.int (w : Nat), .lst [t0, t1, t2]] ∧ (w < 12 → ∀ fs, XP (cs.getD w 0) fs μ) ∧ (12 ≤ w → Q .none μ)
def wfRaised (cs : List Addr) : WFX := fun ds μ Q XP => ∃ (w : Nat) (t0 t1 t2 : DV), w < 19 ∧ ds = [.int (w : Nat), .lst [t0, t1, t2]] ∧ ∀ fs, XP (cs.getD w 0) fs μ
theorem first_0 {Q : DV → Mh → Prop} {XP : XC} (q : ∀ fs, XP C_Failed fs μ) : w_law_first_raised C_BadRow C_BadTable C_Failed C_KeyTaken C_NameTaken C_NoColumn C_NoCourse C_NoGoal C_NoRow C_NoTable C_Outdated C_TooGreat (fun C fs _ μ' => XP C fs μ') { nx := fun _ μ' => Q .none μ', rt := Q } [some (.int ((0 : Nat) : Int)), some (.lst [t0, t1, t2])] μ := by
  unfold w_law_first_raised
  exact yes_if (eq_t (by decide) rfl) (raise_ (cons_v (pe_ixL (ds := [t0, t1, t2]) (pe_var rfl) (pe_c (y := .int 0)) (y := t0) rfl) (cons_v (pe_ixL (ds := [t0, t1, t2]) (pe_var rfl) (pe_c (y := .int 1)) (y := t1) rfl) (cons_v (pe_ixL (ds := [t0, t1, t2]) (pe_var rfl) (pe_c (y := .int 2)) (y := t2) rfl) ⟨rfl, q _⟩))))
theorem first_1 {Q : DV → Mh → Prop} {XP : XC} (q : ∀ fs, XP C_NameTaken fs μ) : w_law_first_raised C_BadRow C_BadTable C_Failed C_KeyTaken C_NameTaken C_NoColumn C_NoCourse C_NoGoal C_NoRow C_NoTable C_Outdated C_TooGreat (fun C fs _ μ' => XP C fs μ') { nx := fun _ μ' => Q .none μ', rt := Q } [some (.int ((1 : Nat) : Int)), some (.lst [t0, t1, t2])] μ := by
  unfold w_law_first_raised
  refine no_if (eq_t (by decide) rfl) ?_
  exact yes_if (eq_t (by decide) rfl) (raise_ (cons_v (pe_ixL (ds := [t0, t1, t2]) (pe_var rfl) (pe_c (y := .int 0)) (y := t0) rfl) ⟨rfl, q _⟩))
theorem first_2 {Q : DV → Mh → Prop} {XP : XC} (q : ∀ fs, XP C_BadTable fs μ) : w_law_first_raised C_BadRow C_BadTable C_Failed C_KeyTaken C_NameTaken C_NoColumn C_NoCourse C_NoGoal C_NoRow C_NoTable C_Outdated C_TooGreat (fun C fs _ μ' => XP C fs μ') { nx := fun _ μ' => Q .none μ', rt := Q } [some (.int ((2 : Nat) : Int)), some (.lst [t0, t1, t2])] μ := by
  unfold w_law_first_raised
  refine no_if (eq_t (by decide) rfl) ?_
  refine no_if (eq_t (by decide) rfl) ?_
  exact yes_if (eq_t (by decide) rfl) (raise_ (cons_v (pe_ixL (ds := [t0, t1, t2]) (pe_var rfl) (pe_c (y := .int 0)) (y := t0) rfl) ⟨rfl, q _⟩))
theorem first_3 {Q : DV → Mh → Prop} {XP : XC} (q : ∀ fs, XP C_NoTable fs μ) : w_law_first_raised C_BadRow C_BadTable C_Failed C_KeyTaken C_NameTaken C_NoColumn C_NoCourse C_NoGoal C_NoRow C_NoTable C_Outdated C_TooGreat (fun C fs _ μ' => XP C fs μ') { nx := fun _ μ' => Q .none μ', rt := Q } [some (.int ((3 : Nat) : Int)), some (.lst [t0, t1, t2])] μ := by
  unfold w_law_first_raised
  refine no_if (eq_t (by decide) rfl) ?_
  refine no_if (eq_t (by decide) rfl) ?_
  refine no_if (eq_t (by decide) rfl) ?_
  exact yes_if (eq_t (by decide) rfl) (raise_ (cons_v (pe_ixL (ds := [t0, t1, t2]) (pe_var rfl) (pe_c (y := .int 0)) (y := t0) rfl) ⟨rfl, q _⟩))
theorem first_4 {Q : DV → Mh → Prop} {XP : XC} (q : ∀ fs, XP C_NoColumn fs μ) : w_law_first_raised C_BadRow C_BadTable C_Failed C_KeyTaken C_NameTaken C_NoColumn C_NoCourse C_NoGoal C_NoRow C_NoTable C_Outdated C_TooGreat (fun C fs _ μ' => XP C fs μ') { nx := fun _ μ' => Q .none μ', rt := Q } [some (.int ((4 : Nat) : Int)), some (.lst [t0, t1, t2])] μ := by
  unfold w_law_first_raised
  refine no_if (eq_t (by decide) rfl) ?_
  refine no_if (eq_t (by decide) rfl) ?_
  refine no_if (eq_t (by decide) rfl) ?_
  refine no_if (eq_t (by decide) rfl) ?_
  exact yes_if (eq_t (by decide) rfl) (raise_ (cons_v (pe_ixL (ds := [t0, t1, t2]) (pe_var rfl) (pe_c (y := .int 0)) (y := t0) rfl) ⟨rfl, q _⟩))
theorem first_5 {Q : DV → Mh → Prop} {XP : XC} (q : ∀ fs, XP C_BadRow fs μ) : w_law_first_raised C_BadRow C_BadTable C_Failed C_KeyTaken C_NameTaken C_NoColumn C_NoCourse C_NoGoal C_NoRow C_NoTable C_Outdated C_TooGreat (fun C fs _ μ' => XP C fs μ') { nx := fun _ μ' => Q .none μ', rt := Q } [some (.int ((5 : Nat) : Int)), some (.lst [t0, t1, t2])] μ := by
  unfold w_law_first_raised
  refine no_if (eq_t (by decide) rfl) ?_
  refine no_if (eq_t (by decide) rfl) ?_
  refine no_if (eq_t (by decide) rfl) ?_
  refine no_if (eq_t (by decide) rfl) ?_
  refine no_if (eq_t (by decide) rfl) ?_
  exact yes_if (eq_t (by decide) rfl) (raise_ (cons_v (pe_ixL (ds := [t0, t1, t2]) (pe_var rfl) (pe_c (y := .int 0)) (y := t0) rfl) ⟨rfl, q _⟩))
theorem first_6 {Q : DV → Mh → Prop} {XP : XC} (q : ∀ fs, XP C_KeyTaken fs μ) : w_law_first_raised C_BadRow C_BadTable C_Failed C_KeyTaken C_NameTaken C_NoColumn C_NoCourse C_NoGoal C_NoRow C_NoTable C_Outdated C_TooGreat (fun C fs _ μ' => XP C fs μ') { nx := fun _ μ' => Q .none μ', rt := Q } [some (.int ((6 : Nat) : Int)), some (.lst [t0, t1, t2])] μ := by
  unfold w_law_first_raised
  refine no_if (eq_t (by decide) rfl) ?_
  refine no_if (eq_t (by decide) rfl) ?_
  refine no_if (eq_t (by decide) rfl) ?_
  refine no_if (eq_t (by decide) rfl) ?_
  refine no_if (eq_t (by decide) rfl) ?_
  refine no_if (eq_t (by decide) rfl) ?_
  exact yes_if (eq_t (by decide) rfl) (raise_ (cons_v (pe_ixL (ds := [t0, t1, t2]) (pe_var rfl) (pe_c (y := .int 0)) (y := t0) rfl) ⟨rfl, q _⟩))
theorem first_7 {Q : DV → Mh → Prop} {XP : XC} (q : ∀ fs, XP C_NoRow fs μ) : w_law_first_raised C_BadRow C_BadTable C_Failed C_KeyTaken C_NameTaken C_NoColumn C_NoCourse C_NoGoal C_NoRow C_NoTable C_Outdated C_TooGreat (fun C fs _ μ' => XP C fs μ') { nx := fun _ μ' => Q .none μ', rt := Q } [some (.int ((7 : Nat) : Int)), some (.lst [t0, t1, t2])] μ := by
  unfold w_law_first_raised
  refine no_if (eq_t (by decide) rfl) ?_
  refine no_if (eq_t (by decide) rfl) ?_
  refine no_if (eq_t (by decide) rfl) ?_
  refine no_if (eq_t (by decide) rfl) ?_
  refine no_if (eq_t (by decide) rfl) ?_
  refine no_if (eq_t (by decide) rfl) ?_
  refine no_if (eq_t (by decide) rfl) ?_
  exact yes_if (eq_t (by decide) rfl) (raise_ (cons_v (pe_ixL (ds := [t0, t1, t2]) (pe_var rfl) (pe_c (y := .int 0)) (y := t0) rfl) ⟨rfl, q _⟩))
theorem first_8 {Q : DV → Mh → Prop} {XP : XC} (q : ∀ fs, XP C_TooGreat fs μ) : w_law_first_raised C_BadRow C_BadTable C_Failed C_KeyTaken C_NameTaken C_NoColumn C_NoCourse C_NoGoal C_NoRow C_NoTable C_Outdated C_TooGreat (fun C fs _ μ' => XP C fs μ') { nx := fun _ μ' => Q .none μ', rt := Q } [some (.int ((8 : Nat) : Int)), some (.lst [t0, t1, t2])] μ := by
  unfold w_law_first_raised
  refine no_if (eq_t (by decide) rfl) ?_
  refine no_if (eq_t (by decide) rfl) ?_
  refine no_if (eq_t (by decide) rfl) ?_
  refine no_if (eq_t (by decide) rfl) ?_
  refine no_if (eq_t (by decide) rfl) ?_
  refine no_if (eq_t (by decide) rfl) ?_
  refine no_if (eq_t (by decide) rfl) ?_
  refine no_if (eq_t (by decide) rfl) ?_
  exact yes_if (eq_t (by decide) rfl) (raise_ (cons_v (pe_ixL (ds := [t0, t1, t2]) (pe_var rfl) (pe_c (y := .int 0)) (y := t0) rfl) ⟨rfl, q _⟩))
theorem first_9 {Q : DV → Mh → Prop} {XP : XC} (q : ∀ fs, XP C_Outdated fs μ) : w_law_first_raised C_BadRow C_BadTable C_Failed C_KeyTaken C_NameTaken C_NoColumn C_NoCourse C_NoGoal C_NoRow C_NoTable C_Outdated C_TooGreat (fun C fs _ μ' => XP C fs μ') { nx := fun _ μ' => Q .none μ', rt := Q } [some (.int ((9 : Nat) : Int)), some (.lst [t0, t1, t2])] μ := by
  unfold w_law_first_raised
  refine no_if (eq_t (by decide) rfl) ?_
  refine no_if (eq_t (by decide) rfl) ?_
  refine no_if (eq_t (by decide) rfl) ?_
  refine no_if (eq_t (by decide) rfl) ?_
  refine no_if (eq_t (by decide) rfl) ?_
  refine no_if (eq_t (by decide) rfl) ?_
  refine no_if (eq_t (by decide) rfl) ?_
  refine no_if (eq_t (by decide) rfl) ?_
  refine no_if (eq_t (by decide) rfl) ?_
  exact yes_if (eq_t (by decide) rfl) (raise_ (cons_v (pe_ixL (ds := [t0, t1, t2]) (pe_var rfl) (pe_c (y := .int 0)) (y := t0) rfl) ⟨rfl, q _⟩))
theorem first_10 {Q : DV → Mh → Prop} {XP : XC} (q : ∀ fs, XP C_NoGoal fs μ) : w_law_first_raised C_BadRow C_BadTable C_Failed C_KeyTaken C_NameTaken C_NoColumn C_NoCourse C_NoGoal C_NoRow C_NoTable C_Outdated C_TooGreat (fun C fs _ μ' => XP C fs μ') { nx := fun _ μ' => Q .none μ', rt := Q } [some (.int ((10 : Nat) : Int)), some (.lst [t0, t1, t2])] μ := by
  unfold w_law_first_raised
  refine no_if (eq_t (by decide) rfl) ?_
  refine no_if (eq_t (by decide) rfl) ?_
  refine no_if (eq_t (by decide) rfl) ?_
  refine no_if (eq_t (by decide) rfl) ?_
  refine no_if (eq_t (by decide) rfl) ?_
  refine no_if (eq_t (by decide) rfl) ?_
  refine no_if (eq_t (by decide) rfl) ?_
  refine no_if (eq_t (by decide) rfl) ?_
  refine no_if (eq_t (by decide) rfl) ?_
  refine no_if (eq_t (by decide) rfl) ?_
  exact yes_if (eq_t (by decide) rfl) (raise_ (cons_v (pe_ixL (ds := [t0, t1, t2]) (pe_var rfl) (pe_c (y := .int 0)) (y := t0) rfl) ⟨rfl, q _⟩))
theorem first_11 {Q : DV → Mh → Prop} {XP : XC} (q : ∀ fs, XP C_NoCourse fs μ) : w_law_first_raised C_BadRow C_BadTable C_Failed C_KeyTaken C_NameTaken C_NoColumn C_NoCourse C_NoGoal C_NoRow C_NoTable C_Outdated C_TooGreat (fun C fs _ μ' => XP C fs μ') { nx := fun _ μ' => Q .none μ', rt := Q } [some (.int ((11 : Nat) : Int)), some (.lst [t0, t1, t2])] μ := by
  unfold w_law_first_raised
  refine no_if (eq_t (by decide) rfl) ?_
  refine no_if (eq_t (by decide) rfl) ?_
  refine no_if (eq_t (by decide) rfl) ?_
  refine no_if (eq_t (by decide) rfl) ?_
  refine no_if (eq_t (by decide) rfl) ?_
  refine no_if (eq_t (by decide) rfl) ?_
  refine no_if (eq_t (by decide) rfl) ?_
  refine no_if (eq_t (by decide) rfl) ?_
  refine no_if (eq_t (by decide) rfl) ?_
  refine no_if (eq_t (by decide) rfl) ?_
  refine no_if (eq_t (by decide) rfl) ?_
  exact ifs_v (b := true) (eq_t (by decide) rfl) (fun _ => raise_ (cons_v (pe_ixL (ds := [t0, t1, t2]) (pe_var rfl) (pe_c (y := .int 0)) (y := t0) rfl) ⟨rfl, q _⟩)) fun z => by cases z
theorem first_no {Q : DV → Mh → Prop} {XP : XC} {w : Nat} (hw : 12 ≤ w) (q : Q .none μ) : w_law_first_raised C_BadRow C_BadTable C_Failed C_KeyTaken C_NameTaken C_NoColumn C_NoCourse C_NoGoal C_NoRow C_NoTable C_Outdated C_TooGreat (fun C fs _ μ' => XP C fs μ') { nx := fun _ μ' => Q .none μ', rt := Q } [some (.int (w : Nat)), some (.lst [t0, t1, t2])] μ := by
  unfold w_law_first_raised
  have no : ∀ k : Int, k < 12 → decide ((w : Int) = k) = false := fun k hk => decide_eq_false (by omega)
  refine no_if (eq_t (no _ (by decide)) rfl) ?_
  refine no_if (eq_t (no _ (by decide)) rfl) ?_
  refine no_if (eq_t (no _ (by decide)) rfl) ?_
  refine no_if (eq_t (no _ (by decide)) rfl) ?_
  refine no_if (eq_t (no _ (by decide)) rfl) ?_
  refine no_if (eq_t (no _ (by decide)) rfl) ?_
  refine no_if (eq_t (no _ (by decide)) rfl) ?_
  refine no_if (eq_t (no _ (by decide)) rfl) ?_
  refine no_if (eq_t (no _ (by decide)) rfl) ?_
  refine no_if (eq_t (no _ (by decide)) rfl) ?_
  refine no_if (eq_t (no _ (by decide)) rfl) ?_
  exact ifs_v (b := false) (eq_t (no _ (by decide)) rfl) (fun z => by cases z) fun _ => q
theorem p_law_first_raised (ds : List DV) (μ : Mh) (Q : DV → Mh → Prop) (XP : XC) (hl : ds.length = 2) (h : wfFirst (clsL C_BadRow C_BadTable C_Failed C_InvalidCommand C_InvalidText C_KeyTaken C_NameTaken C_NoColumn C_NoCourse C_NoGoal C_NoPlan C_NoQuestion C_NoRow C_NoRun C_NoTable C_NotPlain C_NothingAsked C_Outdated C_TooGreat) ds μ Q XP) : w_law_first_raised C_BadRow C_BadTable C_Failed C_KeyTaken C_NameTaken C_NoColumn C_NoCourse C_NoGoal C_NoRow C_NoTable C_Outdated C_TooGreat (fun C fs _ μ' => XP C fs μ') { nx := fun _ μ' => Q .none μ', rt := Q } (ds.map some ++ List.replicate 0 none) μ := by
  obtain ⟨w, t0, t1, t2, lw, rfl, q1, q2⟩ := h
  by_cases hw : 12 ≤ w
  · exact first_no hw (q2 hw)
  have q1 := q1 (by omega)
  revert q1
  have hw : w < 12 := by omega
  match w, hw with
  | 0, _ => exact fun q => first_0 q
  | 1, _ => exact fun q => first_1 q
  | 2, _ => exact fun q => first_2 q
  | 3, _ => exact fun q => first_3 q
  | 4, _ => exact fun q => first_4 q
  | 5, _ => exact fun q => first_5 q
  | 6, _ => exact fun q => first_6 q
  | 7, _ => exact fun q => first_7 q
  | 8, _ => exact fun q => first_8 q
  | 9, _ => exact fun q => first_9 q
  | 10, _ => exact fun q => first_10 q
  | 11, _ => exact fun q => first_11 q
  | n + 12, h => exact absurd h (by omega)
theorem raised_12 {Q : DV → Mh → Prop} {XP : XC} (q : ∀ fs, XP C_NoQuestion fs μ) : w_law_raised C_InvalidCommand C_InvalidText C_NoPlan C_NoQuestion C_NoRun C_NotPlain C_NothingAsked (wfFirst (clsL C_BadRow C_BadTable C_Failed C_InvalidCommand C_InvalidText C_KeyTaken C_NameTaken C_NoColumn C_NoCourse C_NoGoal C_NoPlan C_NoQuestion C_NoRow C_NoRun C_NoTable C_NotPlain C_NothingAsked C_Outdated C_TooGreat)) (fun C fs _ μ' => XP C fs μ') { nx := fun _ μ' => Q .none μ', rt := Q } [some (.int ((12 : Nat) : Int)), some (.lst [t0, t1, t2])] μ := by
  unfold w_law_raised
  refine fnX2_ rfl rfl ⟨12, t0, t1, t2, by decide, rfl, fun z => absurd z (by decide), fun _ => ?_⟩
  dsimp only
  exact yes_if (eq_t (by decide) rfl) (q _)
theorem raised_13 {Q : DV → Mh → Prop} {XP : XC} (q : ∀ fs, XP C_NotPlain fs μ) : w_law_raised C_InvalidCommand C_InvalidText C_NoPlan C_NoQuestion C_NoRun C_NotPlain C_NothingAsked (wfFirst (clsL C_BadRow C_BadTable C_Failed C_InvalidCommand C_InvalidText C_KeyTaken C_NameTaken C_NoColumn C_NoCourse C_NoGoal C_NoPlan C_NoQuestion C_NoRow C_NoRun C_NoTable C_NotPlain C_NothingAsked C_Outdated C_TooGreat)) (fun C fs _ μ' => XP C fs μ') { nx := fun _ μ' => Q .none μ', rt := Q } [some (.int ((13 : Nat) : Int)), some (.lst [t0, t1, t2])] μ := by
  unfold w_law_raised
  refine fnX2_ rfl rfl ⟨13, t0, t1, t2, by decide, rfl, fun z => absurd z (by decide), fun _ => ?_⟩
  dsimp only
  refine no_if (eq_t (by decide) rfl) ?_
  exact yes_if (eq_t (by decide) rfl) (q _)
theorem raised_14 {Q : DV → Mh → Prop} {XP : XC} (q : ∀ fs, XP C_NoPlan fs μ) : w_law_raised C_InvalidCommand C_InvalidText C_NoPlan C_NoQuestion C_NoRun C_NotPlain C_NothingAsked (wfFirst (clsL C_BadRow C_BadTable C_Failed C_InvalidCommand C_InvalidText C_KeyTaken C_NameTaken C_NoColumn C_NoCourse C_NoGoal C_NoPlan C_NoQuestion C_NoRow C_NoRun C_NoTable C_NotPlain C_NothingAsked C_Outdated C_TooGreat)) (fun C fs _ μ' => XP C fs μ') { nx := fun _ μ' => Q .none μ', rt := Q } [some (.int ((14 : Nat) : Int)), some (.lst [t0, t1, t2])] μ := by
  unfold w_law_raised
  refine fnX2_ rfl rfl ⟨14, t0, t1, t2, by decide, rfl, fun z => absurd z (by decide), fun _ => ?_⟩
  dsimp only
  refine no_if (eq_t (by decide) rfl) ?_
  refine no_if (eq_t (by decide) rfl) ?_
  exact yes_if (eq_t (by decide) rfl) (q _)
theorem raised_15 {Q : DV → Mh → Prop} {XP : XC} (q : ∀ fs, XP C_InvalidText fs μ) : w_law_raised C_InvalidCommand C_InvalidText C_NoPlan C_NoQuestion C_NoRun C_NotPlain C_NothingAsked (wfFirst (clsL C_BadRow C_BadTable C_Failed C_InvalidCommand C_InvalidText C_KeyTaken C_NameTaken C_NoColumn C_NoCourse C_NoGoal C_NoPlan C_NoQuestion C_NoRow C_NoRun C_NoTable C_NotPlain C_NothingAsked C_Outdated C_TooGreat)) (fun C fs _ μ' => XP C fs μ') { nx := fun _ μ' => Q .none μ', rt := Q } [some (.int ((15 : Nat) : Int)), some (.lst [t0, t1, t2])] μ := by
  unfold w_law_raised
  refine fnX2_ rfl rfl ⟨15, t0, t1, t2, by decide, rfl, fun z => absurd z (by decide), fun _ => ?_⟩
  dsimp only
  refine no_if (eq_t (by decide) rfl) ?_
  refine no_if (eq_t (by decide) rfl) ?_
  refine no_if (eq_t (by decide) rfl) ?_
  exact yes_if (eq_t (by decide) rfl) (q _)
theorem raised_16 {Q : DV → Mh → Prop} {XP : XC} (q : ∀ fs, XP C_InvalidCommand fs μ) : w_law_raised C_InvalidCommand C_InvalidText C_NoPlan C_NoQuestion C_NoRun C_NotPlain C_NothingAsked (wfFirst (clsL C_BadRow C_BadTable C_Failed C_InvalidCommand C_InvalidText C_KeyTaken C_NameTaken C_NoColumn C_NoCourse C_NoGoal C_NoPlan C_NoQuestion C_NoRow C_NoRun C_NoTable C_NotPlain C_NothingAsked C_Outdated C_TooGreat)) (fun C fs _ μ' => XP C fs μ') { nx := fun _ μ' => Q .none μ', rt := Q } [some (.int ((16 : Nat) : Int)), some (.lst [t0, t1, t2])] μ := by
  unfold w_law_raised
  refine fnX2_ rfl rfl ⟨16, t0, t1, t2, by decide, rfl, fun z => absurd z (by decide), fun _ => ?_⟩
  dsimp only
  refine no_if (eq_t (by decide) rfl) ?_
  refine no_if (eq_t (by decide) rfl) ?_
  refine no_if (eq_t (by decide) rfl) ?_
  refine no_if (eq_t (by decide) rfl) ?_
  exact yes_if (eq_t (by decide) rfl) (q _)
theorem raised_17 {Q : DV → Mh → Prop} {XP : XC} (q : ∀ fs, XP C_NothingAsked fs μ) : w_law_raised C_InvalidCommand C_InvalidText C_NoPlan C_NoQuestion C_NoRun C_NotPlain C_NothingAsked (wfFirst (clsL C_BadRow C_BadTable C_Failed C_InvalidCommand C_InvalidText C_KeyTaken C_NameTaken C_NoColumn C_NoCourse C_NoGoal C_NoPlan C_NoQuestion C_NoRow C_NoRun C_NoTable C_NotPlain C_NothingAsked C_Outdated C_TooGreat)) (fun C fs _ μ' => XP C fs μ') { nx := fun _ μ' => Q .none μ', rt := Q } [some (.int ((17 : Nat) : Int)), some (.lst [t0, t1, t2])] μ := by
  unfold w_law_raised
  refine fnX2_ rfl rfl ⟨17, t0, t1, t2, by decide, rfl, fun z => absurd z (by decide), fun _ => ?_⟩
  dsimp only
  refine no_if (eq_t (by decide) rfl) ?_
  refine no_if (eq_t (by decide) rfl) ?_
  refine no_if (eq_t (by decide) rfl) ?_
  refine no_if (eq_t (by decide) rfl) ?_
  refine no_if (eq_t (by decide) rfl) ?_
  exact yes_if (eq_t (by decide) rfl) (q _)
theorem raised_18 {Q : DV → Mh → Prop} {XP : XC} (q : ∀ fs, XP C_NoRun fs μ) : w_law_raised C_InvalidCommand C_InvalidText C_NoPlan C_NoQuestion C_NoRun C_NotPlain C_NothingAsked (wfFirst (clsL C_BadRow C_BadTable C_Failed C_InvalidCommand C_InvalidText C_KeyTaken C_NameTaken C_NoColumn C_NoCourse C_NoGoal C_NoPlan C_NoQuestion C_NoRow C_NoRun C_NoTable C_NotPlain C_NothingAsked C_Outdated C_TooGreat)) (fun C fs _ μ' => XP C fs μ') { nx := fun _ μ' => Q .none μ', rt := Q } [some (.int ((18 : Nat) : Int)), some (.lst [t0, t1, t2])] μ := by
  unfold w_law_raised
  refine fnX2_ rfl rfl ⟨18, t0, t1, t2, by decide, rfl, fun z => absurd z (by decide), fun _ => ?_⟩
  dsimp only
  refine no_if (eq_t (by decide) rfl) ?_
  refine no_if (eq_t (by decide) rfl) ?_
  refine no_if (eq_t (by decide) rfl) ?_
  refine no_if (eq_t (by decide) rfl) ?_
  refine no_if (eq_t (by decide) rfl) ?_
  refine no_if (eq_t (by decide) rfl) ?_
  exact q _
theorem p_law_raised (ds : List DV) (μ : Mh) (Q : DV → Mh → Prop) (XP : XC) (hl : ds.length = 2) (h : wfRaised (clsL C_BadRow C_BadTable C_Failed C_InvalidCommand C_InvalidText C_KeyTaken C_NameTaken C_NoColumn C_NoCourse C_NoGoal C_NoPlan C_NoQuestion C_NoRow C_NoRun C_NoTable C_NotPlain C_NothingAsked C_Outdated C_TooGreat) ds μ Q XP) : w_law_raised C_InvalidCommand C_InvalidText C_NoPlan C_NoQuestion C_NoRun C_NotPlain C_NothingAsked (wfFirst (clsL C_BadRow C_BadTable C_Failed C_InvalidCommand C_InvalidText C_KeyTaken C_NameTaken C_NoColumn C_NoCourse C_NoGoal C_NoPlan C_NoQuestion C_NoRow C_NoRun C_NoTable C_NotPlain C_NothingAsked C_Outdated C_TooGreat)) (fun C fs _ μ' => XP C fs μ') { nx := fun _ μ' => Q .none μ', rt := Q } (ds.map some ++ List.replicate 0 none) μ := by
  obtain ⟨w, t0, t1, t2, lw, rfl, q⟩ := h
  by_cases hw : w < 12
  · unfold w_law_raised
    exact fnX2_ rfl rfl ⟨w, t0, t1, t2, lw, rfl, fun _ => q, fun z => absurd z (by omega)⟩
  revert q
  match w, lw with
  | 0, _ => exact absurd (by decide) hw
  | 1, _ => exact absurd (by decide) hw
  | 2, _ => exact absurd (by decide) hw
  | 3, _ => exact absurd (by decide) hw
  | 4, _ => exact absurd (by decide) hw
  | 5, _ => exact absurd (by decide) hw
  | 6, _ => exact absurd (by decide) hw
  | 7, _ => exact absurd (by decide) hw
  | 8, _ => exact absurd (by decide) hw
  | 9, _ => exact absurd (by decide) hw
  | 10, _ => exact absurd (by decide) hw
  | 11, _ => exact absurd (by decide) hw
  | 12, _ => exact fun q => raised_12 q
  | 13, _ => exact fun q => raised_13 q
  | 14, _ => exact fun q => raised_14 q
  | 15, _ => exact fun q => raised_15 q
  | 16, _ => exact fun q => raised_16 q
  | 17, _ => exact fun q => raised_17 q
  | 18, _ => exact fun q => raised_18 q
  | n + 19, h => exact absurd h (by omega)
def kindsD (w : Nat) : DV := .lst [ownD w, othD, .bool true]
def wfCaught : WF := fun ds μ Q => ∃ (w : Nat) (t0 t1 t2 : DV), w < 19 ∧ ds = [.int (w : Nat), .lst [t0, t1, t2]] ∧ Q (kindsD w) μ
theorem p_law_caught {mt : Mt} (h : KK kt (clsL C_BadRow C_BadTable C_Failed C_InvalidCommand C_InvalidText C_KeyTaken C_NameTaken C_NoColumn C_NoCourse C_NoGoal C_NoPlan C_NoQuestion C_NoRow C_NoRun C_NoTable C_NotPlain C_NothingAsked C_Outdated C_TooGreat) CF) (hm : ∀ w, w < 19 → mt ((clsL C_BadRow C_BadTable C_Failed C_InvalidCommand C_InvalidText C_KeyTaken C_NameTaken C_NoColumn C_NoCourse C_NoGoal C_NoPlan C_NoQuestion C_NoRow C_NoRun C_NoTable C_NotPlain C_NothingAsked C_Outdated C_TooGreat).getD w 0) CF = some true) (ds : List DV) (μ : Mh) (Q : DV → Mh → Prop) (hl : ds.length = 2) (hw : wfCaught ds μ Q) : w_law_caught CF mt kt (wfOwnH (clsL C_BadRow C_BadTable C_Failed C_InvalidCommand C_InvalidText C_KeyTaken C_NameTaken C_NoColumn C_NoCourse C_NoGoal C_NoPlan C_NoQuestion C_NoRow C_NoRun C_NoTable C_NotPlain C_NothingAsked C_Outdated C_TooGreat)) (wfOthH (clsL C_BadRow C_BadTable C_Failed C_InvalidCommand C_InvalidText C_KeyTaken C_NameTaken C_NoColumn C_NoCourse C_NoGoal C_NoPlan C_NoQuestion C_NoRow C_NoRun C_NoTable C_NotPlain C_NothingAsked C_Outdated C_TooGreat)) (wfRaised (clsL C_BadRow C_BadTable C_Failed C_InvalidCommand C_InvalidText C_KeyTaken C_NameTaken C_NoColumn C_NoCourse C_NoGoal C_NoPlan C_NoQuestion C_NoRow C_NoRun C_NoTable C_NotPlain C_NothingAsked C_Outdated C_TooGreat)) { nx := fun _ μ' => Q .none μ', rt := Q } (ds.map some ++ List.replicate 2 none) μ := by
  obtain ⟨w, t0, t1, t2, lw, rfl, q⟩ := hw
  unfold w_law_caught
  refine seq_asg (y := .lst []) (pl pa_nil (le1 rfl)) ?_
  show wSeq (wTryG _ _ _ _) _ _ _ _
  unfold wSeq wTryG
  refine fnX2_ rfl rfl ⟨w, t0, t1, t2, lw, rfl, fun fs => ?_⟩
  show (match mt ((clsL C_BadRow C_BadTable C_Failed C_InvalidCommand C_InvalidText C_KeyTaken C_NameTaken C_NoColumn C_NoCourse C_NoGoal C_NoPlan C_NoQuestion C_NoRow C_NoRun C_NoTable C_NotPlain C_NothingAsked C_Outdated C_TooGreat).getD w 0) CF with | some true => _ | some false => _ | none => False)
  rw [hm w lw]
  intro a
  show wAsg (wLst (wCons (wCall 1 (wfOwnH (clsL C_BadRow C_BadTable C_Failed C_InvalidCommand C_InvalidText C_KeyTaken C_NameTaken C_NoColumn C_NoCourse C_NoGoal C_NoPlan C_NoQuestion C_NoRow C_NoRun C_NoTable C_NotPlain C_NothingAsked C_Outdated C_TooGreat) a ((clsL C_BadRow C_BadTable C_Failed C_InvalidCommand C_InvalidText C_KeyTaken C_NameTaken C_NoColumn C_NoCourse C_NoGoal C_NoPlan C_NoQuestion C_NoRow C_NoRun C_NoTable C_NotPlain C_NothingAsked C_Outdated C_TooGreat).getD w 0)) (wCons (wVar 3) wNil)) (wCons (wCall 1 (wfOthH (clsL C_BadRow C_BadTable C_Failed C_InvalidCommand C_InvalidText C_KeyTaken C_NameTaken C_NoColumn C_NoCourse C_NoGoal C_NoPlan C_NoQuestion C_NoRow C_NoRun C_NoTable C_NotPlain C_NothingAsked C_Outdated C_TooGreat) a ((clsL C_BadRow C_BadTable C_Failed C_InvalidCommand C_InvalidText C_KeyTaken C_NameTaken C_NoColumn C_NoCourse C_NoGoal C_NoPlan C_NoQuestion C_NoRow C_NoRun C_NoTable C_NotPlain C_NothingAsked C_Outdated C_TooGreat).getD w 0)) (wCons (wVar 3) wNil)) (wCons (wIsP kt a ((clsL C_BadRow C_BadTable C_Failed C_InvalidCommand C_InvalidText C_KeyTaken C_NameTaken C_NoColumn C_NoCourse C_NoGoal C_NoPlan C_NoQuestion C_NoRow C_NoRun C_NoTable C_NotPlain C_NothingAsked C_Outdated C_TooGreat).getD w 0) (.type "Exception") (wVar 3)) wNil)))) (wgName 2) _ [some (.int (w : Nat)), some (.lst [t0, t1, t2]), some (.lst []), some (.obj a)] μ
  refine asgJ_ (lst_ (cons_ (call_ (ys := [.obj a]) (pa_cons (pe_var rfl) pa_nil) rfl ⟨w, lw, rfl, rfl, ?_⟩)))
  refine cons_ (call_ (ys := [.obj a]) (pa_cons (pe_var rfl) pa_nil) rfl ⟨w, lw, rfl, rfl, ?_⟩)
  refine cons_v (pe_isP (a := a) (h.ex w lw) rfl) ⟨sl (le1 rfl), ?_⟩
  show wRet (wVar 2) { nx := fun _ μ' => Q .none μ', rt := Q } [some (.int (w : Nat)), some (.lst [t0, t1, t2]), some (kindsD w), none] μ
  exact ret_v (pe_var rfl) q
end
end K01
set_option Elab.async false
set_option linter.all false
set_option maxRecDepth 100000
set_option Elab.async false
set_option linter.all false
set_option maxRecDepth 100000
set_option maxHeartbeats 1000000
namespace Fx
open PySem L2 Dz TL PyProof.Rows St
inductive Vl where
  | non
  | int (i : Int)
  | str (s : Str)
def Vl.d : Vl → DV
  | .non => .none
  | .int i => .int i
  | .str s => .str s
def Vl.Ok : Vl → Prop
  | .non => True
  | .int i => -1000000000000 ≤ i ∧ i ≤ 1000000000000
  | .str s => nmB s = true
def intsOf : List Vl → List Int
  | [] => []
  | .int i :: r => i :: intsOf r
  | _ :: r => intsOf r
def cN : List Vl → Nat
  | [] => 0
  | .non :: r => cN r + 1
  | _ :: r => cN r
def cS : List Vl → Nat
  | [] => 0
  | .str _ :: r => cS r + 1
  | _ :: r => cS r
def lo : List Int → Int
  | [] => 0
  | x :: xs => xs.foldr min x
def hi : List Int → Int
  | [] => 0
  | x :: xs => xs.foldr max x
def loD : List Int → DV
  | [] => .none
  | x :: xs => .int (lo (x :: xs))
def hiD : List Int → DV
  | [] => .none
  | x :: xs => .int (hi (x :: xs))
def toS (i : Int) : Str := toString i
def middle : List Int → Str
  | [] => "0 numbers"
  | x :: xs => (((toS (((x :: xs).length : Nat) : Int) ++ " numbers from ") ++ toS (lo (x :: xs))) ++ " to ") ++ toS (hi (x :: xs))
def textF (vs : List Vl) : Str := ((((toS (cN vs : Nat) ++ " nothing, ") ++ middle (intsOf vs)) ++ ", ") ++ toS (cS vs : Nat)) ++ " words"
def fieldsF (vs : List Vl) : List (Str × DV) := [("facts_of", .tup (vs.map Vl.d)), ("nothings", .int (cN vs : Nat)), ("numbers", .int ((intsOf vs).length : Nat)), ("words", .int (cS vs : Nat)), ("least", loD (intsOf vs)), ("greatest", hiD (intsOf vs)), ("text", .str (textF vs))]
def Kept (μ μ' : Mh) : Prop := ∀ b o, μ b = some o → μ' b = some o
theorem Kept.refl {μ : Mh} : Kept μ μ := fun _ _ h => h
theorem Kept.trans {μ μ' μ'' : Mh} (h : Kept μ μ') (h' : Kept μ' μ'') : Kept μ μ'' := fun b o e => h' b o (h b o e)
def IsF (C : Addr) (μ : Mh) (x : DV) (vs : List Vl) : Prop := ∃ p, x = .obj p ∧ μ p = some (.ins C (fieldsF vs)) ∧ (∀ v ∈ vs, v.Ok) ∧ vs.length ≤ 60
theorem IsF.kept {C : Addr} {μ μ' : Mh} {x : DV} {vs : List Vl} (h : IsF C μ x vs) (k : Kept μ μ') : IsF C μ' x vs := let ⟨p, e, m, o, l⟩ := h; ⟨p, e, k _ _ m, o, l⟩
end Fx
set_option Elab.async false
set_option linter.all false
set_option maxRecDepth 100000
set_option maxHeartbeats 1000000
namespace Fx
open PySem L2 Dz TL PyProof.Rows St
theorem Kept.o {μ μ' : Mh} (h : Kept μ μ') : KpO [] μ μ' := fun b o _ e => h b o e
theorem Kept.of {μ μ' : Mh} (h : KpO [] μ μ') : Kept μ μ' := fun b o e => h b o (by simp) e
end Fx
set_option Elab.async false
set_option linter.all false
set_option maxRecDepth 100000
set_option maxHeartbeats 2000000
namespace St
open PySem Dz TL PyProof.Rows Fx
end St
set_option Elab.async false
set_option linter.all false
set_option maxRecDepth 100000
set_option maxHeartbeats 2000000
namespace St
open PySem Dz TL PyProof.Rows Fx
open L2 (Key atI)
end St
set_option Elab.async false
set_option linter.all false
set_option maxRecDepth 100000
set_option maxHeartbeats 2000000
namespace St
open PySem Dz TL PyProof.Rows Fx
open L2 (Key atI)
end St
set_option Elab.async false
set_option linter.all false
set_option maxRecDepth 100000
set_option maxHeartbeats 2000000
namespace St
open PySem L2 Dz TL PyProof.Rows
theorem KpO.of {a c : Addr} {F : List Addr} {μ μ' : Mh} (k : KpD a c μ μ') (ha : a ∈ F) (hc : c ∈ F) : KpO F μ μ' := fun b o nb e => k b o (fun z => nb (by rw [z]; exact ha)) (fun z => nb (by rw [z]; exact hc)) e
end St
set_option Elab.async false
set_option linter.all false
set_option maxRecDepth 100000
set_option maxHeartbeats 1000000
set_option Elab.async false
set_option linter.all false
set_option maxRecDepth 100000
set_option maxHeartbeats 2000000
namespace K16
open PySem Dz TL PyProof.Rows St Fx
open L2 (Key atI)
section
variable {ρ : Rho} {μ : Mh} {wa wb we : WE} {xs : List DV} {b : Bool} {P : DV → Mh → Prop} {p : Addr} {i : Nat}
theorem lcR_pure {v n : Nat} {f : DV → DV} (hn : n ≤ 1000) (h : ∀ d ∈ rngD 0 n, PEv we ((wipeD ρ [v]).set v (some d)) μ (f d)) : PEv (wLc (sRng1 (wC (.int (n : Nat)))) (wgName v) wYes we [v]) ρ μ (.lst ((rngD 0 n).map f)) := fun P q => lc_rng hn (by
  refine comp_pure (fun _ => true) f (rngD 0 n) [] _ (fun x hx acc P ha hP => h x hx _ ⟨ha, hP⟩) (sl (by show 0 + _ ≤ _; rw [rngD_len]; omega)) ?_
  rw [List.filter_eq_self.mpr fun _ _ => rfl]
  exact q)
end
end K16
set_option Elab.async false
set_option linter.all false
set_option maxRecDepth 100000
set_option maxHeartbeats 4000000
namespace K01
open PySem Dz TL PyProof.Rows St K20
open L2 (Key atI)
theorem seqg_ {w : WE} {g : WG} {rest : WS} {E : DEnds} {ρ : Rho} {μ : Mh} (k : w ρ μ fun d μ1 => g d ρ fun ρ1 => rest E ρ1 μ1) : wSeq (wAsg w g) rest E ρ μ := k
theorem ifs_not_ {wa : WE} {E : DEnds} {ρ : Rho} {μ : Mh} (h : wa ρ μ fun d μ1 => tru d (E.rt (.bool false) μ1) (E.nx ρ μ1)) : wIfS (wNotT (wTest wa)) (wRet (wC (.bool false))) wNext E ρ μ := notT_tru (E := E) (k := fun μ1 => E.nx ρ μ1) h True
theorem ifs_ne_ {wa : WE} {E : DEnds} {ρ : Rho} {μ : Mh} (h : wa ρ μ fun d μ1 => fls d (E.rt (.bool false) μ1) (E.nx ρ μ1)) : wIfS (wTest wa) (wRet (wC (.bool false))) wNext E ρ μ := by
  have e : (fun (d : DV) (μ1 : Mh) => fls d (E.rt (.bool false) μ1) (E.nx ρ μ1)) = fun d μ1 => (match d with | .bool b => (fun (b : Bool) (μ1 : Mh) => (match b with | true => E.rt (.bool false) μ1 | false => E.nx ρ μ1)) b μ1 | _ => False) := by
    funext d μ1
    cases d with
    | bool b => cases b <;> rfl
    | _ => rfl
  rw [e] at h
  exact h
theorem kinds_ok : ∀ w, w < 19 → shapedD (kindsD w) = true := lt19 ⟨by decide +kernel, by decide +kernel, by decide +kernel, by decide +kernel, by decide +kernel, by decide +kernel, by decide +kernel, by decide +kernel, by decide +kernel, by decide +kernel, by decide +kernel, by decide +kernel, by decide +kernel, by decide +kernel, by decide +kernel, by decide +kernel, by decide +kernel, by decide +kernel, by decide +kernel⟩
theorem eq_kinds {w : Nat} (hw : w < 19) {μ : Mh} {P : DV → Mh → Prop} (q : P (.bool true) μ) : wEqL (kindsD w) (kindsD w) μ P := by
  have h := kinds_ok w hw
  have e := deep_refl h
  unfold kindsD at h e ⊢
  show shapedD _ = true ∧ shapedD _ = true ∧ P (.bool (deepEq _ _)) μ
  exact ⟨h, h, by rw [e]; exact q⟩
theorem th_siz {n : Nat} {ts : List DV} (h : ∀ y ∈ ts, Th n y) (hl : ts.length ≤ 20) (hn : bk n ≤ 5000) (hn2 : n ≤ 20) : Shows (.lst ts) := by
  refine ((Siz.lst (Sizs.all h)).le (N' := 20 * (bk n + 1)) (p' := n + 2) (Nat.mul_le_mul_right _ hl) (Nat.le_refl _)).shows ?_ (by omega)
  have : (20 * (bk n + 1)) ≤ 20 * 5001 := Nat.mul_le_mul_left _ (by omega)
  exact Nat.le_trans this (by decide)
theorem held_th {n w : Nat} {ts : List DV} (h : ∀ y ∈ ts, Th n y) : (∀ y ∈ heldL w ts, Th n y) ∧ (heldL w ts).length ≤ ts.length := by
  unfold heldL
  split
  · exact ⟨h, Nat.le_refl _⟩
  split
  · exact ⟨fun y hy => h y (List.mem_of_mem_take hy), by rw [List.length_take]; omega⟩
  · exact ⟨fun y hy => (by cases hy), Nat.zero_le _⟩
def wfRight : WF := fun ds μ Q => ∃ (w : Nat) (t0 t1 t2 : DV), w < 19 ∧ ds = [.int (w : Nat), .lst [t0, t1, t2]] ∧ (∀ y ∈ [t0, t1, t2], Th 3 y) ∧ ∀ μ', KpO [] μ μ' → Q (.bool true) μ'
theorem due_ok {w : Nat} {t0 t1 t2 : DV} {μ : Mh} {ρ : Rho} (h0 : ρ[0]? = some (some (.int (w : Nat)))) (h1 : ρ[1]? = some (some (.lst [t0, t1, t2]))) :
    PEv (wIf (wTest (wBin wGt (wVar 0) (wC (.int 11)))) (wLst wNil) (wSl (wVar 1) wNoPart (wPart (wBin wIx (wLst (wCons (wC (.int 1)) (wCons (wC (.int 3)) wNil))) (wB wInt1 (wCons (wBin wEqL (wVar 0) (wC (.int 0))) wNil)))))) ρ μ (.lst (heldL w [t0, t1, t2])) := by
  refine pe_if (b := decide ((11 : Int) < (w : Nat))) (pt_test (pe_bin (pe_var h0) pe_c fun P q => q)) (fun e => ?_) fun e => ?_
  · have := of_decide_eq_true e
    have ew : heldL w [t0, t1, t2] = [] := by
      unfold heldL
      rw [if_neg (by omega), if_neg (by omega)]
    rw [ew]
    exact pl pa_nil (le1 rfl)
  · have := of_decide_eq_false e
    have pi : PEv (wLst (wCons (wC (.int 1)) (wCons (wC (.int 3)) wNil))) ρ μ (.lst [.int 1, .int 3]) := pl (pa_cons pe_c (pa_cons pe_c pa_nil)) (le1 rfl)
    have pe : PEv (wBin wEqL (wVar 0) (wC (.int 0))) ρ μ (.bool (decide (((w : Nat) : Int) = 0))) := pe_bin (pe_var h0) pe_c fun P q => q
    by_cases z : w = 0
    · have ew : heldL w [t0, t1, t2] = [t0, t1, t2].take 3 := by
        unfold heldL
        rw [if_pos z]
        rfl
      rw [ew]
      have d1 : decide (((w : Nat) : Int) = 0) = true := decide_eq_true (by omega)
      rw [d1] at pe
      exact pe_takeV (n := 3) (pe_var h1) (pe_ixL pi (pe_b (pa_cons pe pa_nil) fun P q => q) (k := 1) rfl)
    · have ew : heldL w [t0, t1, t2] = [t0, t1, t2].take 1 := by
        unfold heldL
        rw [if_neg z, if_pos (by omega)]
      rw [ew]
      have d1 : decide (((w : Nat) : Int) = 0) = false := decide_eq_false (by omega)
      rw [d1] at pe
      exact pe_takeV (n := 1) (pe_var h1) (pe_ixL pi (pe_b (pa_cons pe pa_nil) fun P q => q) (k := 0) rfl)
theorem due_kinds {w : Nat} {μ : Mh} {r1 r2 r3 r4 r5 r6 r7 r8 : Option DV} :
    PEv (wLst (wCons (wLc (sRng1 (wC (.int 19))) (wgName 7) wYes (wBin wEqL (wVar 7) (wVar 0)) [7]) (wCons (wBin wMul (wLst (wCons (wC (.bool false)) wNil)) (wC (.int 7))) (wCons (wC (.bool true)) wNil)))) [some (.int (w : Nat)), r1, r2, r3, r4, r5, r6, r7, r8] μ (kindsD w) := by
  refine pl (pa_cons (x := ownD w) ?_ (pa_cons (x := othD) ?_ (pa_cons pe_c pa_nil))) (le1 rfl)
  · exact K16.lcR_pure (n := 19) (f := fun d => match d with | .int k => .bool (decide (k = (w : Int))) | _ => .none) (by decide) fun d hd => by
      obtain ⟨k, rfl, _, _⟩ := rngD_mem hd
      exact pe_bin (pe_var (y := .int k) rfl) (pe_var (y := .int (w : Nat)) rfl) fun P q => q
  · exact pe_bin (pl (pa_cons pe_c pa_nil) (le1 rfl)) pe_c fun P q => ⟨by decide, by decide, sl (le1 rfl), q⟩
section
variable {C_BadRow C_BadTable C_Failed C_InvalidCommand C_InvalidText C_KeyTaken C_NameTaken C_NoColumn C_NoCourse C_NoGoal C_NoPlan C_NoQuestion C_NoRow C_NoRun C_NoTable C_NotPlain C_NothingAsked C_Outdated C_TooGreat : Addr} {kt : KtM} {CF : Addr}
theorem p_law_right (h : KK kt (clsL C_BadRow C_BadTable C_Failed C_InvalidCommand C_InvalidText C_KeyTaken C_NameTaken C_NoColumn C_NoCourse C_NoGoal C_NoPlan C_NoQuestion C_NoRow C_NoRun C_NoTable C_NotPlain C_NothingAsked C_Outdated C_TooGreat) CF) (ds : List DV) (μ : Mh) (Q : DV → Mh → Prop) (hl : ds.length = 2) (hw : wfRight ds μ Q) :
    w_law_right CF kt (wfMade (clsL C_BadRow C_BadTable C_Failed C_InvalidCommand C_InvalidText C_KeyTaken C_NameTaken C_NoColumn C_NoCourse C_NoGoal C_NoPlan C_NoQuestion C_NoRow C_NoRun C_NoTable C_NotPlain C_NothingAsked C_Outdated C_TooGreat)) (wfOwn (clsL C_BadRow C_BadTable C_Failed C_InvalidCommand C_InvalidText C_KeyTaken C_NameTaken C_NoColumn C_NoCourse C_NoGoal C_NoPlan C_NoQuestion C_NoRow C_NoRun C_NoTable C_NotPlain C_NothingAsked C_Outdated C_TooGreat)) (wfOth (clsL C_BadRow C_BadTable C_Failed C_InvalidCommand C_InvalidText C_KeyTaken C_NameTaken C_NoColumn C_NoCourse C_NoGoal C_NoPlan C_NoQuestion C_NoRow C_NoRun C_NoTable C_NotPlain C_NothingAsked C_Outdated C_TooGreat)) wfCaught { nx := fun _ μ' => Q .none μ', rt := Q } (ds.map some ++ List.replicate 7 none) μ := by
  obtain ⟨w, t0, t1, t2, lw, rfl, ht, q⟩ := hw
  have s3 : Shows (.lst [t0, t1, t2]) := th_siz ht (le1 rfl) (by decide) (by decide)
  obtain ⟨hh, hl2⟩ := held_th (w := w) ht
  have s4 : Shows (.lst (heldL w [t0, t1, t2])) := th_siz hh (Nat.le_trans hl2 (le1 rfl)) (by decide) (by decide)
  unfold w_law_right
  refine seq_asg (pe_b (pa_cons (pe_var (y := .lst [t0, t1, t2]) rfl) pa_nil) fun P q => ⟨s3, q⟩) ?_
  refine seqg_ (call_ (ys := [.int (w : Nat), .lst [t0, t1, t2]]) (pa_cons (pe_var rfl) (pa_cons (pe_var rfl) pa_nil)) rfl ⟨w, t0, t1, t2, lw, rfl, fun p fs μ' e kp => ⟨rfl, rfl, ?_⟩⟩)
  refine seq_asg (due_ok rfl rfl) ?_
  refine no_if (pt_or (b := false) (c := false) (pt_test (pe_bin (pe_b (z := .str (shownD (.lst (heldL w [t0, t1, t2])))) (pa_cons (pe_var (y := .lst (heldL w [t0, t1, t2])) rfl) pa_nil) fun P q => ⟨s4, q⟩) (pe_b (pa_cons (pe_var (y := .lst (heldL w [t0, t1, t2])) rfl) pa_nil) fun P q => ⟨s4, q⟩) fun P q => ne_self _ _ _ q)) fun _ => pt_test (pe_bin (pe_b (z := .str (shownD (.lst [t0, t1, t2]))) (pa_cons (pe_var (y := .lst [t0, t1, t2]) rfl) pa_nil) fun P q => ⟨s3, q⟩) (pe_var (y := .str (shownD (.lst [t0, t1, t2]))) rfl) fun P q => ne_self _ _ _ q)) ?_
  refine seq_asg due_kinds ?_
  have own : PEv (wCall 1 (wfOwn (clsL C_BadRow C_BadTable C_Failed C_InvalidCommand C_InvalidText C_KeyTaken C_NameTaken C_NoColumn C_NoCourse C_NoGoal C_NoPlan C_NoQuestion C_NoRow C_NoRun C_NoTable C_NotPlain C_NothingAsked C_Outdated C_TooGreat)) (wCons (wVar 3) wNil)) [some (.int (w : Nat)), some (.lst [t0, t1, t2]), some (.str (shownD (.lst [t0, t1, t2]))), some (.obj p), some (.lst (heldL w [t0, t1, t2])), some (.lst (heldL w [t0, t1, t2])), some (kindsD w), none, none] μ' (ownD w) := pe_call (ys := [.obj p]) (pa_cons (pe_var rfl) pa_nil) rfl fun P q => ⟨p, fs, w, lw, rfl, e, q⟩
  have oth : PEv (wCall 1 (wfOth (clsL C_BadRow C_BadTable C_Failed C_InvalidCommand C_InvalidText C_KeyTaken C_NameTaken C_NoColumn C_NoCourse C_NoGoal C_NoPlan C_NoQuestion C_NoRow C_NoRun C_NoTable C_NotPlain C_NothingAsked C_Outdated C_TooGreat)) (wCons (wVar 3) wNil)) [some (.int (w : Nat)), some (.lst [t0, t1, t2]), some (.str (shownD (.lst [t0, t1, t2]))), some (.obj p), some (.lst (heldL w [t0, t1, t2])), some (.lst (heldL w [t0, t1, t2])), some (kindsD w), none, none] μ' othD := pe_call (ys := [.obj p]) (pa_cons (pe_var rfl) pa_nil) rfl fun P q => ⟨p, fs, w, lw, rfl, e, q⟩
  refine seq_asg (y := kindsD w) (pl (pa_cons own (pa_cons oth (pa_cons (pe_isO e (h.cf w lw) rfl) pa_nil))) (le1 rfl)) ?_
  have caught : ∀ ρ : Rho, ρ[0]? = some (some (.int (w : Nat))) → ρ[1]? = some (some (.lst [t0, t1, t2])) → PEv (wCall 2 wfCaught (wCons (wVar 0) (wCons (wVar 1) wNil))) ρ μ' (kindsD w) := fun ρ h0 h1 => pe_call (ys := [.int (w : Nat), .lst [t0, t1, t2]]) (pa_cons (pe_var h0) (pa_cons (pe_var h1) pa_nil)) rfl fun P q => ⟨w, t0, t1, t2, lw, rfl, q⟩
  exact ret_v (pe_and (b := true) (c := true) (pe_bin (pe_var (y := kindsD w) rfl) (pe_var (y := kindsD w) rfl) fun P q => eq_kinds lw q) fun _ => pe_bin (caught _ rfl rfl) (pe_var (y := kindsD w) rfl) fun P q => eq_kinds lw q) (q μ' kp)
end
def w_turn : WS := (wSeq (wFor (sRng1 (wC (.int 19))) (wgName 3) (wIfS (wNotT (wTest (wCall 2 wfRight (wCons (wVar 3) (wCons (wLc (sRng1 (wC (.int 3))) (wgName 5) wYes (wCall 2 (wfThing 3) (wCons (wVar 1) (wCons (wC (.int 3)) wNil))) [5]) wNil))))) (wRet (wC (.bool false))) wNext))
    (wSeq (wAsg (wLc (sRng1 (wC (.int 3))) (wgName 5) wYes (wCall 2 (wfThing 3) (wCons (wVar 1) (wCons (wC (.int 3)) wNil))) [5]) (wgName 4))
    (wIfS (wTest (wBin wNeL (wB wRepr (wCons (wCall 1 wfByName (wCons (wVar 4) wNil)) wNil)) (wB wRepr (wCons (wBin wAdd (wVar 4) (wBin wMul (wLst (wCons (wBin wIx (wVar 4) (wC (.int 0))) wNil)) (wC (.int 11)))) wNil)))) (wRet (wC (.bool false))) wNext)))
theorem three_c {a c : Addr} {m : Nat} {r0 r2 r3 r4 r5 : Option DV} {μ : Mh} {P : DV → Mh → Prop} (hd : Qz.Dk μ a c (m + 3 * cost 3)) (k : ∀ t0 t1 t2 μ', (∀ y ∈ [t0, t1, t2], Th 3 y) → Qz.Dk μ' a c m → P (.lst [t0, t1, t2]) μ') :
    wLc (sRng1 (wC (.int 3))) (wgName 5) wYes (wCall 2 (wfThing 3) (wCons (wVar 1) (wCons (wC (.int 3)) wNil))) [5] [r0, some (.obj a), r2, r3, r4, r5] μ P := by
  refine lc_rng (n := 3) (by decide) ?_
  refine things_c (m := m) (n := 3) (a := a) (c := c) (by decide) (fun _ _ _ h => h) (fun x μ => pa_cons (pe_var rfl) (pa_cons pe_c pa_nil)) hd fun zs μ' hz hl d' _ => ?_
  match zs, hl with
  | [t0, t1, t2], _ => exact k t0 t1 t2 μ' hz d'
theorem turn_ok {a c : Addr} {m : Nat} {E : DEnds} {r0 r2 r3 r4 r5 : Option DV} {μ : Mh} (hd : Qz.Dk μ a c (m + 20 * (3 * cost 3))) (k : ∀ z3 z4 z5 μ', Qz.Dk μ' a c m → E.nx [r0, some (.obj a), r2, z3, z4, z5] μ') : w_turn E [r0, some (.obj a), r2, r3, r4, r5] μ := by
  unfold w_turn
  refine seq_forR (n := 19) (by decide) ?_
  refine for_rule (I := fun j ρ μ' => (∃ z3, ρ = [r0, some (.obj a), r2, z3, r4, r5]) ∧ Qz.Dk μ' a c (m + 3 * cost 3 + j * (3 * cost 3))) (n := 0) _ _ _ (fun x hx j ρ μ2 F hi hrt _ hnx _ => ?_) ⟨⟨_, rfl⟩, hd.le (by rw [rngD_len]; omega)⟩ (fun ρ μ2 hi => ?_)
  · obtain ⟨⟨z3, rfl⟩, d2⟩ := hi
    obtain ⟨i, rfl, i0, i1⟩ := rngD_mem hx
    obtain ⟨w, rfl⟩ := Int.eq_ofNat_of_zero_le i0
    refine nameJ_ ?_
    refine ifs_not_ (callI_ (cons_v (pe_var (y := .int (w : Nat)) rfl) (cons_ (three_c (m := m + 3 * cost 3 + j * (3 * cost 3)) (d2.le (by rw [show (j + 1) * (3 * cost 3) = j * (3 * cost 3) + 3 * cost 3 from Nat.succ_mul j (3 * cost 3)]; omega)) fun t0 t1 t2 μ3 ht d3 => ⟨rfl, w, t0, t1, t2, by omega, rfl, ht, fun μ4 k4 => ?_⟩))))
    exact tru_ok (hnx _ _ ⟨⟨some (.int (w : Nat)), rfl⟩, dk_kp d3 k4⟩)
  · obtain ⟨⟨z3, rfl⟩, d2⟩ := hi
    refine seq_ (three_c (m := m) (d2.le (by omega)) fun t0 t1 t2 μ3 ht d3 => ?_)
    have hb : ∀ y ∈ [t0, t1, t2] ++ List.replicate 11 t0, Th 3 y := fun y hy => by
      rcases List.mem_append.mp hy with hy | hy
      · exact ht y hy
      · rw [List.eq_of_mem_replicate hy]
        exact ht t0 List.mem_cons_self
    have sb : Shows (.lst ([t0, t1, t2] ++ List.replicate 11 t0)) := th_siz hb (le1 rfl) (by decide) (by decide)
    refine ifs_ne_ (bin_ (K20.repr_ (call_ (ys := [.lst [t0, t1, t2]]) (pa_cons (pe_var rfl) pa_nil) rfl ⟨t0, t1, t2, rfl, fun μ4 k4 => ⟨sb, ?_⟩⟩)))
    refine pe_b (z := .str (shownD (.lst ([t0, t1, t2] ++ List.replicate 11 t0)))) (pa_cons (pe_catL (pe_var (y := .lst [t0, t1, t2]) rfl) (pe_bin (z := .lst (List.replicate 11 t0)) (pl (pa_cons (pe_ixL (ds := [t0, t1, t2]) (pe_var rfl) (pe_c (y := .int 0)) (y := t0) rfl) pa_nil) (le1 rfl)) pe_c fun P q => ⟨by decide, by decide, sl (le1 rfl), q⟩) (sl (le1 rfl))) pa_nil) (fun P q => ⟨sb, q⟩) _ (ne_self _ _ _ ?_)
    exact fls_ok (k _ _ _ _ (dk_kp d3 k4))
def wfLaw : WF := fun ds μ Q => ∃ ns : List Int, ds = [.fix (ns.map .int)] ∧ ∀ μ', Q (.bool true) μ'
theorem p_law (ds : List DV) (μ : Mh) (Q : DV → Mh → Prop) (hl : ds.length = 1) (h : wfLaw ds μ Q) :
    w_law_main (wfDeck "total") (wfThing 3) wfRight wfByName { nx := fun _ μ' => Q .none μ', rt := Q } (ds.map some ++ List.replicate 5 none) μ := by
  obtain ⟨ns, rfl, k⟩ := h
  unfold w_law_main
  let scr : DV := .fix (ns.map .int)
  refine seq_ (call_ (ys := [scr]) (pa_cons (pe_var rfl) pa_nil) rfl ⟨ns, rfl, fun a c μ1 ha hc hd ho => ?_⟩)
  refine seq_forR (n := 3) (by decide) ?_
  refine for_rule (I := fun j ρ μ' => (∃ z2 z3 z4 z5, ρ = [some scr, some (.obj a), z2, z3, z4, z5]) ∧ Qz.Dk μ' a c (j * (20 * (3 * cost 3)))) (n := 0) _ _ _ (fun x hx j ρ μ2 F hi hrt _ hnx _ => ?_) ⟨⟨_, _, _, _, rfl⟩, hd.le (by rw [rngD_len]; decide)⟩ (fun ρ μ' hi => ?_)
  · obtain ⟨⟨z2, z3, z4, z5, rfl⟩, dk⟩ := hi
    rw [Nat.succ_mul] at dk
    refine nameJ_ ?_
    show w_turn F [some scr, some (.obj a), some x, z3, z4, z5] μ2
    exact turn_ok dk fun y3 y4 y5 μ' d' => hnx _ _ ⟨⟨some x, y3, y4, y5, rfl⟩, d'⟩
  · exact k μ'
end K01
set_option Elab.async false
set_option linter.all false
set_option maxRecDepth 100000
set_option maxHeartbeats 1000000
namespace K01
open PySem L2 Dz
def pmL : List Nat := [0, 1, 2, 3, 4, 5, 6, 7, 10, 12, 13, 14, 8, 9, 11, 15, 16, 17, 18]
theorem pm_lt : ∀ w, w < 19 → pmL.getD w 0 < 19 := by decide +kernel
theorem pm_eq : ∀ w, w < 19 → ∀ j, j < 19 → (pmL.getD w 0 == pmL.getD j 0) = decide ((j : Int) = (w : Int)) := by decide +kernel
section
variable {K : PySem.W.Frag} {mg : Str → Option Value} {base : Heap} {C_BadRow C_BadTable C_Failed C_FailsError C_InvalidCommand C_InvalidText C_KeyTaken C_NameTaken C_NoColumn C_NoCourse C_NoGoal C_NoPlan C_NoQuestion C_NoRow C_NoRun C_NoTable C_NotPlain C_NothingAsked C_Outdated C_TooGreat : Addr}
theorem kk_of (T : Tops K mg base C_BadRow C_BadTable C_Failed C_FailsError C_InvalidCommand C_InvalidText C_KeyTaken C_NameTaken C_NoColumn C_NoCourse C_NoGoal C_NoPlan C_NoQuestion C_NoRow C_NoRun C_NoTable C_NotPlain C_NothingAsked C_Outdated C_TooGreat) : KK (isOf K) (clsL C_BadRow C_BadTable C_Failed C_InvalidCommand C_InvalidText C_KeyTaken C_NameTaken C_NoColumn C_NoCourse C_NoGoal C_NoPlan C_NoQuestion C_NoRow C_NoRun C_NoTable C_NotPlain C_NothingAsked C_Outdated C_TooGreat) C_FailsError := by
  have R : ∀ i, i < 19 → _ := fun i hi => kiB_is T.xc T.ki (i := i) hi
  have e : ∀ w, w < 19 → (clsL C_BadRow C_BadTable C_Failed C_InvalidCommand C_InvalidText C_KeyTaken C_NameTaken C_NoColumn C_NoCourse C_NoGoal C_NoPlan C_NoQuestion C_NoRow C_NoRun C_NoTable C_NotPlain C_NothingAsked C_Outdated C_TooGreat).getD w 0 = ([C_Failed, C_NameTaken, C_BadTable, C_NoTable, C_NoColumn, C_BadRow, C_KeyTaken, C_NoRow, C_NoQuestion, C_NotPlain, C_TooGreat, C_NoPlan, C_Outdated, C_NoGoal, C_NoCourse, C_InvalidText, C_InvalidCommand, C_NothingAsked, C_NoRun] : List Addr).getD (pmL.getD w 0) 0 := lt19 ⟨rfl, rfl, rfl, rfl, rfl, rfl, rfl, rfl, rfl, rfl, rfl, rfl, rfl, rfl, rfl, rfl, rfl, rfl, rfl⟩
  refine ⟨fun w hw j hj => ?_, fun w hw => ?_, fun w hw t ht => ?_, fun w hw => ?_⟩
  · rw [e w hw, e j hj, (R _ (pm_lt w hw)).1 _ (pm_lt j hj), pm_eq w hw j hj]
  · rw [e w hw]
    exact (R _ (pm_lt w hw)).2.1
  · rw [e w hw]
    refine (R _ (pm_lt w hw)).2.2 (t, false) ?_
    simp only [List.mem_cons, List.not_mem_nil, or_false] at ht
    rcases ht with rfl | rfl | rfl | rfl | rfl | rfl | rfl <;> simp
  · rw [e w hw]
    exact (R _ (pm_lt w hw)).2.2 ("Exception", true) (by simp)
theorem mtk_of (T : Tops K mg base C_BadRow C_BadTable C_Failed C_FailsError C_InvalidCommand C_InvalidText C_KeyTaken C_NameTaken C_NoColumn C_NoCourse C_NoGoal C_NoPlan C_NoQuestion C_NoRow C_NoRun C_NoTable C_NotPlain C_NothingAsked C_Outdated C_TooGreat) : ∀ w, w < 19 → mtOf K ((clsL C_BadRow C_BadTable C_Failed C_InvalidCommand C_InvalidText C_KeyTaken C_NameTaken C_NoColumn C_NoCourse C_NoGoal C_NoPlan C_NoQuestion C_NoRow C_NoRun C_NoTable C_NotPlain C_NothingAsked C_Outdated C_TooGreat).getD w 0) C_FailsError = some true := lt19 ⟨T.mt_Failed_FailsError, T.mt_NameTaken_FailsError, T.mt_BadTable_FailsError, T.mt_NoTable_FailsError, T.mt_NoColumn_FailsError, T.mt_BadRow_FailsError, T.mt_KeyTaken_FailsError, T.mt_NoRow_FailsError, T.mt_TooGreat_FailsError, T.mt_Outdated_FailsError, T.mt_NoGoal_FailsError, T.mt_NoCourse_FailsError, T.mt_NoQuestion_FailsError, T.mt_NotPlain_FailsError, T.mt_NoPlan_FailsError, T.mt_InvalidText_FailsError, T.mt_InvalidCommand_FailsError, T.mt_NothingAsked_FailsError, T.mt_NoRun_FailsError⟩
theorem fok_of (T : Tops K mg base C_BadRow C_BadTable C_Failed C_FailsError C_InvalidCommand C_InvalidText C_KeyTaken C_NameTaken C_NoColumn C_NoCourse C_NoGoal C_NoPlan C_NoQuestion C_NoRow C_NoRun C_NoTable C_NotPlain C_NothingAsked C_Outdated C_TooGreat) : FoAll (fldOf K) (foL C_BadRow C_BadTable C_Failed C_InvalidCommand C_InvalidText C_KeyTaken C_NameTaken C_NoColumn C_NoCourse C_NoGoal C_NoPlan C_NoQuestion C_NoRow C_NoRun C_NoTable C_NotPlain C_NothingAsked C_Outdated C_TooGreat) := foAll_of fun z hz => foB_is (List.all_eq_true.mp T.fo z hz)
end
end K01
set_option Elab.async false
set_option linter.all false
set_option maxRecDepth 100000
set_option maxHeartbeats 1000000
namespace K01
open PySem L2 Dz TL St
section
variable {P : Program} {w0 : World} {K : PySem.W.Frag} {mg : Str → Option Value} {base : Heap} {C_BadRow : Addr} {C_BadTable : Addr} {C_Failed : Addr} {C_FailsError : Addr} {C_InvalidCommand : Addr} {C_InvalidText : Addr} {C_KeyTaken : Addr} {C_NameTaken : Addr} {C_NoColumn : Addr} {C_NoCourse : Addr} {C_NoGoal : Addr} {C_NoPlan : Addr} {C_NoQuestion : Addr} {C_NoRow : Addr} {C_NoRun : Addr} {C_NoTable : Addr} {C_NotPlain : Addr} {C_NothingAsked : Addr} {C_Outdated : Addr} {C_TooGreat : Addr}
theorem D_Failed_init (T : Tops K mg base C_BadRow C_BadTable C_Failed C_FailsError C_InvalidCommand C_InvalidText C_KeyTaken C_NameTaken C_NoColumn C_NoCourse C_NoGoal C_NoPlan C_NoQuestion C_NoRow C_NoRun C_NoTable C_NotPlain C_NothingAsked C_Outdated C_TooGreat) : DefE P w0 K mg base 1 "Failed" C_Failed ["word", "place", "numbers"] := by
  obtain ⟨fI, fd, a, b, c, d1, d2, d3, F⟩ := T.ex_Failed
  exact defE3 a b c T.mg_Failed d1 d2 d3 F (sc_Failed_init (γ := Gd.non)) T.bi_FailsError T.mg_FailsError rfl (.inl rfl) (.inl rfl) (.inl rfl) (.inl rfl) rfl rfl rfl rfl rfl rfl (fun _ _ _ _ _ _ us hl => match us, hl with | [_, _, _, _], _ => rfl) rfl (fun env => ⟨_, rfl⟩) (fun env => rfl)
theorem D_K_Failed_init (T : Tops K mg base C_BadRow C_BadTable C_Failed C_FailsError C_InvalidCommand C_InvalidText C_KeyTaken C_NameTaken C_NoColumn C_NoCourse C_NoGoal C_NoPlan C_NoQuestion C_NoRow C_NoRun C_NoTable C_NotPlain C_NothingAsked C_Outdated C_TooGreat) : DefEK P w0 K mg base 1 "Failed" C_Failed ["word", "place", "numbers"] ["numbers", "word", "place"] [1, 2, 0] := by
  obtain ⟨fI, fd, a, b, c, d0, d1, d2, F⟩ := T.ex_Failed
  exact defEK_of a b c T.mg_Failed F (fnE3 (x := "Failed") (k := 0) a b c T.mg_Failed d0 d1 d2 F (sc_Failed_init (γ := Gd.non)) T.bi_FailsError T.mg_FailsError rfl (.inl rfl) (.inl rfl) (.inl rfl) (.inl rfl) rfl rfl rfl rfl rfl rfl (fun _ _ _ _ _ _ us hl => match us, hl with | [_, _, _, _], _ => rfl) rfl (fun env => ⟨_, rfl⟩) (fun env => rfl)) (fun kV doc pm an cdv ct u ws l => match ws, l with | [_, _, _], _ => rfl)
theorem D_NameTaken_init (T : Tops K mg base C_BadRow C_BadTable C_Failed C_FailsError C_InvalidCommand C_InvalidText C_KeyTaken C_NameTaken C_NoColumn C_NoCourse C_NoGoal C_NoPlan C_NoQuestion C_NoRow C_NoRun C_NoTable C_NotPlain C_NothingAsked C_Outdated C_TooGreat) : DefE P w0 K mg base 1 "NameTaken" C_NameTaken ["name"] := by
  obtain ⟨fI, fd, a, b, c, d, F⟩ := T.ex_NameTaken
  exact defE1 a b c T.mg_NameTaken d F (sc_NameTaken_init (γ := Gd.non)) T.bi_FailsError T.mg_FailsError rfl (.inl rfl) (.inl rfl) rfl rfl (fun _ _ _ _ _ _ us hl => match us, hl with | [_, _], _ => rfl) rfl (fun env => ⟨_, rfl⟩) (fun env => rfl)
theorem D_K_NameTaken_init (T : Tops K mg base C_BadRow C_BadTable C_Failed C_FailsError C_InvalidCommand C_InvalidText C_KeyTaken C_NameTaken C_NoColumn C_NoCourse C_NoGoal C_NoPlan C_NoQuestion C_NoRow C_NoRun C_NoTable C_NotPlain C_NothingAsked C_Outdated C_TooGreat) : DefEK P w0 K mg base 1 "NameTaken" C_NameTaken ["name"] ["name"] [0] := by
  obtain ⟨fI, fd, a, b, c, d0, F⟩ := T.ex_NameTaken
  exact defEK_of a b c T.mg_NameTaken F (fnE1 (x := "NameTaken") (k := 0) a b c T.mg_NameTaken d0 F (sc_NameTaken_init (γ := Gd.non)) T.bi_FailsError T.mg_FailsError rfl (.inl rfl) (.inl rfl) rfl rfl (fun _ _ _ _ _ _ us hl => match us, hl with | [_, _], _ => rfl) rfl (fun env => ⟨_, rfl⟩) (fun env => rfl)) (fun kV doc pm an cdv ct u ws l => match ws, l with | [_], _ => rfl)
theorem D_BadTable_init (T : Tops K mg base C_BadRow C_BadTable C_Failed C_FailsError C_InvalidCommand C_InvalidText C_KeyTaken C_NameTaken C_NoColumn C_NoCourse C_NoGoal C_NoPlan C_NoQuestion C_NoRow C_NoRun C_NoTable C_NotPlain C_NothingAsked C_Outdated C_TooGreat) : DefE P w0 K mg base 1 "BadTable" C_BadTable ["part"] := by
  obtain ⟨fI, fd, a, b, c, d, F⟩ := T.ex_BadTable
  exact defE1 a b c T.mg_BadTable d F (sc_BadTable_init (γ := Gd.non)) T.bi_FailsError T.mg_FailsError rfl (.inl rfl) (.inl rfl) rfl rfl (fun _ _ _ _ _ _ us hl => match us, hl with | [_, _], _ => rfl) rfl (fun env => ⟨_, rfl⟩) (fun env => rfl)
theorem D_K_BadTable_init (T : Tops K mg base C_BadRow C_BadTable C_Failed C_FailsError C_InvalidCommand C_InvalidText C_KeyTaken C_NameTaken C_NoColumn C_NoCourse C_NoGoal C_NoPlan C_NoQuestion C_NoRow C_NoRun C_NoTable C_NotPlain C_NothingAsked C_Outdated C_TooGreat) : DefEK P w0 K mg base 1 "BadTable" C_BadTable ["part"] ["part"] [0] := by
  obtain ⟨fI, fd, a, b, c, d0, F⟩ := T.ex_BadTable
  exact defEK_of a b c T.mg_BadTable F (fnE1 (x := "BadTable") (k := 0) a b c T.mg_BadTable d0 F (sc_BadTable_init (γ := Gd.non)) T.bi_FailsError T.mg_FailsError rfl (.inl rfl) (.inl rfl) rfl rfl (fun _ _ _ _ _ _ us hl => match us, hl with | [_, _], _ => rfl) rfl (fun env => ⟨_, rfl⟩) (fun env => rfl)) (fun kV doc pm an cdv ct u ws l => match ws, l with | [_], _ => rfl)
theorem D_NoTable_init (T : Tops K mg base C_BadRow C_BadTable C_Failed C_FailsError C_InvalidCommand C_InvalidText C_KeyTaken C_NameTaken C_NoColumn C_NoCourse C_NoGoal C_NoPlan C_NoQuestion C_NoRow C_NoRun C_NoTable C_NotPlain C_NothingAsked C_Outdated C_TooGreat) : DefE P w0 K mg base 1 "NoTable" C_NoTable ["name"] := by
  obtain ⟨fI, fd, a, b, c, d, F⟩ := T.ex_NoTable
  exact defE1 a b c T.mg_NoTable d F (sc_NoTable_init (γ := Gd.non)) T.bi_FailsError T.mg_FailsError rfl (.inl rfl) (.inl rfl) rfl rfl (fun _ _ _ _ _ _ us hl => match us, hl with | [_, _], _ => rfl) rfl (fun env => ⟨_, rfl⟩) (fun env => rfl)
theorem D_K_NoTable_init (T : Tops K mg base C_BadRow C_BadTable C_Failed C_FailsError C_InvalidCommand C_InvalidText C_KeyTaken C_NameTaken C_NoColumn C_NoCourse C_NoGoal C_NoPlan C_NoQuestion C_NoRow C_NoRun C_NoTable C_NotPlain C_NothingAsked C_Outdated C_TooGreat) : DefEK P w0 K mg base 1 "NoTable" C_NoTable ["name"] ["name"] [0] := by
  obtain ⟨fI, fd, a, b, c, d0, F⟩ := T.ex_NoTable
  exact defEK_of a b c T.mg_NoTable F (fnE1 (x := "NoTable") (k := 0) a b c T.mg_NoTable d0 F (sc_NoTable_init (γ := Gd.non)) T.bi_FailsError T.mg_FailsError rfl (.inl rfl) (.inl rfl) rfl rfl (fun _ _ _ _ _ _ us hl => match us, hl with | [_, _], _ => rfl) rfl (fun env => ⟨_, rfl⟩) (fun env => rfl)) (fun kV doc pm an cdv ct u ws l => match ws, l with | [_], _ => rfl)
theorem D_NoColumn_init (T : Tops K mg base C_BadRow C_BadTable C_Failed C_FailsError C_InvalidCommand C_InvalidText C_KeyTaken C_NameTaken C_NoColumn C_NoCourse C_NoGoal C_NoPlan C_NoQuestion C_NoRow C_NoRun C_NoTable C_NotPlain C_NothingAsked C_Outdated C_TooGreat) : DefE P w0 K mg base 1 "NoColumn" C_NoColumn ["name"] := by
  obtain ⟨fI, fd, a, b, c, d, F⟩ := T.ex_NoColumn
  exact defE1 a b c T.mg_NoColumn d F (sc_NoColumn_init (γ := Gd.non)) T.bi_FailsError T.mg_FailsError rfl (.inl rfl) (.inl rfl) rfl rfl (fun _ _ _ _ _ _ us hl => match us, hl with | [_, _], _ => rfl) rfl (fun env => ⟨_, rfl⟩) (fun env => rfl)
theorem D_K_NoColumn_init (T : Tops K mg base C_BadRow C_BadTable C_Failed C_FailsError C_InvalidCommand C_InvalidText C_KeyTaken C_NameTaken C_NoColumn C_NoCourse C_NoGoal C_NoPlan C_NoQuestion C_NoRow C_NoRun C_NoTable C_NotPlain C_NothingAsked C_Outdated C_TooGreat) : DefEK P w0 K mg base 1 "NoColumn" C_NoColumn ["name"] ["name"] [0] := by
  obtain ⟨fI, fd, a, b, c, d0, F⟩ := T.ex_NoColumn
  exact defEK_of a b c T.mg_NoColumn F (fnE1 (x := "NoColumn") (k := 0) a b c T.mg_NoColumn d0 F (sc_NoColumn_init (γ := Gd.non)) T.bi_FailsError T.mg_FailsError rfl (.inl rfl) (.inl rfl) rfl rfl (fun _ _ _ _ _ _ us hl => match us, hl with | [_, _], _ => rfl) rfl (fun env => ⟨_, rfl⟩) (fun env => rfl)) (fun kV doc pm an cdv ct u ws l => match ws, l with | [_], _ => rfl)
theorem D_BadRow_init (T : Tops K mg base C_BadRow C_BadTable C_Failed C_FailsError C_InvalidCommand C_InvalidText C_KeyTaken C_NameTaken C_NoColumn C_NoCourse C_NoGoal C_NoPlan C_NoQuestion C_NoRow C_NoRun C_NoTable C_NotPlain C_NothingAsked C_Outdated C_TooGreat) : DefE P w0 K mg base 1 "BadRow" C_BadRow ["column"] := by
  obtain ⟨fI, fd, a, b, c, d, F⟩ := T.ex_BadRow
  exact defE1 a b c T.mg_BadRow d F (sc_BadRow_init (γ := Gd.non)) T.bi_FailsError T.mg_FailsError rfl (.inl rfl) (.inl rfl) rfl rfl (fun _ _ _ _ _ _ us hl => match us, hl with | [_, _], _ => rfl) rfl (fun env => ⟨_, rfl⟩) (fun env => rfl)
theorem D_K_BadRow_init (T : Tops K mg base C_BadRow C_BadTable C_Failed C_FailsError C_InvalidCommand C_InvalidText C_KeyTaken C_NameTaken C_NoColumn C_NoCourse C_NoGoal C_NoPlan C_NoQuestion C_NoRow C_NoRun C_NoTable C_NotPlain C_NothingAsked C_Outdated C_TooGreat) : DefEK P w0 K mg base 1 "BadRow" C_BadRow ["column"] ["column"] [0] := by
  obtain ⟨fI, fd, a, b, c, d0, F⟩ := T.ex_BadRow
  exact defEK_of a b c T.mg_BadRow F (fnE1 (x := "BadRow") (k := 0) a b c T.mg_BadRow d0 F (sc_BadRow_init (γ := Gd.non)) T.bi_FailsError T.mg_FailsError rfl (.inl rfl) (.inl rfl) rfl rfl (fun _ _ _ _ _ _ us hl => match us, hl with | [_, _], _ => rfl) rfl (fun env => ⟨_, rfl⟩) (fun env => rfl)) (fun kV doc pm an cdv ct u ws l => match ws, l with | [_], _ => rfl)
theorem D_KeyTaken_init (T : Tops K mg base C_BadRow C_BadTable C_Failed C_FailsError C_InvalidCommand C_InvalidText C_KeyTaken C_NameTaken C_NoColumn C_NoCourse C_NoGoal C_NoPlan C_NoQuestion C_NoRow C_NoRun C_NoTable C_NotPlain C_NothingAsked C_Outdated C_TooGreat) : DefE P w0 K mg base 1 "KeyTaken" C_KeyTaken ["column"] := by
  obtain ⟨fI, fd, a, b, c, d, F⟩ := T.ex_KeyTaken
  exact defE1 a b c T.mg_KeyTaken d F (sc_KeyTaken_init (γ := Gd.non)) T.bi_FailsError T.mg_FailsError rfl (.inl rfl) (.inl rfl) rfl rfl (fun _ _ _ _ _ _ us hl => match us, hl with | [_, _], _ => rfl) rfl (fun env => ⟨_, rfl⟩) (fun env => rfl)
theorem D_K_KeyTaken_init (T : Tops K mg base C_BadRow C_BadTable C_Failed C_FailsError C_InvalidCommand C_InvalidText C_KeyTaken C_NameTaken C_NoColumn C_NoCourse C_NoGoal C_NoPlan C_NoQuestion C_NoRow C_NoRun C_NoTable C_NotPlain C_NothingAsked C_Outdated C_TooGreat) : DefEK P w0 K mg base 1 "KeyTaken" C_KeyTaken ["column"] ["column"] [0] := by
  obtain ⟨fI, fd, a, b, c, d0, F⟩ := T.ex_KeyTaken
  exact defEK_of a b c T.mg_KeyTaken F (fnE1 (x := "KeyTaken") (k := 0) a b c T.mg_KeyTaken d0 F (sc_KeyTaken_init (γ := Gd.non)) T.bi_FailsError T.mg_FailsError rfl (.inl rfl) (.inl rfl) rfl rfl (fun _ _ _ _ _ _ us hl => match us, hl with | [_, _], _ => rfl) rfl (fun env => ⟨_, rfl⟩) (fun env => rfl)) (fun kV doc pm an cdv ct u ws l => match ws, l with | [_], _ => rfl)
theorem D_NoRow_init (T : Tops K mg base C_BadRow C_BadTable C_Failed C_FailsError C_InvalidCommand C_InvalidText C_KeyTaken C_NameTaken C_NoColumn C_NoCourse C_NoGoal C_NoPlan C_NoQuestion C_NoRow C_NoRun C_NoTable C_NotPlain C_NothingAsked C_Outdated C_TooGreat) : DefE P w0 K mg base 1 "NoRow" C_NoRow ["number"] := by
  obtain ⟨fI, fd, a, b, c, d, F⟩ := T.ex_NoRow
  exact defE1 a b c T.mg_NoRow d F (sc_NoRow_init (γ := Gd.non)) T.bi_FailsError T.mg_FailsError rfl (.inl rfl) (.inl rfl) rfl rfl (fun _ _ _ _ _ _ us hl => match us, hl with | [_, _], _ => rfl) rfl (fun env => ⟨_, rfl⟩) (fun env => rfl)
theorem D_K_NoRow_init (T : Tops K mg base C_BadRow C_BadTable C_Failed C_FailsError C_InvalidCommand C_InvalidText C_KeyTaken C_NameTaken C_NoColumn C_NoCourse C_NoGoal C_NoPlan C_NoQuestion C_NoRow C_NoRun C_NoTable C_NotPlain C_NothingAsked C_Outdated C_TooGreat) : DefEK P w0 K mg base 1 "NoRow" C_NoRow ["number"] ["number"] [0] := by
  obtain ⟨fI, fd, a, b, c, d0, F⟩ := T.ex_NoRow
  exact defEK_of a b c T.mg_NoRow F (fnE1 (x := "NoRow") (k := 0) a b c T.mg_NoRow d0 F (sc_NoRow_init (γ := Gd.non)) T.bi_FailsError T.mg_FailsError rfl (.inl rfl) (.inl rfl) rfl rfl (fun _ _ _ _ _ _ us hl => match us, hl with | [_, _], _ => rfl) rfl (fun env => ⟨_, rfl⟩) (fun env => rfl)) (fun kV doc pm an cdv ct u ws l => match ws, l with | [_], _ => rfl)
theorem D_TooGreat_init (T : Tops K mg base C_BadRow C_BadTable C_Failed C_FailsError C_InvalidCommand C_InvalidText C_KeyTaken C_NameTaken C_NoColumn C_NoCourse C_NoGoal C_NoPlan C_NoQuestion C_NoRow C_NoRun C_NoTable C_NotPlain C_NothingAsked C_Outdated C_TooGreat) : DefE P w0 K mg base 1 "TooGreat" C_TooGreat ["limit"] := by
  obtain ⟨fI, fd, a, b, c, d, F⟩ := T.ex_TooGreat
  exact defE1 a b c T.mg_TooGreat d F (sc_TooGreat_init (γ := Gd.non)) T.bi_FailsError T.mg_FailsError rfl (.inl rfl) (.inl rfl) rfl rfl (fun _ _ _ _ _ _ us hl => match us, hl with | [_, _], _ => rfl) rfl (fun env => ⟨_, rfl⟩) (fun env => rfl)
theorem D_K_TooGreat_init (T : Tops K mg base C_BadRow C_BadTable C_Failed C_FailsError C_InvalidCommand C_InvalidText C_KeyTaken C_NameTaken C_NoColumn C_NoCourse C_NoGoal C_NoPlan C_NoQuestion C_NoRow C_NoRun C_NoTable C_NotPlain C_NothingAsked C_Outdated C_TooGreat) : DefEK P w0 K mg base 1 "TooGreat" C_TooGreat ["limit"] ["limit"] [0] := by
  obtain ⟨fI, fd, a, b, c, d0, F⟩ := T.ex_TooGreat
  exact defEK_of a b c T.mg_TooGreat F (fnE1 (x := "TooGreat") (k := 0) a b c T.mg_TooGreat d0 F (sc_TooGreat_init (γ := Gd.non)) T.bi_FailsError T.mg_FailsError rfl (.inl rfl) (.inl rfl) rfl rfl (fun _ _ _ _ _ _ us hl => match us, hl with | [_, _], _ => rfl) rfl (fun env => ⟨_, rfl⟩) (fun env => rfl)) (fun kV doc pm an cdv ct u ws l => match ws, l with | [_], _ => rfl)
theorem D_Outdated_init (T : Tops K mg base C_BadRow C_BadTable C_Failed C_FailsError C_InvalidCommand C_InvalidText C_KeyTaken C_NameTaken C_NoColumn C_NoCourse C_NoGoal C_NoPlan C_NoQuestion C_NoRow C_NoRun C_NoTable C_NotPlain C_NothingAsked C_Outdated C_TooGreat) : DefE P w0 K mg base 1 "Outdated" C_Outdated ["fact"] := by
  obtain ⟨fI, fd, a, b, c, d, F⟩ := T.ex_Outdated
  exact defE1 a b c T.mg_Outdated d F (sc_Outdated_init (γ := Gd.non)) T.bi_FailsError T.mg_FailsError rfl (.inl rfl) (.inl rfl) rfl rfl (fun _ _ _ _ _ _ us hl => match us, hl with | [_, _], _ => rfl) rfl (fun env => ⟨_, rfl⟩) (fun env => rfl)
theorem D_K_Outdated_init (T : Tops K mg base C_BadRow C_BadTable C_Failed C_FailsError C_InvalidCommand C_InvalidText C_KeyTaken C_NameTaken C_NoColumn C_NoCourse C_NoGoal C_NoPlan C_NoQuestion C_NoRow C_NoRun C_NoTable C_NotPlain C_NothingAsked C_Outdated C_TooGreat) : DefEK P w0 K mg base 1 "Outdated" C_Outdated ["fact"] ["fact"] [0] := by
  obtain ⟨fI, fd, a, b, c, d0, F⟩ := T.ex_Outdated
  exact defEK_of a b c T.mg_Outdated F (fnE1 (x := "Outdated") (k := 0) a b c T.mg_Outdated d0 F (sc_Outdated_init (γ := Gd.non)) T.bi_FailsError T.mg_FailsError rfl (.inl rfl) (.inl rfl) rfl rfl (fun _ _ _ _ _ _ us hl => match us, hl with | [_, _], _ => rfl) rfl (fun env => ⟨_, rfl⟩) (fun env => rfl)) (fun kV doc pm an cdv ct u ws l => match ws, l with | [_], _ => rfl)
theorem D_NoGoal_init (T : Tops K mg base C_BadRow C_BadTable C_Failed C_FailsError C_InvalidCommand C_InvalidText C_KeyTaken C_NameTaken C_NoColumn C_NoCourse C_NoGoal C_NoPlan C_NoQuestion C_NoRow C_NoRun C_NoTable C_NotPlain C_NothingAsked C_Outdated C_TooGreat) : DefE P w0 K mg base 1 "NoGoal" C_NoGoal ["number"] := by
  obtain ⟨fI, fd, a, b, c, d, F⟩ := T.ex_NoGoal
  exact defE1 a b c T.mg_NoGoal d F (sc_NoGoal_init (γ := Gd.non)) T.bi_FailsError T.mg_FailsError rfl (.inl rfl) (.inl rfl) rfl rfl (fun _ _ _ _ _ _ us hl => match us, hl with | [_, _], _ => rfl) rfl (fun env => ⟨_, rfl⟩) (fun env => rfl)
theorem D_K_NoGoal_init (T : Tops K mg base C_BadRow C_BadTable C_Failed C_FailsError C_InvalidCommand C_InvalidText C_KeyTaken C_NameTaken C_NoColumn C_NoCourse C_NoGoal C_NoPlan C_NoQuestion C_NoRow C_NoRun C_NoTable C_NotPlain C_NothingAsked C_Outdated C_TooGreat) : DefEK P w0 K mg base 1 "NoGoal" C_NoGoal ["number"] ["number"] [0] := by
  obtain ⟨fI, fd, a, b, c, d0, F⟩ := T.ex_NoGoal
  exact defEK_of a b c T.mg_NoGoal F (fnE1 (x := "NoGoal") (k := 0) a b c T.mg_NoGoal d0 F (sc_NoGoal_init (γ := Gd.non)) T.bi_FailsError T.mg_FailsError rfl (.inl rfl) (.inl rfl) rfl rfl (fun _ _ _ _ _ _ us hl => match us, hl with | [_, _], _ => rfl) rfl (fun env => ⟨_, rfl⟩) (fun env => rfl)) (fun kV doc pm an cdv ct u ws l => match ws, l with | [_], _ => rfl)
theorem D_NoCourse_init (T : Tops K mg base C_BadRow C_BadTable C_Failed C_FailsError C_InvalidCommand C_InvalidText C_KeyTaken C_NameTaken C_NoColumn C_NoCourse C_NoGoal C_NoPlan C_NoQuestion C_NoRow C_NoRun C_NoTable C_NotPlain C_NothingAsked C_Outdated C_TooGreat) : DefE P w0 K mg base 1 "NoCourse" C_NoCourse ["number"] := by
  obtain ⟨fI, fd, a, b, c, d, F⟩ := T.ex_NoCourse
  exact defE1 a b c T.mg_NoCourse d F (sc_NoCourse_init (γ := Gd.non)) T.bi_FailsError T.mg_FailsError rfl (.inl rfl) (.inl rfl) rfl rfl (fun _ _ _ _ _ _ us hl => match us, hl with | [_, _], _ => rfl) rfl (fun env => ⟨_, rfl⟩) (fun env => rfl)
theorem D_K_NoCourse_init (T : Tops K mg base C_BadRow C_BadTable C_Failed C_FailsError C_InvalidCommand C_InvalidText C_KeyTaken C_NameTaken C_NoColumn C_NoCourse C_NoGoal C_NoPlan C_NoQuestion C_NoRow C_NoRun C_NoTable C_NotPlain C_NothingAsked C_Outdated C_TooGreat) : DefEK P w0 K mg base 1 "NoCourse" C_NoCourse ["number"] ["number"] [0] := by
  obtain ⟨fI, fd, a, b, c, d0, F⟩ := T.ex_NoCourse
  exact defEK_of a b c T.mg_NoCourse F (fnE1 (x := "NoCourse") (k := 0) a b c T.mg_NoCourse d0 F (sc_NoCourse_init (γ := Gd.non)) T.bi_FailsError T.mg_FailsError rfl (.inl rfl) (.inl rfl) rfl rfl (fun _ _ _ _ _ _ us hl => match us, hl with | [_, _], _ => rfl) rfl (fun env => ⟨_, rfl⟩) (fun env => rfl)) (fun kV doc pm an cdv ct u ws l => match ws, l with | [_], _ => rfl)
theorem D_law_deck (T : Tops K mg base C_BadRow C_BadTable C_Failed C_FailsError C_InvalidCommand C_InvalidText C_KeyTaken C_NameTaken C_NoColumn C_NoCourse C_NoGoal C_NoPlan C_NoQuestion C_NoRow C_NoRun C_NoTable C_NotPlain C_NothingAsked C_Outdated C_TooGreat) : Def P w0 K mg base 1 "_law_deck" s_law_deck ["_law_script"] (wfDeck "total") := def_of T.a_law_deck (sc_law_deck (γ := Gd.non)) (dv_law_deck (γ := Gd.non) T) (fun ds μ Q hl h => deck_ok (S := 77011) (B := 48271) (A := 2147483629) (C := 41) (M := 2147483587) (by decide) (by decide) (by decide) (by decide) (by decide) ds μ Q hl h)
theorem D_law_draw (T : Tops K mg base C_BadRow C_BadTable C_Failed C_FailsError C_InvalidCommand C_InvalidText C_KeyTaken C_NameTaken C_NoColumn C_NoCourse C_NoGoal C_NoPlan C_NoQuestion C_NoRow C_NoRun C_NoTable C_NotPlain C_NothingAsked C_Outdated C_TooGreat) : Def P w0 K mg base 1 "_law_draw" s_law_draw ["_law_deck_here", "_law_many"] (wfDraw "total") := def_of T.a_law_draw (sc_law_draw (γ := Gd.non)) (dv_law_draw (γ := Gd.non) T) (fun ds μ Q hl h => draw_ok (A := 2147483629) (B := 60251) (C := 47) (D := 40692) (E := 2147483647) (F := 69809) (G := 31) (I := 2147483587) (J := 39409) (L := 2147483563) (M := 64) (by decide) (by decide) (by decide) (by decide) (by decide) (by decide) (by decide) (by decide) (by decide) ds μ Q hl h)
theorem D_law_pick (T : Tops K mg base C_BadRow C_BadTable C_Failed C_FailsError C_InvalidCommand C_InvalidText C_KeyTaken C_NameTaken C_NoColumn C_NoCourse C_NoGoal C_NoPlan C_NoQuestion C_NoRow C_NoRun C_NoTable C_NotPlain C_NothingAsked C_Outdated C_TooGreat) : Def P w0 K mg base 2 "_law_pick" s_law_pick ["_law_deck_here", "_law_some"] (wfPick "total") := def_of T.a_law_pick (sc_law_pick (γ := Gd.non)) (dv_law_pick (γ := Gd.non) T (D_law_draw T)) (pick_ok)
theorem D_law_thing (T : Tops K mg base C_BadRow C_BadTable C_Failed C_FailsError C_InvalidCommand C_InvalidText C_KeyTaken C_NameTaken C_NoColumn C_NoCourse C_NoGoal C_NoPlan C_NoQuestion C_NoRow C_NoRun C_NoTable C_NotPlain C_NothingAsked C_Outdated C_TooGreat) : ∀ n : Nat, Def P w0 K mg base (n + 3) "_law_thing" s_law_thing ["_law_deck_here", "_law_deep"] (wfThing n)
  | 0 => def_of T.a_law_thing (sc_law_thing (γ := Gd.non)) (dv_law_thing (γ := Gd.non) T (kk := 0) (lv := 2) (by omega) (by omega) (D_law_draw T) (Def.no (γ := Gd.non) T.a_law_thing) (D_law_pick T)) (p_law_thing wfNo 0 fun n' e => by omega)
  | n + 1 => def_of T.a_law_thing (sc_law_thing (γ := Gd.non)) (dv_law_thing (γ := Gd.non) T (kk := n + 3) (lv := n + 3) (by omega) (by omega) (D_law_draw T) (D_law_thing T n) (D_law_pick T)) (p_law_thing (wfThing n) (n + 1) fun n' e => by
      obtain rfl : n = n' := by omega
      exact fun _ _ _ h => h)
theorem D_law_own_kinds (T : Tops K mg base C_BadRow C_BadTable C_Failed C_FailsError C_InvalidCommand C_InvalidText C_KeyTaken C_NameTaken C_NoColumn C_NoCourse C_NoGoal C_NoPlan C_NoQuestion C_NoRow C_NoRun C_NoTable C_NotPlain C_NothingAsked C_Outdated C_TooGreat) : Def P w0 K mg base 1 "_law_own_kinds" s_law_own_kinds ["_law_e"] (wfOwn (clsL C_BadRow C_BadTable C_Failed C_InvalidCommand C_InvalidText C_KeyTaken C_NameTaken C_NoColumn C_NoCourse C_NoGoal C_NoPlan C_NoQuestion C_NoRow C_NoRun C_NoTable C_NotPlain C_NothingAsked C_Outdated C_TooGreat)) := def_of T.a_law_own_kinds (sc_law_own_kinds (γ := Gd.non)) (dv_law_own_kinds (γ := Gd.non) T) (p_law_own_kinds (kk_of T))
theorem D_law_other_kinds (T : Tops K mg base C_BadRow C_BadTable C_Failed C_FailsError C_InvalidCommand C_InvalidText C_KeyTaken C_NameTaken C_NoColumn C_NoCourse C_NoGoal C_NoPlan C_NoQuestion C_NoRow C_NoRun C_NoTable C_NotPlain C_NothingAsked C_Outdated C_TooGreat) : Def P w0 K mg base 1 "_law_other_kinds" s_law_other_kinds ["_law_e"] (wfOth (clsL C_BadRow C_BadTable C_Failed C_InvalidCommand C_InvalidText C_KeyTaken C_NameTaken C_NoColumn C_NoCourse C_NoGoal C_NoPlan C_NoQuestion C_NoRow C_NoRun C_NoTable C_NotPlain C_NothingAsked C_Outdated C_TooGreat)) := def_of T.a_law_other_kinds (sc_law_other_kinds (γ := Gd.non)) (dv_law_other_kinds (γ := Gd.non) T) (p_law_other_kinds (kk_of T))
theorem D_H_law_own_kinds (T : Tops K mg base C_BadRow C_BadTable C_Failed C_FailsError C_InvalidCommand C_InvalidText C_KeyTaken C_NameTaken C_NoColumn C_NoCourse C_NoGoal C_NoPlan C_NoQuestion C_NoRow C_NoRun C_NoTable C_NotPlain C_NothingAsked C_Outdated C_TooGreat) : HotD P w0 K mg base 1 "_law_own_kinds" ["_law_e"] (wfOwnH (clsL C_BadRow C_BadTable C_Failed C_InvalidCommand C_InvalidText C_KeyTaken C_NameTaken C_NoColumn C_NoCourse C_NoGoal C_NoPlan C_NoQuestion C_NoRow C_NoRun C_NoTable C_NotPlain C_NothingAsked C_Outdated C_TooGreat)) := hotD_at T.a_law_own_kinds (sc_law_own_kinds (γ := Gd.non)) (fun _ _ _ _ _ _ us hl => match us, hl with | [_], _ => rfl) (fun γ f cdv A fr s H a oe C d fs hz hf kx => dvH_law_own_kinds (γ := γ) T f cdv A fr s H a oe C d fs hz hf kx) (pH_law_own_kinds (kk_of T))
theorem D_H_law_other_kinds (T : Tops K mg base C_BadRow C_BadTable C_Failed C_FailsError C_InvalidCommand C_InvalidText C_KeyTaken C_NameTaken C_NoColumn C_NoCourse C_NoGoal C_NoPlan C_NoQuestion C_NoRow C_NoRun C_NoTable C_NotPlain C_NothingAsked C_Outdated C_TooGreat) : HotD P w0 K mg base 1 "_law_other_kinds" ["_law_e"] (wfOthH (clsL C_BadRow C_BadTable C_Failed C_InvalidCommand C_InvalidText C_KeyTaken C_NameTaken C_NoColumn C_NoCourse C_NoGoal C_NoPlan C_NoQuestion C_NoRow C_NoRun C_NoTable C_NotPlain C_NothingAsked C_Outdated C_TooGreat)) := hotD_at T.a_law_other_kinds (sc_law_other_kinds (γ := Gd.non)) (fun _ _ _ _ _ _ us hl => match us, hl with | [_], _ => rfl) (fun γ f cdv A fr s H a oe C d fs hz hf kx => dvH_law_other_kinds (γ := γ) T f cdv A fr s H a oe C d fs hz hf kx) (pH_law_other_kinds (kk_of T))
theorem D_law_made (T : Tops K mg base C_BadRow C_BadTable C_Failed C_FailsError C_InvalidCommand C_InvalidText C_KeyTaken C_NameTaken C_NoColumn C_NoCourse C_NoGoal C_NoPlan C_NoQuestion C_NoRow C_NoRun C_NoTable C_NotPlain C_NothingAsked C_Outdated C_TooGreat) : Def P w0 K mg base 3 "_law_made" s_law_made ["_law_which", "_law_things"] (wfMade (clsL C_BadRow C_BadTable C_Failed C_InvalidCommand C_InvalidText C_KeyTaken C_NameTaken C_NoColumn C_NoCourse C_NoGoal C_NoPlan C_NoQuestion C_NoRow C_NoRun C_NoTable C_NotPlain C_NothingAsked C_Outdated C_TooGreat)) := def_of T.a_law_made (sc_law_made (γ := Gd.non)) (dv_law_made (γ := Gd.non) T (D_Failed_init T) (D_NameTaken_init T) (D_NoTable_init T) (D_NoColumn_init T) (D_BadTable_init T) (D_BadRow_init T) (D_KeyTaken_init T) (D_NoRow_init T) (D_NoGoal_init T) (D_NoCourse_init T) (D_TooGreat_init T) (D_Outdated_init T)) (p_law_made (fok_of T))
theorem D_law_by_name (T : Tops K mg base C_BadRow C_BadTable C_Failed C_FailsError C_InvalidCommand C_InvalidText C_KeyTaken C_NameTaken C_NoColumn C_NoCourse C_NoGoal C_NoPlan C_NoQuestion C_NoRow C_NoRun C_NoTable C_NotPlain C_NothingAsked C_Outdated C_TooGreat) : Def P w0 K mg base 3 "_law_by_name" s_law_by_name ["_law_things"] (wfByName) := def_of T.a_law_by_name (sc_law_by_name (γ := Gd.non)) (dv_law_by_name (γ := Gd.non) T (D_K_Failed_init T) (D_K_BadTable_init T) (D_K_NameTaken_init T) (D_K_BadRow_init T) (D_K_NoColumn_init T) (D_K_NoTable_init T) (D_K_TooGreat_init T) (D_K_NoRow_init T) (D_K_KeyTaken_init T) (D_K_NoGoal_init T) (D_K_Outdated_init T) (D_K_NoCourse_init T)) (p_law_by_name (fok_of T))
theorem D_law_first_raised (T : Tops K mg base C_BadRow C_BadTable C_Failed C_FailsError C_InvalidCommand C_InvalidText C_KeyTaken C_NameTaken C_NoColumn C_NoCourse C_NoGoal C_NoPlan C_NoQuestion C_NoRow C_NoRun C_NoTable C_NotPlain C_NothingAsked C_Outdated C_TooGreat) : DefX P w0 K mg base 3 "_law_first_raised" s_law_first_raised [] [] ["_law_which", "_law_things"] (wfFirst (clsL C_BadRow C_BadTable C_Failed C_InvalidCommand C_InvalidText C_KeyTaken C_NameTaken C_NoColumn C_NoCourse C_NoGoal C_NoPlan C_NoQuestion C_NoRow C_NoRun C_NoTable C_NotPlain C_NothingAsked C_Outdated C_TooGreat)) := defX_of (at1_d T.a_law_first_raised) (sc_law_first_raised (γ := Gd.non)) (dv_law_first_raised (γ := Gd.non) T (D_Failed_init T) (D_NameTaken_init T) (D_BadTable_init T) (D_NoTable_init T) (D_NoColumn_init T) (D_BadRow_init T) (D_KeyTaken_init T) (D_NoRow_init T) (D_TooGreat_init T) (D_Outdated_init T) (D_NoGoal_init T) (D_NoCourse_init T)) (p_law_first_raised)
theorem D_law_raised (T : Tops K mg base C_BadRow C_BadTable C_Failed C_FailsError C_InvalidCommand C_InvalidText C_KeyTaken C_NameTaken C_NoColumn C_NoCourse C_NoGoal C_NoPlan C_NoQuestion C_NoRow C_NoRun C_NoTable C_NotPlain C_NothingAsked C_Outdated C_TooGreat) : DefX P w0 K mg base 4 "_law_raised" s_law_raised [] [] ["_law_which", "_law_things"] (wfRaised (clsL C_BadRow C_BadTable C_Failed C_InvalidCommand C_InvalidText C_KeyTaken C_NameTaken C_NoColumn C_NoCourse C_NoGoal C_NoPlan C_NoQuestion C_NoRow C_NoRun C_NoTable C_NotPlain C_NothingAsked C_Outdated C_TooGreat)) := defX_of (at1_d T.a_law_raised) (sc_law_raised (γ := Gd.non)) (dv_law_raised (γ := Gd.non) T (D_law_first_raised T)) (p_law_raised)
theorem D_law_caught (T : Tops K mg base C_BadRow C_BadTable C_Failed C_FailsError C_InvalidCommand C_InvalidText C_KeyTaken C_NameTaken C_NoColumn C_NoCourse C_NoGoal C_NoPlan C_NoQuestion C_NoRow C_NoRun C_NoTable C_NotPlain C_NothingAsked C_Outdated C_TooGreat) : Def P w0 K mg base 5 "_law_caught" s_law_caught ["_law_which", "_law_things"] (wfCaught) := def_of T.a_law_caught (sc_law_caught (γ := Gd.non)) (dv_law_caught (γ := Gd.non) T (D_H_law_own_kinds T) (D_H_law_other_kinds T) (D_law_raised T)) (p_law_caught (kk_of T) (mtk_of T))
theorem D_law_right (T : Tops K mg base C_BadRow C_BadTable C_Failed C_FailsError C_InvalidCommand C_InvalidText C_KeyTaken C_NameTaken C_NoColumn C_NoCourse C_NoGoal C_NoPlan C_NoQuestion C_NoRow C_NoRun C_NoTable C_NotPlain C_NothingAsked C_Outdated C_TooGreat) : Def P w0 K mg base 6 "_law_right" s_law_right ["_law_which", "_law_things"] (wfRight) := def_of T.a_law_right (sc_law_right (γ := Gd.non)) (dv_law_right (γ := Gd.non) T (D_law_made T) (D_law_own_kinds T) (D_law_other_kinds T) (D_law_caught T)) (p_law_right (kk_of T))
theorem law_end {h : Heap} {fa : Addr} (_ : K.In h) (_ : h.Ns mainGlobals mg) (_ : ∃ o, h.get? sysModules = some o) (hfa : mg "law" = some (.ref fa)) (T0 : Tops K mg h C_BadRow C_BadTable C_Failed C_FailsError C_InvalidCommand C_InvalidText C_KeyTaken C_NameTaken C_NoColumn C_NoCourse C_NoGoal C_NoPlan C_NoQuestion C_NoRow C_NoRun C_NoTable C_NotPlain C_NothingAsked C_Outdated C_TooGreat) :
    ∃ fd : FuncData, (∀ (s : Shared) (u : Value), BindsTo s fd ⟨[u], []⟩ [("_law_script", u)]) ∧ ∀ base : Heap, K.In base → base.Ns mainGlobals mg → (∃ o, base.get? sysModules = some o) → FnG P w0 K mg base 13 fa fd ["_law_script"] (spD K 1 wfLaw) := by
  obtain ⟨f, fd, h1, F⟩ := T0.a_law_main
  have e := hfa.symm.trans h1
  cases e
  refine ⟨fd, fun s u => ?_, fun base _ _ hsm => ?_⟩
  · obtain ⟨oc, od, kV, doc, pm, an, cdv, ct, osl, rfl, lk, hcd⟩ := F.ex
    exact .of_eq rfl
  · have T : Tops K mg base C_BadRow C_BadTable C_Failed C_FailsError C_InvalidCommand C_InvalidText C_KeyTaken C_NameTaken C_NoColumn C_NoCourse C_NoGoal C_NoPlan C_NoQuestion C_NoRow C_NoRun C_NoTable C_NotPlain C_NothingAsked C_Outdated C_TooGreat := { T0 with sm := hsm }
    exact fn_dat F (sc_law_main (γ := Gd.non)) rfl (dv_law_main (γ := Gd.non) T (D_law_deck T) ((D_law_thing T 3).mono (γ := Gd.non) (by decide)) (D_law_right T) (D_law_by_name T) fa) p_law
end
end K01
set_option Elab.async false
set_option linter.all false
set_option maxRecDepth 100000
set_option maxHeartbeats 0
open PySem PySem.W PyProof.Rows
theorem PySem.Challenge.cw_failsalike_k01_errors_holds : PySem.Challenge.rw_failsalike_k01_errors.Holds := by
  w_on; o_law; k_head; (case hw => w_witness2)
  k_fill
  refine Dz.walk_ofG (l := PySem.Challenge.rw_failsalike_k01_errors) (n := 63) (k := 13) (x := "_law_script") (sp := fun K => Dz.spD K 1 K01.wfLaw) rfl (by decide) (by decide +kernel) rfl ⟨rfl, by decide, by decide⟩ (fun w h Y => PySem.W.kIn_of Y) ?F ?hsp
  case hsp => exact fun K H a ns _ _ hS => Dz.law_start (fun μ P hq => ⟨ns, rfl, hq⟩) hS
  case F =>
    intro w mg fa h KX G hsm hmg
    refine' K01.law_end KX G hsm hmg ?T
    case T =>
      refine' K01.Tops.mk ?t0 ?t1 ?t2 ?t3 ?t4 ?t5 ?t6 ?t7 ?t8 ?t9 ?t10 ?t11 ?t12 ?t13 ?t14 ?t15 ?t16 ?t17 ?t18 ?t19 ?t20 ?t21 ?t22 ?t23 ?t24 ?t25 ?t26 ?t27 ?t28 ?t29 ?t30 ?t31 ?t32 ?t33 ?t34 ?t35 ?t36 ?t37 ?t38 ?t39 ?t40 ?t41 ?t42 ?t43 ?t44 ?t45 ?t46 ?t47 ?t48 ?t49 ?t50 ?t51 ?t52 ?t53 ?t54 ?t55 ?t56 ?t57 ?t58 ?t59 ?t60 ?t61 ?t62 ?t63 ?t64 ?t65 ?t66 ?t67 ?t68 ?t69 ?t70 ?t71 ?t72 ?t73 ?t74 ?t75 ?t76 ?t77 ?t78 ?t79 ?t80 ?t81 ?t82 ?t83 ?t84 ?t85 ?t86 ?t87 ?t88 ?t89 ?t90
      case t0 =>
        refine' PySem.W.mg_of KX G ?a
        (case a => k_is)
      case t3 =>
        refine' PySem.W.mg_of KX G ?a
        (case a => k_is)
      case t6 =>
        refine' PySem.W.mg_of KX G ?a
        (case a => k_is)
      case t9 =>
        refine' PySem.W.mg_of KX G ?a
        (case a => k_is)
      case t10 =>
        refine' PySem.W.mg_of KX G ?a
        (case a => k_is)
      case t13 =>
        refine' PySem.W.mg_of KX G ?a
        (case a => k_is)
      case t16 =>
        refine' PySem.W.mg_of KX G ?a
        (case a => k_is)
      case t19 =>
        refine' PySem.W.mg_of KX G ?a
        (case a => k_is)
      case t22 =>
        refine' PySem.W.mg_of KX G ?a
        (case a => k_is)
      case t25 =>
        refine' PySem.W.mg_of KX G ?a
        (case a => k_is)
      case t28 =>
        refine' PySem.W.mg_of KX G ?a
        (case a => k_is)
      case t31 =>
        refine' PySem.W.mg_of KX G ?a
        (case a => k_is)
      case t34 =>
        refine' PySem.W.mg_of KX G ?a
        (case a => k_is)
      case t37 =>
        refine' PySem.W.mg_of KX G ?a
        (case a => k_is)
      case t40 =>
        refine' PySem.W.mg_of KX G ?a
        (case a => k_is)
      case t43 =>
        refine' PySem.W.mg_of KX G ?a
        (case a => k_is)
      case t46 =>
        refine' PySem.W.mg_of KX G ?a
        (case a => k_is)
      case t49 =>
        refine' PySem.W.mg_of KX G ?a
        (case a => k_is)
      case t52 =>
        refine' PySem.W.mg_of KX G ?a
        (case a => k_is)
      case t55 =>
        refine' PySem.W.mg_of KX G ?a
        (case a => k_is)
      case t1 =>
        refine' Dz.atE_of (Dz.excI_of ?e1 ?e2 ?e3 ?e4 ?e5 ?e6) ?a ?t ?n ?l ?c ?k
        (case e1 => kx_is); (case e2 => k_is); (case e3 => k_is); (case e4 => k_is); (case e5 => k_is); (case e6 => k_is); (case a => k_is); (case t => k_is); (case n => k_is); (case l => k_is); (case c => k_is); (case k => k_is)
      case t2 =>
        refine' Dz.mt_of ?a
        (case a => kts_exm)
      case t4 =>
        refine' Dz.atE_of (Dz.excI_of ?e1 ?e2 ?e3 ?e4 ?e5 ?e6) ?a ?t ?n ?l ?c ?k
        (case e1 => kx_is); (case e2 => k_is); (case e3 => k_is); (case e4 => k_is); (case e5 => k_is); (case e6 => k_is); (case a => k_is); (case t => k_is); (case n => k_is); (case l => k_is); (case c => k_is); (case k => k_is)
      case t5 =>
        refine' Dz.mt_of ?a
        (case a => kts_exm)
      case t7 =>
        refine' Dz.atE3_of (Dz.excI_of ?e1 ?e2 ?e3 ?e4 ?e5 ?e6) ?a ?t ?n1 ?n2 ?n3 ?l ?c ?k
        (case e1 => kx_is); (case e2 => k_is); (case e3 => k_is); (case e4 => k_is); (case e5 => k_is); (case e6 => k_is); (case a => k_is); (case t => k_is); (case n1 => k_is); (case n2 => k_is); (case n3 => k_is); (case l => k_is); (case c => k_is); (case k => k_is)
      case t8 =>
        refine' Dz.mt_of ?a
        (case a => kts_exm)
      case t11 =>
        refine' Dz.AtEN.mk (PySem.W.mg_of KX G ?nb) ?nq ?nk ?ns ?nt
        (case nb => k_is); (case nq => k_exc); (case nk => k_is); (case ns => k_is); (case nt => k_is)
      case t12 =>
        refine' Dz.mt_of ?a
        (case a => kts_exm)
      case t14 =>
        refine' Dz.AtEN.mk (PySem.W.mg_of KX G ?nb) ?nq ?nk ?ns ?nt
        (case nb => k_is); (case nq => k_exc); (case nk => k_is); (case ns => k_is); (case nt => k_is)
      case t15 =>
        refine' Dz.mt_of ?a
        (case a => kts_exm)
      case t17 =>
        refine' Dz.atE_of (Dz.excI_of ?e1 ?e2 ?e3 ?e4 ?e5 ?e6) ?a ?t ?n ?l ?c ?k
        (case e1 => kx_is); (case e2 => k_is); (case e3 => k_is); (case e4 => k_is); (case e5 => k_is); (case e6 => k_is); (case a => k_is); (case t => k_is); (case n => k_is); (case l => k_is); (case c => k_is); (case k => k_is)
      case t18 =>
        refine' Dz.mt_of ?a
        (case a => kts_exm)
      case t20 =>
        refine' Dz.atE_of (Dz.excI_of ?e1 ?e2 ?e3 ?e4 ?e5 ?e6) ?a ?t ?n ?l ?c ?k
        (case e1 => kx_is); (case e2 => k_is); (case e3 => k_is); (case e4 => k_is); (case e5 => k_is); (case e6 => k_is); (case a => k_is); (case t => k_is); (case n => k_is); (case l => k_is); (case c => k_is); (case k => k_is)
      case t21 =>
        refine' Dz.mt_of ?a
        (case a => kts_exm)
      case t23 =>
        refine' Dz.atE_of (Dz.excI_of ?e1 ?e2 ?e3 ?e4 ?e5 ?e6) ?a ?t ?n ?l ?c ?k
        (case e1 => kx_is); (case e2 => k_is); (case e3 => k_is); (case e4 => k_is); (case e5 => k_is); (case e6 => k_is); (case a => k_is); (case t => k_is); (case n => k_is); (case l => k_is); (case c => k_is); (case k => k_is)
      case t24 =>
        refine' Dz.mt_of ?a
        (case a => kts_exm)
      case t26 =>
        refine' Dz.atE_of (Dz.excI_of ?e1 ?e2 ?e3 ?e4 ?e5 ?e6) ?a ?t ?n ?l ?c ?k
        (case e1 => kx_is); (case e2 => k_is); (case e3 => k_is); (case e4 => k_is); (case e5 => k_is); (case e6 => k_is); (case a => k_is); (case t => k_is); (case n => k_is); (case l => k_is); (case c => k_is); (case k => k_is)
      case t27 =>
        refine' Dz.mt_of ?a
        (case a => kts_exm)
      case t29 =>
        refine' Dz.atE_of (Dz.excI_of ?e1 ?e2 ?e3 ?e4 ?e5 ?e6) ?a ?t ?n ?l ?c ?k
        (case e1 => kx_is); (case e2 => k_is); (case e3 => k_is); (case e4 => k_is); (case e5 => k_is); (case e6 => k_is); (case a => k_is); (case t => k_is); (case n => k_is); (case l => k_is); (case c => k_is); (case k => k_is)
      case t30 =>
        refine' Dz.mt_of ?a
        (case a => kts_exm)
      case t32 =>
        refine' Dz.AtEN.mk (PySem.W.mg_of KX G ?nb) ?nq ?nk ?ns ?nt
        (case nb => k_is); (case nq => k_exc); (case nk => k_is); (case ns => k_is); (case nt => k_is)
      case t33 =>
        refine' Dz.mt_of ?a
        (case a => kts_exm)
      case t35 =>
        refine' Dz.AtEN.mk (PySem.W.mg_of KX G ?nb) ?nq ?nk ?ns ?nt
        (case nb => k_is); (case nq => k_exc); (case nk => k_is); (case ns => k_is); (case nt => k_is)
      case t36 =>
        refine' Dz.mt_of ?a
        (case a => kts_exm)
      case t38 =>
        refine' Dz.atE_of (Dz.excI_of ?e1 ?e2 ?e3 ?e4 ?e5 ?e6) ?a ?t ?n ?l ?c ?k
        (case e1 => kx_is); (case e2 => k_is); (case e3 => k_is); (case e4 => k_is); (case e5 => k_is); (case e6 => k_is); (case a => k_is); (case t => k_is); (case n => k_is); (case l => k_is); (case c => k_is); (case k => k_is)
      case t39 =>
        refine' Dz.mt_of ?a
        (case a => kts_exm)
      case t41 =>
        refine' Dz.AtEN.mk (PySem.W.mg_of KX G ?nb) ?nq ?nk ?ns ?nt
        (case nb => k_is); (case nq => k_exc); (case nk => k_is); (case ns => k_is); (case nt => k_is)
      case t42 =>
        refine' Dz.mt_of ?a
        (case a => kts_exm)
      case t44 =>
        refine' Dz.atE_of (Dz.excI_of ?e1 ?e2 ?e3 ?e4 ?e5 ?e6) ?a ?t ?n ?l ?c ?k
        (case e1 => kx_is); (case e2 => k_is); (case e3 => k_is); (case e4 => k_is); (case e5 => k_is); (case e6 => k_is); (case a => k_is); (case t => k_is); (case n => k_is); (case l => k_is); (case c => k_is); (case k => k_is)
      case t45 =>
        refine' Dz.mt_of ?a
        (case a => kts_exm)
      case t47 =>
        refine' Dz.AtEN.mk (PySem.W.mg_of KX G ?nb) ?nq ?nk ?ns ?nt
        (case nb => k_is); (case nq => k_exc); (case nk => k_is); (case ns => k_is); (case nt => k_is)
      case t48 =>
        refine' Dz.mt_of ?a
        (case a => kts_exm)
      case t50 =>
        refine' Dz.AtEN.mk (PySem.W.mg_of KX G ?nb) ?nq ?nk ?ns ?nt
        (case nb => k_is); (case nq => k_exc); (case nk => k_is); (case ns => k_is); (case nt => k_is)
      case t51 =>
        refine' Dz.mt_of ?a
        (case a => kts_exm)
      case t53 =>
        refine' Dz.atE_of (Dz.excI_of ?e1 ?e2 ?e3 ?e4 ?e5 ?e6) ?a ?t ?n ?l ?c ?k
        (case e1 => kx_is); (case e2 => k_is); (case e3 => k_is); (case e4 => k_is); (case e5 => k_is); (case e6 => k_is); (case a => k_is); (case t => k_is); (case n => k_is); (case l => k_is); (case c => k_is); (case k => k_is)
      case t54 =>
        refine' Dz.mt_of ?a
        (case a => kts_exm)
      case t56 =>
        refine' Dz.atE_of (Dz.excI_of ?e1 ?e2 ?e3 ?e4 ?e5 ?e6) ?a ?t ?n ?l ?c ?k
        (case e1 => kx_is); (case e2 => k_is); (case e3 => k_is); (case e4 => k_is); (case e5 => k_is); (case e6 => k_is); (case a => k_is); (case t => k_is); (case n => k_is); (case l => k_is); (case c => k_is); (case k => k_is)
      case t57 =>
        refine' Dz.mt_of ?a
        (case a => kts_exm)
      case t58 =>
        kernel_rfl
      case t59 =>
        kernel_rfl
      case t60 =>
        kernel_rfl
      case t61 =>
        refine' Dz.baseI_of ?a ?b ?c
        (case a => k_is); (case b => k_is); (case c => k_is)
      case t62 =>
        refine' Dz.at1_of KX G ?a ?l ?c ?k
        (case a => k_is); (case l => k_is); (case c => k_is); (case k => k_is)
      case t63 =>
        refine' Dz.at1_of KX G ?a ?l ?c ?k
        (case a => k_is); (case l => k_is); (case c => k_is); (case k => k_is)
      case t64 =>
        refine' Dz.at1_of KX G ?a ?l ?c ?k
        (case a => k_is); (case l => k_is); (case c => k_is); (case k => k_is)
      case t65 =>
        refine' Dz.at1_of KX G ?a ?l ?c ?k
        (case a => k_is); (case l => k_is); (case c => k_is); (case k => k_is)
      case t66 =>
        refine' Dz.at1_of KX G ?a ?l ?c ?k
        (case a => k_is); (case l => k_is); (case c => k_is); (case k => k_is)
      case t67 =>
        refine' Dz.at1_of KX G ?a ?l ?c ?k
        (case a => k_is); (case l => k_is); (case c => k_is); (case k => k_is)
      case t68 =>
        refine' Dz.at1_of KX G ?a ?l ?c ?k
        (case a => k_is); (case l => k_is); (case c => k_is); (case k => k_is)
      case t69 =>
        refine' Dz.at1_of KX G ?a ?l ?c ?k
        (case a => k_is); (case l => k_is); (case c => k_is); (case k => k_is)
      case t70 =>
        refine' Dz.at1_of KX G ?a ?l ?c ?k
        (case a => k_is); (case l => k_is); (case c => k_is); (case k => k_is)
      case t71 =>
        refine' Dz.at1_of KX G ?a ?l ?c ?k
        (case a => k_is); (case l => k_is); (case c => k_is); (case k => k_is)
      case t72 =>
        refine' Dz.at1_of KX G ?a ?l ?c ?k
        (case a => k_is); (case l => k_is); (case c => k_is); (case k => k_is)
      case t73 =>
        refine' Dz.at1_of KX G ?a ?l ?c ?k
        (case a => k_is); (case l => k_is); (case c => k_is); (case k => k_is)
      case t74 =>
        refine' Dz.at1_of KX G ?a ?l ?c ?k
        (case a => k_is); (case l => k_is); (case c => k_is); (case k => k_is)
      case t75 =>
        refine' PySem.W.mg_none_of KX G ?z
        (case z => k_is)
      case t76 =>
        refine' PySem.W.mg_none_of KX G ?z
        (case z => k_is)
      case t77 =>
        refine' PySem.W.mg_none_of KX G ?z
        (case z => k_is)
      case t78 =>
        refine' PySem.W.mg_none_of KX G ?z
        (case z => k_is)
      case t79 =>
        refine' PySem.W.mg_none_of KX G ?z
        (case z => k_is)
      case t80 =>
        refine' PySem.W.mg_none_of KX G ?z
        (case z => k_is)
      case t81 =>
        refine' PySem.W.mg_none_of KX G ?z
        (case z => k_is)
      case t82 =>
        refine' PySem.W.mg_none_of KX G ?z
        (case z => k_is)
      case t83 =>
        refine' PySem.W.mg_none_of KX G ?z
        (case z => k_is)
      case t84 =>
        refine' PySem.W.mg_none_of KX G ?z
        (case z => k_is)
      case t85 =>
        refine' PySem.W.mg_none_of KX G ?z
        (case z => k_is)
      case t86 =>
        refine' PySem.W.mg_none_of KX G ?z
        (case z => k_is)
      case t87 =>
        refine' PySem.W.mg_none_of KX G ?z
        (case z => k_is)
      case t88 =>
        refine' PySem.W.mg_none_of KX G ?z
        (case z => k_is)
      case t89 =>
        refine' PySem.W.mg_none_of KX G ?z
        (case z => k_is)
      case t90 =>
        exact hsm
